import PyProof.Rows.All
import Wide.All
import OpenK.AllK
import Wide.FinOn
import Lean
import PySem.Challenge.RW_pb0093_01
set_option Elab.async false
set_option maxRecDepth 100000
set_option linter.unusedVariables false
local macro_rules | `(tactic| walk_at $s:str) => `(tactic| k_extra $s)
section
open PySem PySem.W PyProof.Rows
namespace Pb93
noncomputable abbrev pw := PySem.Challenge.pw_pb0093_01
end Pb93
namespace Pb93
/-- the arguments, the body and the names of the def that stands at place i of the text -/
noncomputable def part (i : Nat) : Arguments × List Stmt × Scope := match pw.main.body.drop i with
  | .FunctionDef _ a b _ _ _ sc _ _ _ :: _ => (a, b, sc)
  | .ClassDef _ _ _ (.FunctionDef _ a b _ _ _ sc _ _ _ :: _) _ _ _ _ _ _ _ :: _ => (a, b, sc)
  | _ => default
noncomputable def o2 (P : Params) : Obj := (Obj.mk Value.none none (Data.dict (List.toArray [(DictEntry.mk (PyData.keyHash P (Str.ofString "type.__subclasses__.Exception.0")) (Value.str (Str.ofString "type.__subclasses__.Exception.0") 215) (Value.int 32 0)), (DictEntry.mk (PyData.keyHash P (Str.ofString "type.__subclasses__.Exception.n")) (Value.str (Str.ofString "type.__subclasses__.Exception.n") 216) (Value.int 1 0))]) 2) (List.toArray []))
noncomputable def o3 (P : Params) : Obj := (Obj.mk (Value.type "dict") none (Data.dict (List.toArray [(DictEntry.mk (PyData.keyHash P (Str.ofString "__name__")) (Value.str (Str.ofString "__name__") 165) (Value.str (Str.ofString "law_pb0093_01") 417)), (DictEntry.mk (PyData.keyHash P (Str.ofString "__doc__")) (Value.str (Str.ofString "__doc__") 166) Value.none), (DictEntry.mk (PyData.keyHash P (Str.ofString "__package__")) (Value.str (Str.ofString "__package__") 167) Value.none), (DictEntry.mk (PyData.keyHash P (Str.ofString "__loader__")) (Value.str (Str.ofString "__loader__") 168) (Value.builtin "__main__.__loader__#opaque")), (DictEntry.mk (PyData.keyHash P (Str.ofString "__spec__")) (Value.str (Str.ofString "__spec__") 169) Value.none), (DictEntry.mk (PyData.keyHash P (Str.ofString "__annotations__")) (Value.str (Str.ofString "__annotations__") 170) (Value.ref 6)), (DictEntry.mk (PyData.keyHash P (Str.ofString "__builtins__")) (Value.str (Str.ofString "__builtins__") 171) (Value.ref 4)), (DictEntry.mk (PyData.keyHash P (Str.ofString "__file__")) (Value.str (Str.ofString "__file__") 173) (Value.str (Str.ofString "/claim/cut.py") 172)), (DictEntry.mk (PyData.keyHash P (Str.ofString "__cached__")) (Value.str (Str.ofString "__cached__") 174) Value.none), (DictEntry.mk (PyData.keyHash P (Str.ofString "GitError")) (Value.str (Str.ofString "GitError") 218) (Value.ref 32)), (DictEntry.mk (PyData.keyHash P (Str.ofString "BadPattern")) (Value.str (Str.ofString "BadPattern") 234) (Value.ref 45)), (DictEntry.mk (PyData.keyHash P (Str.ofString "text_of")) (Value.str (Str.ofString "text_of") 240) (Value.ref 52)), (DictEntry.mk (PyData.keyHash P (Str.ofString "MATCHING_BACKSLASH")) (Value.str (Str.ofString "MATCHING_BACKSLASH") 244) (Value.int 92 243)), (DictEntry.mk (PyData.keyHash P (Str.ofString "MATCHING_CLASSES")) (Value.str (Str.ofString "MATCHING_CLASSES") 315) (Value.ref 53)), (DictEntry.mk (PyData.keyHash P (Str.ofString "matching_within")) (Value.str (Str.ofString "matching_within") 325) (Value.ref 95)), (DictEntry.mk (PyData.keyHash P (Str.ofString "matching_trimmed")) (Value.str (Str.ofString "matching_trimmed") 334) (Value.ref 102)), (DictEntry.mk (PyData.keyHash P (Str.ofString "MATCHING_ESCAPES")) (Value.str (Str.ofString "MATCHING_ESCAPES") 362) (Value.ref 103)), (DictEntry.mk (PyData.keyHash P (Str.ofString "matching_unquoted")) (Value.str (Str.ofString "matching_unquoted") 372) (Value.ref 110)), (DictEntry.mk (PyData.keyHash P (Str.ofString "matching_octal")) (Value.str (Str.ofString "matching_octal") 381) (Value.ref 117)), (DictEntry.mk (PyData.keyHash P (Str.ofString "matching_words")) (Value.str (Str.ofString "matching_words") 387) (Value.ref 122)), (DictEntry.mk (PyData.keyHash P (Str.ofString "attribute_name")) (Value.str (Str.ofString "attribute_name") 395) (Value.ref 129)), (DictEntry.mk (PyData.keyHash P (Str.ofString "attribute_told")) (Value.str (Str.ofString "attribute_told") 405) (Value.ref 136)), (DictEntry.mk (PyData.keyHash P (Str.ofString "attributes_told")) (Value.str (Str.ofString "attributes_told") 416) (Value.ref 143)), (DictEntry.mk (PyData.keyHash P (Str.ofString "_law_draw")) (Value.str (Str.ofString "_law_draw") 427) (Value.ref 150)), (DictEntry.mk (PyData.keyHash P (Str.ofString "_law_text")) (Value.str (Str.ofString "_law_text") 433) (Value.ref 155)), (DictEntry.mk (PyData.keyHash P (Str.ofString "_law_name")) (Value.str (Str.ofString "_law_name") 439) (Value.ref 160)), (DictEntry.mk (PyData.keyHash P (Str.ofString "_law_pair")) (Value.str (Str.ofString "_law_pair") 449) (Value.ref 167)), (DictEntry.mk (PyData.keyHash P (Str.ofString "_law_word")) (Value.str (Str.ofString "_law_word") 455) (Value.ref 172)), (DictEntry.mk (PyData.keyHash P (Str.ofString "_law_told")) (Value.str (Str.ofString "_law_told") 464) (Value.ref 179)), (DictEntry.mk (PyData.keyHash P (Str.ofString "_law_attributes_right")) (Value.str (Str.ofString "_law_attributes_right") 470) (Value.ref 184)), (DictEntry.mk (PyData.keyHash P (Str.ofString "_law_words_right")) (Value.str (Str.ofString "_law_words_right") 476) (Value.ref 189)), (DictEntry.mk (PyData.keyHash P (Str.ofString "_law_quoted_right")) (Value.str (Str.ofString "_law_quoted_right") 482) (Value.ref 194)), (DictEntry.mk (PyData.keyHash P (Str.ofString "_law_trimmed_right")) (Value.str (Str.ofString "_law_trimmed_right") 488) (Value.ref 199)), (DictEntry.mk (PyData.keyHash P (Str.ofString "law")) (Value.str (Str.ofString "law") 494) (Value.ref 204))]) 34) (List.toArray []))
noncomputable def o15 (P : Params) : Obj := (Obj.mk (Value.type "tuple") none (Data.seq (List.toArray [(Value.type "Exception")]) 0) (List.toArray []))
noncomputable def o22 (P : Params) : Obj := (Obj.mk (Value.type "tuple") none (Data.seq (List.toArray [(Value.str (Str.ofString "") 201)]) 0) (List.toArray []))
noncomputable def o23 (P : Params) : Obj := (Obj.mk (Value.type "tuple") none (Data.seq (List.toArray []) 0) (List.toArray []))
noncomputable def o25 (P : Params) : Obj := (Obj.mk (Value.type "tuple") none (Data.seq (List.toArray [(Value.str (Str.ofString "self") 205), (Value.str (Str.ofString "told") 206)]) 0) (List.toArray []))
noncomputable def o26 (P : Params) : Obj := (Obj.mk (Value.type "tuple") none (Data.seq (List.toArray []) 0) (List.toArray []))
noncomputable def o28 (P : Params) : Obj := (Obj.mk (Value.type "code") none (Data.fields (List.toArray [(Value.str (Str.ofString "__init__") 202), (Value.str (Str.ofString "GitError.__init__") 203), (Value.str (Str.ofString "/claim/cut.py") 204), (Value.int 4 0), (Value.int 2 0), (Value.int 0 0), (Value.int 0 0), (Value.int 3 0), (Value.ref 23), (Value.bool Bool.true), (Value.int 181 0), (Value.ref 24), Value.none, (Value.ref 25), (Value.ref 26), (Value.ref 27), (Value.int 207 0), (Value.int 4 0), (Value.str (Str.ofString "/claim/cut.py") 208)])) (List.toArray []))
noncomputable def o29 (P : Params) : Obj := (Obj.mk (Value.type "function") none (Data.func (fnOf (Str.ofString "__init__") (Str.ofString "GitError.__init__") (part 1).1 (part 1).2.1 (part 1).2.2 (Value.ref 22) Value.none Value.none (Value.str (Str.ofString "gitcore.base") 187) none (Value.ref 28) Value.none)) (List.toArray []))
noncomputable def o30 (P : Params) : Obj := (Obj.mk (Value.type "tuple") none (Data.seq (List.toArray [(Value.str (Str.ofString "told") 210)]) 0) (List.toArray []))
noncomputable def o31 (P : Params) : Obj := (Obj.mk (Value.type "dict") none (Data.dict (List.toArray [(DictEntry.mk (PyData.keyHash P (Str.ofString "__module__")) (Value.str (Str.ofString "__module__") 196) (Value.str (Str.ofString "gitcore.base") 187)), (DictEntry.mk (PyData.keyHash P (Str.ofString "__firstlineno__")) (Value.str (Str.ofString "__firstlineno__") 200) (Value.int 2 199)), (DictEntry.mk (PyData.keyHash P (Str.ofString "__init__")) (Value.str (Str.ofString "__init__") 209) (Value.ref 29)), (DictEntry.mk (PyData.keyHash P (Str.ofString "__static_attributes__")) (Value.str (Str.ofString "__static_attributes__") 211) (Value.ref 30)), (DictEntry.mk (PyData.keyHash P (Str.ofString "__weakref__")) (Value.str (Str.ofString "__weakref__") 213) (Value.ref 33)), (DictEntry.mk (PyData.keyHash P (Str.ofString "__doc__")) (Value.str (Str.ofString "__doc__") 214) Value.none)]) 3) (List.toArray []))
noncomputable def o32 (P : Params) : Obj := (Obj.mk (Value.type "type") none (Data.cls (ClassData.mk (Str.ofString "GitError") [(Value.type "Exception")] [(Value.ref 32), (Value.type "Exception"), (Value.type "BaseException"), (Value.type "object")] 31 (Str.ofString "GitError") Bool.true [] [(Value.ref 45)] Bool.false none Bool.false)) (List.toArray [(some (Value.ref 15)), none, (some (Value.str (Str.ofString "GitError") 189)), (some (Value.str (Str.ofString "GitError") 197)), (some (Value.builtin "Exception.__new__")), (some (Value.bool Bool.true))]))
noncomputable def o33 (P : Params) : Obj := (Obj.mk (Value.type "getset_descriptor") none (Data.fields (List.toArray [(Value.str (Str.ofString "__weakref__") 212), (Value.ref 32), (Value.builtin "ExceptionGroup.__weakref__"), Value.none])) (List.toArray []))
noncomputable def o36 (P : Params) : Obj := (Obj.mk (Value.type "tuple") none (Data.seq (List.toArray [(Value.ref 32)]) 0) (List.toArray []))
noncomputable def o43 (P : Params) : Obj := (Obj.mk (Value.type "tuple") none (Data.seq (List.toArray []) 0) (List.toArray []))
noncomputable def o44 (P : Params) : Obj := (Obj.mk (Value.type "dict") none (Data.dict (List.toArray [(DictEntry.mk (PyData.keyHash P (Str.ofString "__module__")) (Value.str (Str.ofString "__module__") 226) (Value.str (Str.ofString "gitcore.base") 187)), (DictEntry.mk (PyData.keyHash P (Str.ofString "__firstlineno__")) (Value.str (Str.ofString "__firstlineno__") 230) (Value.int 6 229)), (DictEntry.mk (PyData.keyHash P (Str.ofString "__static_attributes__")) (Value.str (Str.ofString "__static_attributes__") 231) (Value.ref 43)), (DictEntry.mk (PyData.keyHash P (Str.ofString "__doc__")) (Value.str (Str.ofString "__doc__") 232) Value.none)]) 2) (List.toArray []))
noncomputable def o45 (P : Params) : Obj := (Obj.mk (Value.type "type") none (Data.cls (ClassData.mk (Str.ofString "BadPattern") [(Value.ref 32)] [(Value.ref 45), (Value.ref 32), (Value.type "Exception"), (Value.type "BaseException"), (Value.type "object")] 44 (Str.ofString "BadPattern") Bool.true [] [] Bool.false none Bool.false)) (List.toArray [(some (Value.ref 36)), none, (some (Value.str (Str.ofString "BadPattern") 219)), (some (Value.str (Str.ofString "BadPattern") 227)), (some (Value.builtin "Exception.__new__")), (some (Value.bool Bool.true))]))
noncomputable def o48 (P : Params) : Obj := (Obj.mk (Value.type "tuple") none (Data.seq (List.toArray []) 0) (List.toArray []))
noncomputable def o51 (P : Params) : Obj := (Obj.mk (Value.type "code") none (Data.fields (List.toArray [(Value.str (Str.ofString "text_of") 235), (Value.str (Str.ofString "text_of") 236), (Value.str (Str.ofString "/claim/cut.py") 237), (Value.int 8 0), (Value.int 1 0), (Value.int 0 0), (Value.int 0 0), (Value.int 3 0), (Value.ref 48), (Value.bool Bool.true), (Value.int 181 0), (Value.ref 49), Value.none, Value.none, Value.none, (Value.ref 50), (Value.int 238 0), (Value.int 8 0), (Value.str (Str.ofString "/claim/cut.py") 239)])) (List.toArray []))
noncomputable def o52 (P : Params) : Obj := (Obj.mk (Value.type "function") none (Data.func (fnOf (Str.ofString "text_of") (Str.ofString "text_of") (part 3).1 (part 3).2.1 (part 3).2.2 Value.none Value.none Value.none (Value.str (Str.ofString "gitcore.base") 187) none (Value.ref 51) Value.none)) (List.toArray []))
noncomputable def o53 (P : Params) : Obj := (Obj.mk (Value.type "dict") none (Data.dict (List.toArray [(DictEntry.mk (W.hashW P (W.WData.bytes [(97 : UInt8), (108 : UInt8), (110 : UInt8), (117 : UInt8), (109 : UInt8)])) (Value.bytes (List.toArray [(97 : UInt8), (108 : UInt8), (110 : UInt8), (117 : UInt8), (109 : UInt8)]) 245) (Value.ref 57)), (DictEntry.mk (W.hashW P (W.WData.bytes [(97 : UInt8), (108 : UInt8), (112 : UInt8), (104 : UInt8), (97 : UInt8)])) (Value.bytes (List.toArray [(97 : UInt8), (108 : UInt8), (112 : UInt8), (104 : UInt8), (97 : UInt8)]) 252) (Value.ref 60)), (DictEntry.mk (W.hashW P (W.WData.bytes [(98 : UInt8), (108 : UInt8), (97 : UInt8), (110 : UInt8), (107 : UInt8)])) (Value.bytes (List.toArray [(98 : UInt8), (108 : UInt8), (97 : UInt8), (110 : UInt8), (107 : UInt8)]) 257) (Value.ref 63)), (DictEntry.mk (W.hashW P (W.WData.bytes [(99 : UInt8), (110 : UInt8), (116 : UInt8), (114 : UInt8), (108 : UInt8)])) (Value.bytes (List.toArray [(99 : UInt8), (110 : UInt8), (116 : UInt8), (114 : UInt8), (108 : UInt8)]) 262) (Value.ref 66)), (DictEntry.mk (W.hashW P (W.WData.bytes [(100 : UInt8), (105 : UInt8), (103 : UInt8), (105 : UInt8), (116 : UInt8)])) (Value.bytes (List.toArray [(100 : UInt8), (105 : UInt8), (103 : UInt8), (105 : UInt8), (116 : UInt8)]) 267) (Value.ref 68)), (DictEntry.mk (W.hashW P (W.WData.bytes [(103 : UInt8), (114 : UInt8), (97 : UInt8), (112 : UInt8), (104 : UInt8)])) (Value.bytes (List.toArray [(103 : UInt8), (114 : UInt8), (97 : UInt8), (112 : UInt8), (104 : UInt8)]) 270) (Value.ref 70)), (DictEntry.mk (W.hashW P (W.WData.bytes [(108 : UInt8), (111 : UInt8), (119 : UInt8), (101 : UInt8), (114 : UInt8)])) (Value.bytes (List.toArray [(108 : UInt8), (111 : UInt8), (119 : UInt8), (101 : UInt8), (114 : UInt8)]) 273) (Value.ref 72)), (DictEntry.mk (W.hashW P (W.WData.bytes [(112 : UInt8), (114 : UInt8), (105 : UInt8), (110 : UInt8), (116 : UInt8)])) (Value.bytes (List.toArray [(112 : UInt8), (114 : UInt8), (105 : UInt8), (110 : UInt8), (116 : UInt8)]) 276) (Value.ref 74)), (DictEntry.mk (W.hashW P (W.WData.bytes [(112 : UInt8), (117 : UInt8), (110 : UInt8), (99 : UInt8), (116 : UInt8)])) (Value.bytes (List.toArray [(112 : UInt8), (117 : UInt8), (110 : UInt8), (99 : UInt8), (116 : UInt8)]) 279) (Value.ref 79)), (DictEntry.mk (W.hashW P (W.WData.bytes [(115 : UInt8), (112 : UInt8), (97 : UInt8), (99 : UInt8), (101 : UInt8)])) (Value.bytes (List.toArray [(115 : UInt8), (112 : UInt8), (97 : UInt8), (99 : UInt8), (101 : UInt8)]) 288) (Value.ref 82)), (DictEntry.mk (W.hashW P (W.WData.bytes [(117 : UInt8), (112 : UInt8), (112 : UInt8), (101 : UInt8), (114 : UInt8)])) (Value.bytes (List.toArray [(117 : UInt8), (112 : UInt8), (112 : UInt8), (101 : UInt8), (114 : UInt8)]) 293) (Value.ref 84)), (DictEntry.mk (W.hashW P (W.WData.bytes [(120 : UInt8), (100 : UInt8), (105 : UInt8), (103 : UInt8), (105 : UInt8), (116 : UInt8)])) (Value.bytes (List.toArray [(120 : UInt8), (100 : UInt8), (105 : UInt8), (103 : UInt8), (105 : UInt8), (116 : UInt8)]) 296) (Value.ref 88))]) 12) (List.toArray []))
noncomputable def o54 (P : Params) : Obj := (Obj.mk (Value.type "tuple") none (Data.seq (List.toArray [(Value.int 48 246), (Value.int 57 247)]) 0) (List.toArray []))
noncomputable def o55 (P : Params) : Obj := (Obj.mk (Value.type "tuple") none (Data.seq (List.toArray [(Value.int 65 248), (Value.int 90 249)]) 0) (List.toArray []))
noncomputable def o56 (P : Params) : Obj := (Obj.mk (Value.type "tuple") none (Data.seq (List.toArray [(Value.int 97 250), (Value.int 122 251)]) 0) (List.toArray []))
noncomputable def o57 (P : Params) : Obj := (Obj.mk (Value.type "tuple") none (Data.seq (List.toArray [(Value.ref 54), (Value.ref 55), (Value.ref 56)]) 0) (List.toArray []))
noncomputable def o58 (P : Params) : Obj := (Obj.mk (Value.type "tuple") none (Data.seq (List.toArray [(Value.int 65 253), (Value.int 90 254)]) 0) (List.toArray []))
noncomputable def o59 (P : Params) : Obj := (Obj.mk (Value.type "tuple") none (Data.seq (List.toArray [(Value.int 97 255), (Value.int 122 256)]) 0) (List.toArray []))
noncomputable def o60 (P : Params) : Obj := (Obj.mk (Value.type "tuple") none (Data.seq (List.toArray [(Value.ref 58), (Value.ref 59)]) 0) (List.toArray []))
noncomputable def o61 (P : Params) : Obj := (Obj.mk (Value.type "tuple") none (Data.seq (List.toArray [(Value.int 9 258), (Value.int 9 259)]) 0) (List.toArray []))
noncomputable def o62 (P : Params) : Obj := (Obj.mk (Value.type "tuple") none (Data.seq (List.toArray [(Value.int 32 260), (Value.int 32 261)]) 0) (List.toArray []))
noncomputable def o63 (P : Params) : Obj := (Obj.mk (Value.type "tuple") none (Data.seq (List.toArray [(Value.ref 61), (Value.ref 62)]) 0) (List.toArray []))
noncomputable def o64 (P : Params) : Obj := (Obj.mk (Value.type "tuple") none (Data.seq (List.toArray [(Value.int 0 263), (Value.int 31 264)]) 0) (List.toArray []))
noncomputable def o65 (P : Params) : Obj := (Obj.mk (Value.type "tuple") none (Data.seq (List.toArray [(Value.int 127 265), (Value.int 127 266)]) 0) (List.toArray []))
noncomputable def o66 (P : Params) : Obj := (Obj.mk (Value.type "tuple") none (Data.seq (List.toArray [(Value.ref 64), (Value.ref 65)]) 0) (List.toArray []))
noncomputable def o67 (P : Params) : Obj := (Obj.mk (Value.type "tuple") none (Data.seq (List.toArray [(Value.int 48 268), (Value.int 57 269)]) 0) (List.toArray []))
noncomputable def o68 (P : Params) : Obj := (Obj.mk (Value.type "tuple") none (Data.seq (List.toArray [(Value.ref 67)]) 0) (List.toArray []))
noncomputable def o69 (P : Params) : Obj := (Obj.mk (Value.type "tuple") none (Data.seq (List.toArray [(Value.int 33 271), (Value.int 126 272)]) 0) (List.toArray []))
noncomputable def o70 (P : Params) : Obj := (Obj.mk (Value.type "tuple") none (Data.seq (List.toArray [(Value.ref 69)]) 0) (List.toArray []))
noncomputable def o71 (P : Params) : Obj := (Obj.mk (Value.type "tuple") none (Data.seq (List.toArray [(Value.int 97 274), (Value.int 122 275)]) 0) (List.toArray []))
noncomputable def o72 (P : Params) : Obj := (Obj.mk (Value.type "tuple") none (Data.seq (List.toArray [(Value.ref 71)]) 0) (List.toArray []))
noncomputable def o73 (P : Params) : Obj := (Obj.mk (Value.type "tuple") none (Data.seq (List.toArray [(Value.int 32 277), (Value.int 126 278)]) 0) (List.toArray []))
noncomputable def o74 (P : Params) : Obj := (Obj.mk (Value.type "tuple") none (Data.seq (List.toArray [(Value.ref 73)]) 0) (List.toArray []))
noncomputable def o75 (P : Params) : Obj := (Obj.mk (Value.type "tuple") none (Data.seq (List.toArray [(Value.int 33 280), (Value.int 47 281)]) 0) (List.toArray []))
noncomputable def o76 (P : Params) : Obj := (Obj.mk (Value.type "tuple") none (Data.seq (List.toArray [(Value.int 58 282), (Value.int 64 283)]) 0) (List.toArray []))
noncomputable def o77 (P : Params) : Obj := (Obj.mk (Value.type "tuple") none (Data.seq (List.toArray [(Value.int 91 284), (Value.int 96 285)]) 0) (List.toArray []))
noncomputable def o78 (P : Params) : Obj := (Obj.mk (Value.type "tuple") none (Data.seq (List.toArray [(Value.int 123 286), (Value.int 126 287)]) 0) (List.toArray []))
noncomputable def o79 (P : Params) : Obj := (Obj.mk (Value.type "tuple") none (Data.seq (List.toArray [(Value.ref 75), (Value.ref 76), (Value.ref 77), (Value.ref 78)]) 0) (List.toArray []))
noncomputable def o80 (P : Params) : Obj := (Obj.mk (Value.type "tuple") none (Data.seq (List.toArray [(Value.int 9 289), (Value.int 13 290)]) 0) (List.toArray []))
noncomputable def o81 (P : Params) : Obj := (Obj.mk (Value.type "tuple") none (Data.seq (List.toArray [(Value.int 32 291), (Value.int 32 292)]) 0) (List.toArray []))
noncomputable def o82 (P : Params) : Obj := (Obj.mk (Value.type "tuple") none (Data.seq (List.toArray [(Value.ref 80), (Value.ref 81)]) 0) (List.toArray []))
noncomputable def o83 (P : Params) : Obj := (Obj.mk (Value.type "tuple") none (Data.seq (List.toArray [(Value.int 65 294), (Value.int 90 295)]) 0) (List.toArray []))
noncomputable def o84 (P : Params) : Obj := (Obj.mk (Value.type "tuple") none (Data.seq (List.toArray [(Value.ref 83)]) 0) (List.toArray []))
noncomputable def o85 (P : Params) : Obj := (Obj.mk (Value.type "tuple") none (Data.seq (List.toArray [(Value.int 48 297), (Value.int 57 298)]) 0) (List.toArray []))
noncomputable def o86 (P : Params) : Obj := (Obj.mk (Value.type "tuple") none (Data.seq (List.toArray [(Value.int 65 299), (Value.int 70 300)]) 0) (List.toArray []))
noncomputable def o87 (P : Params) : Obj := (Obj.mk (Value.type "tuple") none (Data.seq (List.toArray [(Value.int 97 301), (Value.int 102 302)]) 0) (List.toArray []))
noncomputable def o88 (P : Params) : Obj := (Obj.mk (Value.type "tuple") none (Data.seq (List.toArray [(Value.ref 85), (Value.ref 86), (Value.ref 87)]) 0) (List.toArray []))
noncomputable def o89 (P : Params) : Obj := (Obj.mk (Value.type "tuple") none (Data.seq (List.toArray []) 0) (List.toArray []))
noncomputable def o91 (P : Params) : Obj := (Obj.mk (Value.type "tuple") none (Data.seq (List.toArray [(Value.str (Str.ofString "pairs") 319), (Value.str (Str.ofString "sign") 320), (Value.str (Str.ofString "low") 321), (Value.str (Str.ofString "high") 322)]) 0) (List.toArray []))
noncomputable def o92 (P : Params) : Obj := (Obj.mk (Value.type "tuple") none (Data.seq (List.toArray []) 0) (List.toArray []))
noncomputable def o94 (P : Params) : Obj := (Obj.mk (Value.type "code") none (Data.fields (List.toArray [(Value.str (Str.ofString "matching_within") 316), (Value.str (Str.ofString "matching_within") 317), (Value.str (Str.ofString "/claim/cut.py") 318), (Value.int 13 0), (Value.int 2 0), (Value.int 0 0), (Value.int 0 0), (Value.int 3 0), (Value.ref 89), (Value.bool Bool.true), (Value.int 181 0), (Value.ref 90), Value.none, (Value.ref 91), (Value.ref 92), (Value.ref 93), (Value.int 323 0), (Value.int 13 0), (Value.str (Str.ofString "/claim/cut.py") 324)])) (List.toArray []))
noncomputable def o95 (P : Params) : Obj := (Obj.mk (Value.type "function") none (Data.func (fnOf (Str.ofString "matching_within") (Str.ofString "matching_within") (part 7).1 (part 7).2.1 (part 7).2.2 Value.none Value.none Value.none (Value.str (Str.ofString "gitcore.matching") 241) none (Value.ref 94) Value.none)) (List.toArray []))
noncomputable def o96 (P : Params) : Obj := (Obj.mk (Value.type "tuple") none (Data.seq (List.toArray []) 0) (List.toArray []))
noncomputable def o98 (P : Params) : Obj := (Obj.mk (Value.type "tuple") none (Data.seq (List.toArray [(Value.str (Str.ofString "row") 329), (Value.str (Str.ofString "at") 330), (Value.str (Str.ofString "keep") 331)]) 0) (List.toArray []))
noncomputable def o99 (P : Params) : Obj := (Obj.mk (Value.type "tuple") none (Data.seq (List.toArray []) 0) (List.toArray []))
noncomputable def o101 (P : Params) : Obj := (Obj.mk (Value.type "code") none (Data.fields (List.toArray [(Value.str (Str.ofString "matching_trimmed") 326), (Value.str (Str.ofString "matching_trimmed") 327), (Value.str (Str.ofString "/claim/cut.py") 328), (Value.int 18 0), (Value.int 1 0), (Value.int 0 0), (Value.int 0 0), (Value.int 3 0), (Value.ref 96), (Value.bool Bool.true), (Value.int 181 0), (Value.ref 97), Value.none, (Value.ref 98), (Value.ref 99), (Value.ref 100), (Value.int 332 0), (Value.int 18 0), (Value.str (Str.ofString "/claim/cut.py") 333)])) (List.toArray []))
noncomputable def o102 (P : Params) : Obj := (Obj.mk (Value.type "function") none (Data.func (fnOf (Str.ofString "matching_trimmed") (Str.ofString "matching_trimmed") (part 8).1 (part 8).2.1 (part 8).2.2 Value.none Value.none Value.none (Value.str (Str.ofString "gitcore.matching") 241) none (Value.ref 101) Value.none)) (List.toArray []))
noncomputable def o103 (P : Params) : Obj := (Obj.mk (Value.type "dict") none (Data.dict (List.toArray [(DictEntry.mk 97 (Value.int 97 335) (Value.int 7 336)), (DictEntry.mk 98 (Value.int 98 337) (Value.int 8 338)), (DictEntry.mk 116 (Value.int 116 339) (Value.int 9 340)), (DictEntry.mk 110 (Value.int 110 341) (Value.int 10 342)), (DictEntry.mk 118 (Value.int 118 343) (Value.int 11 344)), (DictEntry.mk 102 (Value.int 102 345) (Value.int 12 346)), (DictEntry.mk 114 (Value.int 114 347) (Value.int 13 348)), (DictEntry.mk 34 (Value.int 34 349) (Value.int 34 350)), (DictEntry.mk 92 (Value.int 92 351) (Value.int 92 352))]) 9) (List.toArray []))
noncomputable def o104 (P : Params) : Obj := (Obj.mk (Value.type "tuple") none (Data.seq (List.toArray []) 0) (List.toArray []))
noncomputable def o106 (P : Params) : Obj := (Obj.mk (Value.type "tuple") none (Data.seq (List.toArray [(Value.str (Str.ofString "row") 366), (Value.str (Str.ofString "found") 367), (Value.str (Str.ofString "at") 368), (Value.str (Str.ofString "number") 369)]) 0) (List.toArray []))
noncomputable def o107 (P : Params) : Obj := (Obj.mk (Value.type "tuple") none (Data.seq (List.toArray []) 0) (List.toArray []))
noncomputable def o109 (P : Params) : Obj := (Obj.mk (Value.type "code") none (Data.fields (List.toArray [(Value.str (Str.ofString "matching_unquoted") 363), (Value.str (Str.ofString "matching_unquoted") 364), (Value.str (Str.ofString "/claim/cut.py") 365), (Value.int 35 0), (Value.int 1 0), (Value.int 0 0), (Value.int 0 0), (Value.int 3 0), (Value.ref 104), (Value.bool Bool.true), (Value.int 181 0), (Value.ref 105), Value.none, (Value.ref 106), (Value.ref 107), (Value.ref 108), (Value.int 370 0), (Value.int 35 0), (Value.str (Str.ofString "/claim/cut.py") 371)])) (List.toArray []))
noncomputable def o110 (P : Params) : Obj := (Obj.mk (Value.type "function") none (Data.func (fnOf (Str.ofString "matching_unquoted") (Str.ofString "matching_unquoted") (part 10).1 (part 10).2.1 (part 10).2.2 Value.none Value.none Value.none (Value.str (Str.ofString "gitcore.matching") 241) none (Value.ref 109) Value.none)) (List.toArray []))
noncomputable def o111 (P : Params) : Obj := (Obj.mk (Value.type "tuple") none (Data.seq (List.toArray []) 0) (List.toArray []))
noncomputable def o113 (P : Params) : Obj := (Obj.mk (Value.type "tuple") none (Data.seq (List.toArray [(Value.str (Str.ofString "figures") 376), (Value.str (Str.ofString "number") 377), (Value.str (Str.ofString "sign") 378)]) 0) (List.toArray []))
noncomputable def o114 (P : Params) : Obj := (Obj.mk (Value.type "tuple") none (Data.seq (List.toArray []) 0) (List.toArray []))
noncomputable def o116 (P : Params) : Obj := (Obj.mk (Value.type "code") none (Data.fields (List.toArray [(Value.str (Str.ofString "matching_octal") 373), (Value.str (Str.ofString "matching_octal") 374), (Value.str (Str.ofString "/claim/cut.py") 375), (Value.int 53 0), (Value.int 1 0), (Value.int 0 0), (Value.int 0 0), (Value.int 3 0), (Value.ref 111), (Value.bool Bool.true), (Value.int 181 0), (Value.ref 112), Value.none, (Value.ref 113), (Value.ref 114), (Value.ref 115), (Value.int 379 0), (Value.int 53 0), (Value.str (Str.ofString "/claim/cut.py") 380)])) (List.toArray []))
noncomputable def o117 (P : Params) : Obj := (Obj.mk (Value.type "function") none (Data.func (fnOf (Str.ofString "matching_octal") (Str.ofString "matching_octal") (part 11).1 (part 11).2.1 (part 11).2.2 Value.none Value.none Value.none (Value.str (Str.ofString "gitcore.matching") 241) none (Value.ref 116) Value.none)) (List.toArray []))
noncomputable def o118 (P : Params) : Obj := (Obj.mk (Value.type "tuple") none (Data.seq (List.toArray []) 0) (List.toArray []))
noncomputable def o121 (P : Params) : Obj := (Obj.mk (Value.type "code") none (Data.fields (List.toArray [(Value.str (Str.ofString "matching_words") 382), (Value.str (Str.ofString "matching_words") 383), (Value.str (Str.ofString "/claim/cut.py") 384), (Value.int 62 0), (Value.int 1 0), (Value.int 0 0), (Value.int 0 0), (Value.int 3 0), (Value.ref 118), (Value.bool Bool.true), (Value.int 181 0), (Value.ref 119), Value.none, Value.none, Value.none, (Value.ref 120), (Value.int 385 0), (Value.int 62 0), (Value.str (Str.ofString "/claim/cut.py") 386)])) (List.toArray []))
noncomputable def o122 (P : Params) : Obj := (Obj.mk (Value.type "function") none (Data.func (fnOf (Str.ofString "matching_words") (Str.ofString "matching_words") (part 12).1 (part 12).2.1 (part 12).2.2 Value.none Value.none Value.none (Value.str (Str.ofString "gitcore.matching") 241) none (Value.ref 121) Value.none)) (List.toArray []))
noncomputable def o123 (P : Params) : Obj := (Obj.mk (Value.type "tuple") none (Data.seq (List.toArray []) 0) (List.toArray []))
noncomputable def o125 (P : Params) : Obj := (Obj.mk (Value.type "tuple") none (Data.seq (List.toArray [(Value.str (Str.ofString "octets") 391), (Value.str (Str.ofString "sign") 392)]) 0) (List.toArray []))
noncomputable def o126 (P : Params) : Obj := (Obj.mk (Value.type "tuple") none (Data.seq (List.toArray []) 0) (List.toArray []))
noncomputable def o128 (P : Params) : Obj := (Obj.mk (Value.type "code") none (Data.fields (List.toArray [(Value.str (Str.ofString "attribute_name") 388), (Value.str (Str.ofString "attribute_name") 389), (Value.str (Str.ofString "/claim/cut.py") 390), (Value.int 64 0), (Value.int 1 0), (Value.int 0 0), (Value.int 0 0), (Value.int 3 0), (Value.ref 123), (Value.bool Bool.true), (Value.int 181 0), (Value.ref 124), Value.none, (Value.ref 125), (Value.ref 126), (Value.ref 127), (Value.int 393 0), (Value.int 64 0), (Value.str (Str.ofString "/claim/cut.py") 394)])) (List.toArray []))
noncomputable def o129 (P : Params) : Obj := (Obj.mk (Value.type "function") none (Data.func (fnOf (Str.ofString "attribute_name") (Str.ofString "attribute_name") (part 13).1 (part 13).2.1 (part 13).2.2 Value.none Value.none Value.none (Value.str (Str.ofString "gitcore.matching") 241) none (Value.ref 128) Value.none)) (List.toArray []))
noncomputable def o130 (P : Params) : Obj := (Obj.mk (Value.type "tuple") none (Data.seq (List.toArray []) 0) (List.toArray []))
noncomputable def o132 (P : Params) : Obj := (Obj.mk (Value.type "tuple") none (Data.seq (List.toArray [(Value.str (Str.ofString "word") 399), (Value.str (Str.ofString "value") 400), (Value.str (Str.ofString "at") 401), (Value.str (Str.ofString "name") 402)]) 0) (List.toArray []))
noncomputable def o133 (P : Params) : Obj := (Obj.mk (Value.type "tuple") none (Data.seq (List.toArray []) 0) (List.toArray []))
noncomputable def o135 (P : Params) : Obj := (Obj.mk (Value.type "code") none (Data.fields (List.toArray [(Value.str (Str.ofString "attribute_told") 396), (Value.str (Str.ofString "attribute_told") 397), (Value.str (Str.ofString "/claim/cut.py") 398), (Value.int 71 0), (Value.int 1 0), (Value.int 0 0), (Value.int 0 0), (Value.int 3 0), (Value.ref 130), (Value.bool Bool.true), (Value.int 181 0), (Value.ref 131), Value.none, (Value.ref 132), (Value.ref 133), (Value.ref 134), (Value.int 403 0), (Value.int 71 0), (Value.str (Str.ofString "/claim/cut.py") 404)])) (List.toArray []))
noncomputable def o136 (P : Params) : Obj := (Obj.mk (Value.type "function") none (Data.func (fnOf (Str.ofString "attribute_told") (Str.ofString "attribute_told") (part 14).1 (part 14).2.1 (part 14).2.2 Value.none Value.none Value.none (Value.str (Str.ofString "gitcore.matching") 241) none (Value.ref 135) Value.none)) (List.toArray []))
noncomputable def o137 (P : Params) : Obj := (Obj.mk (Value.type "tuple") none (Data.seq (List.toArray []) 0) (List.toArray []))
noncomputable def o139 (P : Params) : Obj := (Obj.mk (Value.type "tuple") none (Data.seq (List.toArray [(Value.str (Str.ofString "words") 409), (Value.str (Str.ofString "row") 410), (Value.str (Str.ofString "found") 411), (Value.str (Str.ofString "word") 412), (Value.str (Str.ofString "told") 413)]) 0) (List.toArray []))
noncomputable def o140 (P : Params) : Obj := (Obj.mk (Value.type "tuple") none (Data.seq (List.toArray []) 0) (List.toArray []))
noncomputable def o142 (P : Params) : Obj := (Obj.mk (Value.type "code") none (Data.fields (List.toArray [(Value.str (Str.ofString "attributes_told") 406), (Value.str (Str.ofString "attributes_told") 407), (Value.str (Str.ofString "/claim/cut.py") 408), (Value.int 82 0), (Value.int 2 0), (Value.int 0 0), (Value.int 0 0), (Value.int 3 0), (Value.ref 137), (Value.bool Bool.true), (Value.int 181 0), (Value.ref 138), Value.none, (Value.ref 139), (Value.ref 140), (Value.ref 141), (Value.int 414 0), (Value.int 82 0), (Value.str (Str.ofString "/claim/cut.py") 415)])) (List.toArray []))
noncomputable def o143 (P : Params) : Obj := (Obj.mk (Value.type "function") none (Data.func (fnOf (Str.ofString "attributes_told") (Str.ofString "attributes_told") (part 15).1 (part 15).2.1 (part 15).2.2 Value.none Value.none Value.none (Value.str (Str.ofString "gitcore.matching") 241) none (Value.ref 142) Value.none)) (List.toArray []))
noncomputable def o144 (P : Params) : Obj := (Obj.mk (Value.type "tuple") none (Data.seq (List.toArray []) 0) (List.toArray []))
noncomputable def o146 (P : Params) : Obj := (Obj.mk (Value.type "tuple") none (Data.seq (List.toArray [(Value.str (Str.ofString "deck") 422), (Value.str (Str.ofString "many") 423), (Value.str (Str.ofString "here") 424)]) 0) (List.toArray []))
noncomputable def o147 (P : Params) : Obj := (Obj.mk (Value.type "tuple") none (Data.seq (List.toArray []) 0) (List.toArray []))
noncomputable def o149 (P : Params) : Obj := (Obj.mk (Value.type "code") none (Data.fields (List.toArray [(Value.str (Str.ofString "_law_draw") 419), (Value.str (Str.ofString "_law_draw") 420), (Value.str (Str.ofString "/claim/cut.py") 421), (Value.int 91 0), (Value.int 2 0), (Value.int 0 0), (Value.int 0 0), (Value.int 3 0), (Value.ref 144), (Value.bool Bool.true), (Value.int 181 0), (Value.ref 145), Value.none, (Value.ref 146), (Value.ref 147), (Value.ref 148), (Value.int 425 0), (Value.int 91 0), (Value.str (Str.ofString "/claim/cut.py") 426)])) (List.toArray []))
noncomputable def o150 (P : Params) : Obj := (Obj.mk (Value.type "function") none (Data.func (fnOf (Str.ofString "_law_draw") (Str.ofString "_law_draw") (part 17).1 (part 17).2.1 (part 17).2.2 Value.none Value.none Value.none (Value.str (Str.ofString "law_pb0093_01") 417) none (Value.ref 149) Value.none)) (List.toArray []))
noncomputable def o151 (P : Params) : Obj := (Obj.mk (Value.type "tuple") none (Data.seq (List.toArray []) 0) (List.toArray []))
noncomputable def o154 (P : Params) : Obj := (Obj.mk (Value.type "code") none (Data.fields (List.toArray [(Value.str (Str.ofString "_law_text") 428), (Value.str (Str.ofString "_law_text") 429), (Value.str (Str.ofString "/claim/cut.py") 430), (Value.int 100 0), (Value.int 1 0), (Value.int 0 0), (Value.int 0 0), (Value.int 3 0), (Value.ref 151), (Value.bool Bool.true), (Value.int 181 0), (Value.ref 152), Value.none, Value.none, Value.none, (Value.ref 153), (Value.int 431 0), (Value.int 100 0), (Value.str (Str.ofString "/claim/cut.py") 432)])) (List.toArray []))
noncomputable def o155 (P : Params) : Obj := (Obj.mk (Value.type "function") none (Data.func (fnOf (Str.ofString "_law_text") (Str.ofString "_law_text") (part 18).1 (part 18).2.1 (part 18).2.2 Value.none Value.none Value.none (Value.str (Str.ofString "law_pb0093_01") 417) none (Value.ref 154) Value.none)) (List.toArray []))
noncomputable def o156 (P : Params) : Obj := (Obj.mk (Value.type "tuple") none (Data.seq (List.toArray []) 0) (List.toArray []))
noncomputable def o159 (P : Params) : Obj := (Obj.mk (Value.type "code") none (Data.fields (List.toArray [(Value.str (Str.ofString "_law_name") 434), (Value.str (Str.ofString "_law_name") 435), (Value.str (Str.ofString "/claim/cut.py") 436), (Value.int 102 0), (Value.int 1 0), (Value.int 0 0), (Value.int 0 0), (Value.int 3 0), (Value.ref 156), (Value.bool Bool.true), (Value.int 181 0), (Value.ref 157), Value.none, Value.none, Value.none, (Value.ref 158), (Value.int 437 0), (Value.int 102 0), (Value.str (Str.ofString "/claim/cut.py") 438)])) (List.toArray []))
noncomputable def o160 (P : Params) : Obj := (Obj.mk (Value.type "function") none (Data.func (fnOf (Str.ofString "_law_name") (Str.ofString "_law_name") (part 19).1 (part 19).2.1 (part 19).2.2 Value.none Value.none Value.none (Value.str (Str.ofString "law_pb0093_01") 417) none (Value.ref 159) Value.none)) (List.toArray []))
noncomputable def o161 (P : Params) : Obj := (Obj.mk (Value.type "tuple") none (Data.seq (List.toArray []) 0) (List.toArray []))
noncomputable def o163 (P : Params) : Obj := (Obj.mk (Value.type "tuple") none (Data.seq (List.toArray [(Value.str (Str.ofString "word") 443), (Value.str (Str.ofString "name") 444), (Value.str (Str.ofString "value") 445), (Value.str (Str.ofString "place") 446)]) 0) (List.toArray []))
noncomputable def o164 (P : Params) : Obj := (Obj.mk (Value.type "tuple") none (Data.seq (List.toArray []) 0) (List.toArray []))
noncomputable def o166 (P : Params) : Obj := (Obj.mk (Value.type "code") none (Data.fields (List.toArray [(Value.str (Str.ofString "_law_pair") 440), (Value.str (Str.ofString "_law_pair") 441), (Value.str (Str.ofString "/claim/cut.py") 442), (Value.int 107 0), (Value.int 1 0), (Value.int 0 0), (Value.int 0 0), (Value.int 3 0), (Value.ref 161), (Value.bool Bool.true), (Value.int 181 0), (Value.ref 162), Value.none, (Value.ref 163), (Value.ref 164), (Value.ref 165), (Value.int 447 0), (Value.int 107 0), (Value.str (Str.ofString "/claim/cut.py") 448)])) (List.toArray []))
noncomputable def o167 (P : Params) : Obj := (Obj.mk (Value.type "function") none (Data.func (fnOf (Str.ofString "_law_pair") (Str.ofString "_law_pair") (part 20).1 (part 20).2.1 (part 20).2.2 Value.none Value.none Value.none (Value.str (Str.ofString "law_pb0093_01") 417) none (Value.ref 166) Value.none)) (List.toArray []))
noncomputable def o168 (P : Params) : Obj := (Obj.mk (Value.type "tuple") none (Data.seq (List.toArray []) 0) (List.toArray []))
noncomputable def o171 (P : Params) : Obj := (Obj.mk (Value.type "code") none (Data.fields (List.toArray [(Value.str (Str.ofString "_law_word") 450), (Value.str (Str.ofString "_law_word") 451), (Value.str (Str.ofString "/claim/cut.py") 452), (Value.int 118 0), (Value.int 1 0), (Value.int 0 0), (Value.int 0 0), (Value.int 3 0), (Value.ref 168), (Value.bool Bool.true), (Value.int 181 0), (Value.ref 169), Value.none, Value.none, Value.none, (Value.ref 170), (Value.int 453 0), (Value.int 118 0), (Value.str (Str.ofString "/claim/cut.py") 454)])) (List.toArray []))
noncomputable def o172 (P : Params) : Obj := (Obj.mk (Value.type "function") none (Data.func (fnOf (Str.ofString "_law_word") (Str.ofString "_law_word") (part 21).1 (part 21).2.1 (part 21).2.2 Value.none Value.none Value.none (Value.str (Str.ofString "law_pb0093_01") 417) none (Value.ref 171) Value.none)) (List.toArray []))
noncomputable def o173 (P : Params) : Obj := (Obj.mk (Value.type "tuple") none (Data.seq (List.toArray []) 0) (List.toArray []))
noncomputable def o175 (P : Params) : Obj := (Obj.mk (Value.type "tuple") none (Data.seq (List.toArray [(Value.str (Str.ofString "words") 459), (Value.str (Str.ofString "row") 460), (Value.str (Str.ofString "fault") 461)]) 0) (List.toArray []))
noncomputable def o176 (P : Params) : Obj := (Obj.mk (Value.type "tuple") none (Data.seq (List.toArray []) 0) (List.toArray []))
noncomputable def o178 (P : Params) : Obj := (Obj.mk (Value.type "code") none (Data.fields (List.toArray [(Value.str (Str.ofString "_law_told") 456), (Value.str (Str.ofString "_law_told") 457), (Value.str (Str.ofString "/claim/cut.py") 458), (Value.int 123 0), (Value.int 2 0), (Value.int 0 0), (Value.int 0 0), (Value.int 3 0), (Value.ref 173), (Value.bool Bool.true), (Value.int 181 0), (Value.ref 174), Value.none, (Value.ref 175), (Value.ref 176), (Value.ref 177), (Value.int 462 0), (Value.int 123 0), (Value.str (Str.ofString "/claim/cut.py") 463)])) (List.toArray []))
noncomputable def o179 (P : Params) : Obj := (Obj.mk (Value.type "function") none (Data.func (fnOf (Str.ofString "_law_told") (Str.ofString "_law_told") (part 22).1 (part 22).2.1 (part 22).2.2 Value.none Value.none Value.none (Value.str (Str.ofString "law_pb0093_01") 417) none (Value.ref 178) Value.none)) (List.toArray []))
noncomputable def o180 (P : Params) : Obj := (Obj.mk (Value.type "tuple") none (Data.seq (List.toArray []) 0) (List.toArray []))
noncomputable def o183 (P : Params) : Obj := (Obj.mk (Value.type "code") none (Data.fields (List.toArray [(Value.str (Str.ofString "_law_attributes_right") 465), (Value.str (Str.ofString "_law_attributes_right") 466), (Value.str (Str.ofString "/claim/cut.py") 467), (Value.int 128 0), (Value.int 1 0), (Value.int 0 0), (Value.int 0 0), (Value.int 3 0), (Value.ref 180), (Value.bool Bool.true), (Value.int 181 0), (Value.ref 181), Value.none, Value.none, Value.none, (Value.ref 182), (Value.int 468 0), (Value.int 128 0), (Value.str (Str.ofString "/claim/cut.py") 469)])) (List.toArray []))
noncomputable def o184 (P : Params) : Obj := (Obj.mk (Value.type "function") none (Data.func (fnOf (Str.ofString "_law_attributes_right") (Str.ofString "_law_attributes_right") (part 23).1 (part 23).2.1 (part 23).2.2 Value.none Value.none Value.none (Value.str (Str.ofString "law_pb0093_01") 417) none (Value.ref 183) Value.none)) (List.toArray []))
noncomputable def o185 (P : Params) : Obj := (Obj.mk (Value.type "tuple") none (Data.seq (List.toArray []) 0) (List.toArray []))
noncomputable def o188 (P : Params) : Obj := (Obj.mk (Value.type "code") none (Data.fields (List.toArray [(Value.str (Str.ofString "_law_words_right") 471), (Value.str (Str.ofString "_law_words_right") 472), (Value.str (Str.ofString "/claim/cut.py") 473), (Value.int 139 0), (Value.int 1 0), (Value.int 0 0), (Value.int 0 0), (Value.int 3 0), (Value.ref 185), (Value.bool Bool.true), (Value.int 181 0), (Value.ref 186), Value.none, Value.none, Value.none, (Value.ref 187), (Value.int 474 0), (Value.int 139 0), (Value.str (Str.ofString "/claim/cut.py") 475)])) (List.toArray []))
noncomputable def o189 (P : Params) : Obj := (Obj.mk (Value.type "function") none (Data.func (fnOf (Str.ofString "_law_words_right") (Str.ofString "_law_words_right") (part 24).1 (part 24).2.1 (part 24).2.2 Value.none Value.none Value.none (Value.str (Str.ofString "law_pb0093_01") 417) none (Value.ref 188) Value.none)) (List.toArray []))
noncomputable def o190 (P : Params) : Obj := (Obj.mk (Value.type "tuple") none (Data.seq (List.toArray []) 0) (List.toArray []))
noncomputable def o193 (P : Params) : Obj := (Obj.mk (Value.type "code") none (Data.fields (List.toArray [(Value.str (Str.ofString "_law_quoted_right") 477), (Value.str (Str.ofString "_law_quoted_right") 478), (Value.str (Str.ofString "/claim/cut.py") 479), (Value.int 158 0), (Value.int 1 0), (Value.int 0 0), (Value.int 0 0), (Value.int 3 0), (Value.ref 190), (Value.bool Bool.true), (Value.int 181 0), (Value.ref 191), Value.none, Value.none, Value.none, (Value.ref 192), (Value.int 480 0), (Value.int 158 0), (Value.str (Str.ofString "/claim/cut.py") 481)])) (List.toArray []))
noncomputable def o194 (P : Params) : Obj := (Obj.mk (Value.type "function") none (Data.func (fnOf (Str.ofString "_law_quoted_right") (Str.ofString "_law_quoted_right") (part 25).1 (part 25).2.1 (part 25).2.2 Value.none Value.none Value.none (Value.str (Str.ofString "law_pb0093_01") 417) none (Value.ref 193) Value.none)) (List.toArray []))
noncomputable def o195 (P : Params) : Obj := (Obj.mk (Value.type "tuple") none (Data.seq (List.toArray []) 0) (List.toArray []))
noncomputable def o198 (P : Params) : Obj := (Obj.mk (Value.type "code") none (Data.fields (List.toArray [(Value.str (Str.ofString "_law_trimmed_right") 483), (Value.str (Str.ofString "_law_trimmed_right") 484), (Value.str (Str.ofString "/claim/cut.py") 485), (Value.int 168 0), (Value.int 1 0), (Value.int 0 0), (Value.int 0 0), (Value.int 3 0), (Value.ref 195), (Value.bool Bool.true), (Value.int 181 0), (Value.ref 196), Value.none, Value.none, Value.none, (Value.ref 197), (Value.int 486 0), (Value.int 168 0), (Value.str (Str.ofString "/claim/cut.py") 487)])) (List.toArray []))
noncomputable def o199 (P : Params) : Obj := (Obj.mk (Value.type "function") none (Data.func (fnOf (Str.ofString "_law_trimmed_right") (Str.ofString "_law_trimmed_right") (part 26).1 (part 26).2.1 (part 26).2.2 Value.none Value.none Value.none (Value.str (Str.ofString "law_pb0093_01") 417) none (Value.ref 198) Value.none)) (List.toArray []))
noncomputable def o200 (P : Params) : Obj := (Obj.mk (Value.type "tuple") none (Data.seq (List.toArray []) 0) (List.toArray []))
noncomputable def o203 (P : Params) : Obj := (Obj.mk (Value.type "code") none (Data.fields (List.toArray [(Value.str (Str.ofString "law") 489), (Value.str (Str.ofString "law") 490), (Value.str (Str.ofString "/claim/cut.py") 491), (Value.int 179 0), (Value.int 1 0), (Value.int 0 0), (Value.int 0 0), (Value.int 3 0), (Value.ref 200), (Value.bool Bool.true), (Value.int 181 0), (Value.ref 201), Value.none, Value.none, Value.none, (Value.ref 202), (Value.int 492 0), (Value.int 179 0), (Value.str (Str.ofString "/claim/cut.py") 493)])) (List.toArray []))
noncomputable def o204 (P : Params) : Obj := (Obj.mk (Value.type "function") none (Data.func (fnOf (Str.ofString "law") (Str.ofString "law") (part 27).1 (part 27).2.1 (part 27).2.2 Value.none Value.none Value.none (Value.str (Str.ofString "law_pb0093_01") 417) none (Value.ref 203) Value.none)) (List.toArray []))
noncomputable def K (P : Params) : Frag := (nat_lit 2, o2 P) :: (nat_lit 3, o3 P) :: (nat_lit 15, o15 P) :: (nat_lit 22, o22 P) :: (nat_lit 23, o23 P) :: (nat_lit 25, o25 P) :: (nat_lit 26, o26 P) :: (nat_lit 28, o28 P) :: (nat_lit 29, o29 P) :: (nat_lit 30, o30 P) :: (nat_lit 31, o31 P) :: (nat_lit 32, o32 P) :: (nat_lit 33, o33 P) :: (nat_lit 36, o36 P) :: (nat_lit 43, o43 P) :: (nat_lit 44, o44 P) :: (nat_lit 45, o45 P) :: (nat_lit 48, o48 P) :: (nat_lit 51, o51 P) :: (nat_lit 52, o52 P) :: (nat_lit 53, o53 P) :: (nat_lit 54, o54 P) :: (nat_lit 55, o55 P) :: (nat_lit 56, o56 P) :: (nat_lit 57, o57 P) :: (nat_lit 58, o58 P) :: (nat_lit 59, o59 P) :: (nat_lit 60, o60 P) :: (nat_lit 61, o61 P) :: (nat_lit 62, o62 P) :: (nat_lit 63, o63 P) :: (nat_lit 64, o64 P) :: (nat_lit 65, o65 P) :: (nat_lit 66, o66 P) :: (nat_lit 67, o67 P) :: (nat_lit 68, o68 P) :: (nat_lit 69, o69 P) :: (nat_lit 70, o70 P) :: (nat_lit 71, o71 P) :: (nat_lit 72, o72 P) :: (nat_lit 73, o73 P) :: (nat_lit 74, o74 P) :: (nat_lit 75, o75 P) :: (nat_lit 76, o76 P) :: (nat_lit 77, o77 P) :: (nat_lit 78, o78 P) :: (nat_lit 79, o79 P) :: (nat_lit 80, o80 P) :: (nat_lit 81, o81 P) :: (nat_lit 82, o82 P) :: (nat_lit 83, o83 P) :: (nat_lit 84, o84 P) :: (nat_lit 85, o85 P) :: (nat_lit 86, o86 P) :: (nat_lit 87, o87 P) :: (nat_lit 88, o88 P) :: (nat_lit 89, o89 P) :: (nat_lit 91, o91 P) :: (nat_lit 92, o92 P) :: (nat_lit 94, o94 P) :: (nat_lit 95, o95 P) :: (nat_lit 96, o96 P) :: (nat_lit 98, o98 P) :: (nat_lit 99, o99 P) :: (nat_lit 101, o101 P) :: (nat_lit 102, o102 P) :: (nat_lit 103, o103 P) :: (nat_lit 104, o104 P) :: (nat_lit 106, o106 P) :: (nat_lit 107, o107 P) :: (nat_lit 109, o109 P) :: (nat_lit 110, o110 P) :: (nat_lit 111, o111 P) :: (nat_lit 113, o113 P) :: (nat_lit 114, o114 P) :: (nat_lit 116, o116 P) :: (nat_lit 117, o117 P) :: (nat_lit 118, o118 P) :: (nat_lit 121, o121 P) :: (nat_lit 122, o122 P) :: (nat_lit 123, o123 P) :: (nat_lit 125, o125 P) :: (nat_lit 126, o126 P) :: (nat_lit 128, o128 P) :: (nat_lit 129, o129 P) :: (nat_lit 130, o130 P) :: (nat_lit 132, o132 P) :: (nat_lit 133, o133 P) :: (nat_lit 135, o135 P) :: (nat_lit 136, o136 P) :: (nat_lit 137, o137 P) :: (nat_lit 139, o139 P) :: (nat_lit 140, o140 P) :: (nat_lit 142, o142 P) :: (nat_lit 143, o143 P) :: (nat_lit 144, o144 P) :: (nat_lit 146, o146 P) :: (nat_lit 147, o147 P) :: (nat_lit 149, o149 P) :: (nat_lit 150, o150 P) :: (nat_lit 151, o151 P) :: (nat_lit 154, o154 P) :: (nat_lit 155, o155 P) :: (nat_lit 156, o156 P) :: (nat_lit 159, o159 P) :: (nat_lit 160, o160 P) :: (nat_lit 161, o161 P) :: (nat_lit 163, o163 P) :: (nat_lit 164, o164 P) :: (nat_lit 166, o166 P) :: (nat_lit 167, o167 P) :: (nat_lit 168, o168 P) :: (nat_lit 171, o171 P) :: (nat_lit 172, o172 P) :: (nat_lit 173, o173 P) :: (nat_lit 175, o175 P) :: (nat_lit 176, o176 P) :: (nat_lit 178, o178 P) :: (nat_lit 179, o179 P) :: (nat_lit 180, o180 P) :: (nat_lit 183, o183 P) :: (nat_lit 184, o184 P) :: (nat_lit 185, o185 P) :: (nat_lit 188, o188 P) :: (nat_lit 189, o189 P) :: (nat_lit 190, o190 P) :: (nat_lit 193, o193 P) :: (nat_lit 194, o194 P) :: (nat_lit 195, o195 P) :: (nat_lit 198, o198 P) :: (nat_lit 199, o199 P) :: (nat_lit 200, o200 P) :: (nat_lit 203, o203 P) :: (nat_lit 204, o204 P) :: []
noncomputable def ks : List Addr := nat_lit 2 :: nat_lit 3 :: nat_lit 15 :: nat_lit 22 :: nat_lit 23 :: nat_lit 25 :: nat_lit 26 :: nat_lit 28 :: nat_lit 29 :: nat_lit 30 :: nat_lit 31 :: nat_lit 32 :: nat_lit 33 :: nat_lit 36 :: nat_lit 43 :: nat_lit 44 :: nat_lit 45 :: nat_lit 48 :: nat_lit 51 :: nat_lit 52 :: nat_lit 53 :: nat_lit 54 :: nat_lit 55 :: nat_lit 56 :: nat_lit 57 :: nat_lit 58 :: nat_lit 59 :: nat_lit 60 :: nat_lit 61 :: nat_lit 62 :: nat_lit 63 :: nat_lit 64 :: nat_lit 65 :: nat_lit 66 :: nat_lit 67 :: nat_lit 68 :: nat_lit 69 :: nat_lit 70 :: nat_lit 71 :: nat_lit 72 :: nat_lit 73 :: nat_lit 74 :: nat_lit 75 :: nat_lit 76 :: nat_lit 77 :: nat_lit 78 :: nat_lit 79 :: nat_lit 80 :: nat_lit 81 :: nat_lit 82 :: nat_lit 83 :: nat_lit 84 :: nat_lit 85 :: nat_lit 86 :: nat_lit 87 :: nat_lit 88 :: nat_lit 89 :: nat_lit 91 :: nat_lit 92 :: nat_lit 94 :: nat_lit 95 :: nat_lit 96 :: nat_lit 98 :: nat_lit 99 :: nat_lit 101 :: nat_lit 102 :: nat_lit 103 :: nat_lit 104 :: nat_lit 106 :: nat_lit 107 :: nat_lit 109 :: nat_lit 110 :: nat_lit 111 :: nat_lit 113 :: nat_lit 114 :: nat_lit 116 :: nat_lit 117 :: nat_lit 118 :: nat_lit 121 :: nat_lit 122 :: nat_lit 123 :: nat_lit 125 :: nat_lit 126 :: nat_lit 128 :: nat_lit 129 :: nat_lit 130 :: nat_lit 132 :: nat_lit 133 :: nat_lit 135 :: nat_lit 136 :: nat_lit 137 :: nat_lit 139 :: nat_lit 140 :: nat_lit 142 :: nat_lit 143 :: nat_lit 144 :: nat_lit 146 :: nat_lit 147 :: nat_lit 149 :: nat_lit 150 :: nat_lit 151 :: nat_lit 154 :: nat_lit 155 :: nat_lit 156 :: nat_lit 159 :: nat_lit 160 :: nat_lit 161 :: nat_lit 163 :: nat_lit 164 :: nat_lit 166 :: nat_lit 167 :: nat_lit 168 :: nat_lit 171 :: nat_lit 172 :: nat_lit 173 :: nat_lit 175 :: nat_lit 176 :: nat_lit 178 :: nat_lit 179 :: nat_lit 180 :: nat_lit 183 :: nat_lit 184 :: nat_lit 185 :: nat_lit 188 :: nat_lit 189 :: nat_lit 190 :: nat_lit 193 :: nat_lit 194 :: nat_lit 195 :: nat_lit 198 :: nat_lit 199 :: nat_lit 200 :: nat_lit 203 :: nat_lit 204 :: []
end Pb93
end
section
open PySem PySem.W PyProof.Rows PySem.Spec PySem.Calls
namespace Pb93
noncomputable def qv : Program := { PySem.Challenge.pw_pb0093_01 with main := { PySem.Challenge.pw_pb0093_01.main with body := PySem.Challenge.pw_pb0093_01.main.body.drop 27 } }
noncomputable def lo : List Str := ["GitError", "BadPattern", "text_of", "MATCHING_BACKSLASH", "MATCHING_CLASSES", "matching_within", "matching_trimmed", "MATCHING_ESCAPES", "matching_unquoted", "matching_octal", "matching_words", "attribute_name", "attribute_told", "attributes_told", "_law_draw", "_law_text", "_law_name", "_law_pair", "_law_word", "_law_told", "_law_attributes_right", "_law_words_right", "_law_quoted_right", "_law_trimmed_right"]
abbrev Led := List (Addr × Obj)
abbrev Tp (mean : ExcName → Option Value) (mg mb : Str → Option Value) (h : Heap) : Prop := Top qv (looseW qv lo) mean mg mb h
def Fill (_ : OpenLaw) (_ : Params → Frag) : Prop := True
/-- every object stands as it stood, but those of led -/
def Kept (led : Led) (h h' : Heap) : Prop := ∀ b x, b ∉ led.map (·.1) → h.get? b = some x → h'.get? b = some x
/-- the objects of new stand in h'; each is one of led or was not there in h -/
def Fresh (led : Led) (h h' : Heap) (new : Led) : Prop := ∀ p ∈ new, h'.get? p.1 = some p.2 ∧ ∀ x, h.get? p.1 = some x → p.1 ∈ led.map (·.1)
/-- what a call of the def at f with the arguments vs hands back, wherever it is called: it may turn the objects of led alone -/
def Con (w : World) (f : Addr) (vs : List Value) (led : Led) (dn un' : Nat) (Post : Value → Led → Prop) : Prop :=
  ∀ (mean : ExcName → Option Value) (mg mb : Str → Option Value) (dp un : Nat) (gd : Option (List Code)) (cn : Str) (cs : Scope) (a : Addr) (ccd : Value) (cl : List (Str × Addr)) (outer : List Env) (A₀ : Around) (base h₀ : Heap) (L : Addr) (m : Str → Option Value) (s : Shared) (Q E : Value → Shared → Prop),
    Below A₀ base outer h₀ → Fr h₀ L s.heap m → (K w.params).In h₀ → News h₀ L s.heap led → Tp mean mg mb h₀ → cs.kind = .function → dp + dn < recursionLimit → un + un' < cLine →
    (∀ r new h' tk', Kept led s.heap h' → Fresh led s.heap h' new → Post r new → Q r { s with heap := h', toks := tk' }) →
    wpAny (model pw w) (ktrTop dp un gd cn cs L a ccd cl outer) (call (.ref f) vs) Q E s
/-- a way's end in a def's body -/
inductive LeaveC (g : Heap) (s : Shared) (Post : Value → Led → Prop) (v : Value) (s' : Shared) : Prop
  | mk L' m' new h' tk' (e0 : s' = { s with heap := h', toks := tk' }) (e1 : Fr g L' h' m') (e2 : News g L' h' new) (e3 : Post v new) : LeaveC g s Post v s'
theorem LeaveC.intro {g : Heap} {s : Shared} {Post : Value → Led → Prop} {v : Value} {h' : Heap} {tk' : Nat} {L' : Addr} {m' : Str → Option Value} {all : Led} (F : Fr g L' h' m') (N : News g L' h' all) (new : Led) (sub : ∀ p ∈ new, p ∈ all) (P : Post v new) :
    LeaveC g s Post v { s with heap := h', toks := tk' } := ⟨L', m', new, h', tk', rfl, F, fun p hp => N p (sub p hp), P⟩
theorem con_enter {w : World} {f : Addr} {vs : List Value} {led : Led} {dn un' : Nat} {Post : Value → Led → Prop} {i : Nat} {nm : Str} {c : Addr} {pm : Value} {params : Arguments} {body : List Stmt} {scope : Scope} (binds : List (Str × Value))
    (hp : part i = (params, body, scope))
    (ho : (K w.params).lookup f = some ⟨.type "function", none, .func (fnOf nm nm (part i).1 (part i).2.1 (part i).2.2 .none .none .none pm none (.ref c) .none), #[]⟩)
    (hcd : codeIn (K w.params) (.ref c) nm = true)
    (hbind : bindArgs (fnOf nm nm params body scope .none .none .none pm none (.ref c) .none) ⟨vs, []⟩ = pure binds)
    (hloc : (binds.all fun x => decide (scope.names.lookup x.1 = some .local)) = true)
    (h : ∀ (mean : ExcName → Option Value) (mg mb : Str → Option Value) (dp un : Nat) (gd : Option (List Code)) (cn : Str) (cs : Scope) (a : Addr) (ccd : Value) (cl : List (Str × Addr)) (outer : List Env) (base : Heap) (L : Addr) (s : Shared),
      dp + dn < recursionLimit → un + un' < cLine →
      ∀ g L' h₁, Fr g L' h₁ (fun y => binds.reverse.lookup y) → News g L' h₁ led → Below (ktrTop dp un gd cn cs L a ccd cl outer) base (envX cn cs L a ccd cl :: outer) g → (K w.params).In g → Tp mean mg mb g →
      wpAny (model pw w) ((ktrTop dp un gd cn cs L a ccd cl outer).deeper (envOf nm scope L' f (.ref c))) (execs body (envOf nm scope L' f (.ref c)))
        (fun fl s' => LeaveC g s Post (match fl with | .ret v => v | _ => .none) s')
        (fun e s' => wpAny (model pw w) ((ktrTop dp un gd cn cs L a ccd cl outer).deeper (envOf nm scope L' f (.ref c))) (leaving (envOf nm scope L' f (.ref c)) e) (fun _ _ => False) (fun _ _ => False) s')
        { s with heap := h₁, toks := s.toks + binds.length })
    (hdn : 0 < dn := by decide) (hco : scope.isCoroutine = false := by rfl) (hgen : scope.isGenerator = false := by rfl) (hk : scope.kind = .function := by rfl) (hcell : ∀ x ∈ scope.names, x.2 ≠ .cell := by decide) :
    Con w f vs led dn un' Post := by
  intro mean mg mb dp un gd cn cs a ccd cl outer A₀ base h₀ L m s Q E B F X N T hkc hd hu hret
  rw [hp] at ho
  refine wpAny_call ?_
  refine code_defG (env := envX cn cs L a ccd cl) (cdv := .ref c) (binds := binds) B F X N T rfl rfl hkc ho hcd (by show dp < recursionLimit; omega) (BindsTo.of_eq hbind) (locs hloc) ?_ hco hgen hk hcell
  intro g L' h₁ FG F' N' B' X' T' hG
  refine wpAny_mono (h mean mg mb dp un gd cn cs a ccd cl outer base L s hd hu g L' h₁ F' N' B' X' T') (fun fl s' hl => ?_) (fun e s' he => wpAny_mono he (fun _ _ (z : False) => z.elim) fun _ _ (z : False) => z.elim)
  obtain ⟨L₂, m₂, new, h', tk', rfl, F₂, N₂, P⟩ := hl
  refine ⟨L₂, m₂, new, F₂, N₂, fun _ _ => hret _ new h' tk' (fun b x hb e => F₂.keep b x (hG b x e hb)) (fun p hp => ⟨(N₂ p hp).1, fun x e => ?_⟩) P⟩
  by_cases hq : p.1 ∈ led.map (·.1)
  · exact hq
  · have := (N₂ p hp).2.2
    rw [hG p.1 x e hq] at this
    cases this
/-- the addresses of two ledgers are apart -/
def ApartL (led rest : Led) : Prop := ∀ p ∈ rest, p.1 ∉ led.map (·.1)
theorem con_use {w : World} {f : Addr} {vs : List Value} {led : Led} {dn un' : Nat} {Post : Value → Led → Prop} (C : Con w f vs led dn un' Post)
    {mean : ExcName → Option Value} {mg mb : Str → Option Value} {dp un : Nat} {gd : Option (List Code)} {cn : Str} {cs : Scope} {a : Addr} {ccd : Value} {cl : List (Str × Addr)} {outer : List Env} {A₀ : Around} {base h₀ : Heap} {L : Addr} {m : Str → Option Value} {s : Shared} {Q E : Value → Shared → Prop} {all rest : Led}
    (B : Below A₀ base outer h₀) (F : Fr h₀ L s.heap m) (X : (K w.params).In h₀) (N : News h₀ L s.heap all) (T : Tp mean mg mb h₀) (hk : cs.kind = .function) (hd : dp + dn < recursionLimit) (hu : un + un' < cLine)
    (s1 : ∀ p ∈ led, p ∈ all) (s2 : ∀ p ∈ rest, p ∈ all) (ap : ApartL led rest)
    (ret : ∀ r new h' tk', Fr h₀ L h' m → News h₀ L h' (new ++ rest) → Fresh led s.heap h' new → Post r new → Q r { s with heap := h', toks := tk' }) :
    wpAny (model pw w) (ktrTop dp un gd cn cs L a ccd cl outer) (call (.ref f) vs) Q E s := by
  refine C mean mg mb dp un gd cn cs a ccd cl outer A₀ base h₀ L m s Q E B F X (fun p hp => N p (s1 p hp)) T hk hd hu ?_
  intro r new h' tk' hK hF hP
  have out : ∀ b x, s.heap.get? b = some x → (b = L ∨ (∃ o, h₀.get? b = some o) ∨ b ∉ led.map (·.1)) → b ∉ led.map (·.1) := by
    intro b x e hb hm
    obtain ⟨p, hp, rfl⟩ := List.mem_map.mp hm
    have := N p (s1 p hp)
    rcases hb with hb | ⟨o, hb⟩ | hb
    · exact this.2.1 hb
    · rw [this.2.2] at hb; cases hb
    · exact hb hm
  have F' : Fr h₀ L h' m := ⟨F.ns.at' fun o e => hK L o (out L o e (.inl rfl)) e, fun b o e => hK b o (out b o (F.keep b o e) (.inr (.inl ⟨o, e⟩))) (F.keep b o e), F.above⟩
  refine ret r new h' tk' F' (fun p hp => ?_) hF hP
  rcases List.mem_append.mp hp with hp | hp
  · refine ⟨(hF p hp).1, fun q => ?_, ?_⟩
    · obtain ⟨oL, _, _, e, _⟩ := F.ns
      have hm := (hF p hp).2 oL (by rw [q]; exact e)
      obtain ⟨p', hp', e'⟩ := List.mem_map.mp hm
      exact (N p' (s1 p' hp')).2.1 (e'.trans q)
    · cases q : h₀.get? p.1 with
      | none => rfl
      | some o =>
        have hm := (hF p hp).2 o (F.keep _ _ q)
        obtain ⟨p', hp', e'⟩ := List.mem_map.mp hm
        have := (N p' (s1 p' hp')).2.2
        rw [e', q] at this; cases this
  · exact ⟨hK _ _ (ap p hp) (N p (s2 p hp)).1, (N p (s2 p hp)).2⟩
theorem bind_assoc_sem {α β γ : Type} (m : Sem α) (f : α → Sem β) (g : β → Sem γ) : (m.bind f).bind g = m.bind fun x => (f x).bind g := by
  induction m <;> simp only [Sem.bind] <;> (try rfl) <;> (rename_i ih; congr 1; funext x; exact ih x)
theorem execs_append (l2 : List Stmt) (env : Env) : ∀ l1 : List Stmt, execs (l1 ++ l2) env = (execs l1 env).bind fun f => match f with | .next => execs l2 env | f => .pure f
  | [] => rfl
  | st :: l1 => by
    rw [List.cons_append, execs_cons, execs_cons, execs_append l2 env l1]
    show (exec st env).bind _ = ((exec st env).bind _).bind _
    rw [bind_assoc_sem]
    congr 1
    funext f
    cases f <;> rfl
/-- a cut in a block: what holds between its first n statements and the rest -/
theorem execs_cut {M : Model} {A : Around} {env : Env} {Q : Flow → Shared → Prop} {E : Value → Shared → Prop} {s : Shared} {l : List Stmt} (n : Nat) (Mid : Shared → Prop)
    (h1 : wpAny M A (execs (l.take n) env) (fun f s' => f = .next ∧ Mid s') E s) (h2 : ∀ s', Mid s' → wpAny M A (execs (l.drop n) env) Q E s') : wpAny M A (execs l env) Q E s := by
  have e : execs l env = ((execs (l.take n) env) >>= fun f => match f with | .next => execs (l.drop n) env | f => pure f) := by
    conv => lhs; rw [← List.take_append_drop n l]
    exact execs_append _ _ _
  rw [e]
  exact wpAny_bind (wpAny_mono h1 (fun f s' ⟨hf, hm⟩ => by subst hf; exact h2 s' hm) fun _ _ x => x)
theorem fr_same {g h : Heap} {L : Addr} {m m' : Str → Option Value} (F : Fr g L h m) (e : ∀ y, m y = m' y) : Fr g L h m' := by
  rw [← funext e]; exact F
theorem con_enterC {w : World} {f : Addr} {vs : List Value} {led : Led} {dn un' : Nat} {Post : Value → Led → Prop} {i : Nat} {nm : Str} {c : Addr} {pm : Value} {params : Arguments} {body : List Stmt} {scope : Scope} (binds : List (Str × Value))
    (hp : part i = (params, body, scope))
    (ho : (K w.params).lookup f = some ⟨.type "function", none, .func (fnOf nm nm (part i).1 (part i).2.1 (part i).2.2 .none .none .none pm none (.ref c) .none), #[]⟩)
    (hcd : codeIn (K w.params) (.ref c) nm = true)
    (hbind : bindArgs (fnOf nm nm params body scope .none .none .none pm none (.ref c) .none) ⟨vs, []⟩ = pure binds)
    (hkind : (binds.all fun y => scope.names.lookup y.1 == some .local || scope.names.lookup y.1 == some .cell) = true)
    (hnd : ((cellsFrom 0 scope.names []).map (·.1)).Nodup)
    (h : ∀ (mean : ExcName → Option Value) (mg mb : Str → Option Value) (dp un : Nat) (gd : Option (List Code)) (cn : Str) (cs : Scope) (a : Addr) (ccd : Value) (cl : List (Str × Addr)) (outer : List Env) (base : Heap) (L : Addr) (s : Shared),
      dp + dn < recursionLimit → un + un' < cLine →
      ∀ g L' h₁ tk cells, Fr g L' h₁ (bindL (envOfC nm scope L' f (.ref c)).kindOf binds fun _ => none) → News g L' h₁ (cells ++ led) →
      CellsAre (bindC (envOfC nm scope L' f (.ref c)).kindOf binds fun _ => none) (cellsFrom (L' + 1) scope.names []) cells → Below (ktrTop dp un gd cn cs L a ccd cl outer) base (envX cn cs L a ccd cl :: outer) g → (K w.params).In g → Tp mean mg mb g → (∀ p ∈ led, p.1 < L') →
      wpAny (model pw w) ((ktrTop dp un gd cn cs L a ccd cl outer).deeper (envOfC nm scope L' f (.ref c))) (execs body (envOfC nm scope L' f (.ref c)))
        (fun fl s' => LeaveC g s Post (match fl with | .ret v => v | _ => .none) s')
        (fun e s' => wpAny (model pw w) ((ktrTop dp un gd cn cs L a ccd cl outer).deeper (envOfC nm scope L' f (.ref c))) (leaving (envOfC nm scope L' f (.ref c)) e) (fun _ _ => False) (fun _ _ => False) s')
        { s with heap := h₁, toks := tk })
    (hdn : 0 < dn := by decide) (hco : scope.isCoroutine = false := by rfl) (hgen : scope.isGenerator = false := by rfl) (hk : scope.kind = .function := by rfl) :
    Con w f vs led dn un' Post := by
  intro mean mg mb dp un gd cn cs a ccd cl outer A₀ base h₀ L m s Q E B F X N T hkc hd hu hret
  rw [hp] at ho
  refine wpAny_call ?_
  obtain ⟨_, BG, st, lv⟩ := groundX (A := ktrTop dp un gd cn cs L a ccd cl outer) (env := envX cn cs L a ccd cl) (R := fun r s' => match r with | .ok (.ret v) => Q v s' | .ok _ => False | .error e => E e s') B F N rfl rfl hkc
  refine codeAny_call_function (by show dp < recursionLimit; omega) ((X.keeps F.keep) _ _ ho) rfl hco hgen rfl (codeRec_of (X.keeps F.keep) hcd) (BindsTo.of_eq hbind _ _ _ _ ?_)
  refine wpAny_newFunctionEnv_cells hk (kindsX hkind _) fun env' he s' x => ?_
  subst he
  refine ⟨(T.nolimit.keeps F.keep).keeps x.toInCall.keep, codeAny_func ?_⟩
  obtain ⟨h₁, tk, rfl, _⟩ := x.done
  have hide : ∀ b o, s.heap.get? b = some o → b ∉ led.map (·.1) → (hideAll s.heap (led.map (·.1))).get? b = some o := fun b o e n => hideAll_get _ e n
  have up := x.toInCall.keep
  obtain ⟨cells, NC, Y⟩ := Cl.news (h₀ := s.heap) (Nat.le_refl _) fun n c hm => ⟨x.cell n c (lookup_of_mem_nodup (cellsFrom_names scope.names 0 (s.heap.objs.size + 1) [] [] rfl ▸ hnd) hm), x.above n c hm⟩
  have NA : News (hideAll s.heap (led.map (·.1))) s.heap.objs.size h₁ (cells ++ led) := by
    intro p hp
    rcases List.mem_append.mp hp with hp | hp
    · refine ⟨(NC p hp).1, (NC p hp).2.1, ?_⟩
      cases q : (hideAll s.heap (led.map (·.1))).get? p.1 with
      | none => rfl
      | some o =>
        have z := of_hideAll _ q
        rw [(NC p hp).2.2] at z
        exact absurd z (by simp)
    · exact ⟨up _ _ (N p hp).1, Nat.ne_of_lt (Heap.lt_size (N p hp).1), hideAll_none _ (List.mem_map_of_mem hp)⟩
  refine wpAny_mono (h mean mg mb dp un gd cn cs a ccd cl outer base L s hd hu _ s.heap.objs.size h₁ tk cells ⟨x.toInCall.ns, fun b o e => up b o (of_hideAll _ e), Nat.le_of_eq (hideAll_size _ _)⟩ NA Y BG (X.keeps st) (T.keeps st) fun p hp => Heap.lt_size (N p hp).1) (fun fl s' hl => lv _ _ ?_) (fun e s' he => wpAny_mono he (fun _ _ (z : False) => z.elim) fun _ _ (z : False) => z.elim)
  obtain ⟨L₂, m₂, new, h', tk', rfl, F₂, N₂, P⟩ := hl
  refine ⟨L₂, m₂, new, F₂, N₂, fun _ _ => hret _ new h' tk' (fun b x hb e => F₂.keep b x (hide b x e hb)) (fun p hp => ⟨(N₂ p hp).1, fun x e => ?_⟩) P⟩
  by_cases hq : p.1 ∈ led.map (·.1)
  · exact hq
  · have := (N₂ p hp).2.2
    rw [hide p.1 x e hq] at this
    cases this
/-- a call whose one object is d: the ledger with d turned -/
theorem con_use1 {w : World} {f : Addr} {vs : List Value} {d : Addr} {o : Obj} {dn un' : Nat} {Post : Value → Led → Prop} (C : Con w f vs [(d, o)] dn un' Post)
    {mean : ExcName → Option Value} {mg mb : Str → Option Value} {dp un : Nat} {gd : Option (List Code)} {cn : Str} {cs : Scope} {a : Addr} {ccd : Value} {cl : List (Str × Addr)} {outer : List Env} {A₀ : Around} {base h₀ : Heap} {L : Addr} {m : Str → Option Value} {s : Shared} {Q E : Value → Shared → Prop} {all : Led} {up : Obj → Led}
    (B : Below A₀ base outer h₀) (F : Fr h₀ L s.heap m) (X : (K w.params).In h₀) (N : News h₀ L s.heap all) (T : Tp mean mg mb h₀) (hk : cs.kind = .function) (hd : dp + dn < recursionLimit) (hu : un + un' < cLine)
    (U : UpdF d o all up)
    (ret : ∀ r o' h' tk', Fr h₀ L h' m → News h₀ L h' (up o') → Post r [(d, o')] → Q r { s with heap := h', toks := tk' })
    (one : ∀ r new, Post r new → ∃ o', new = [(d, o')]) :
    wpAny (model pw w) (ktrTop dp un gd cn cs L a ccd cl outer) (call (.ref f) vs) Q E s := by
  obtain ⟨pre, post, rfl, hg, x, y⟩ := U.split
  refine con_use C (rest := pre ++ post) B F X N T hk hd hu (fun p hp => by rw [List.mem_singleton.mp hp]; simp) (fun p hp => by rcases List.mem_append.mp hp with q | q <;> simp [q]) (fun p hp q => ?_) (fun r new h' tk' F' N' _ P => ?_)
  · have q' : p.1 = d := by simpa using q
    rcases List.mem_append.mp hp with z | z
    · exact x p z q'
    · exact y p z q'
  · obtain ⟨o', rfl⟩ := one r new P
    refine ret r o' h' tk' F' ?_ P
    rw [hg]
    intro p hp
    refine N' p ?_
    rcases List.mem_append.mp hp with z | z
    · simp [z]
    · rcases List.mem_cons.mp z with z | z
      · simp [z]
      · simp [z]
/-- a call that turns nothing -/
theorem con_use0 {w : World} {f : Addr} {vs : List Value} {dn un' : Nat} {Post : Value → Led → Prop} (C : Con w f vs [] dn un' Post)
    {mean : ExcName → Option Value} {mg mb : Str → Option Value} {dp un : Nat} {gd : Option (List Code)} {cn : Str} {cs : Scope} {a : Addr} {ccd : Value} {cl : List (Str × Addr)} {outer : List Env} {A₀ : Around} {base h₀ : Heap} {L : Addr} {m : Str → Option Value} {s : Shared} {Q E : Value → Shared → Prop} {all : Led}
    (B : Below A₀ base outer h₀) (F : Fr h₀ L s.heap m) (X : (K w.params).In h₀) (N : News h₀ L s.heap all) (T : Tp mean mg mb h₀) (hk : cs.kind = .function) (hd : dp + dn < recursionLimit) (hu : un + un' < cLine)
    (ret : ∀ r new h' tk', Fr h₀ L h' m → News h₀ L h' (new ++ all) → Post r new → Q r { s with heap := h', toks := tk' }) :
    wpAny (model pw w) (ktrTop dp un gd cn cs L a ccd cl outer) (call (.ref f) vs) Q E s :=
  con_use C (rest := all) B F X N T hk hd hu (fun _ h => nomatch h) (fun _ h => h) (fun _ _ q => nomatch q) fun r new h' tk' F' N' _ P => ret r new h' tk' F' N' P
end Pb93
end
section
open PySem PySem.W PyProof.Rows
namespace Pb93
noncomputable def a2 (P : Params) : Obj := (Obj.mk Value.none none (Data.dict (List.toArray [(DictEntry.mk (PyData.keyHash P (Str.ofString "type.__subclasses__.Exception.0")) (Value.str (Str.ofString "type.__subclasses__.Exception.0") 215) (Value.int 32 0)), (DictEntry.mk (PyData.keyHash P (Str.ofString "type.__subclasses__.Exception.n")) (Value.str (Str.ofString "type.__subclasses__.Exception.n") 216) (Value.int 1 0))]) 2) (List.toArray []))
noncomputable def a3 (P : Params) : Obj := (Obj.mk (Value.type "dict") none (Data.dict (List.toArray [(DictEntry.mk (PyData.keyHash P (Str.ofString "__name__")) (Value.str (Str.ofString "__name__") 165) (Value.str (Str.ofString "gitcore.matching") 241)), (DictEntry.mk (PyData.keyHash P (Str.ofString "__doc__")) (Value.str (Str.ofString "__doc__") 166) Value.none), (DictEntry.mk (PyData.keyHash P (Str.ofString "__package__")) (Value.str (Str.ofString "__package__") 167) Value.none), (DictEntry.mk (PyData.keyHash P (Str.ofString "__loader__")) (Value.str (Str.ofString "__loader__") 168) (Value.builtin "__main__.__loader__#opaque")), (DictEntry.mk (PyData.keyHash P (Str.ofString "__spec__")) (Value.str (Str.ofString "__spec__") 169) Value.none), (DictEntry.mk (PyData.keyHash P (Str.ofString "__annotations__")) (Value.str (Str.ofString "__annotations__") 170) (Value.ref 6)), (DictEntry.mk (PyData.keyHash P (Str.ofString "__builtins__")) (Value.str (Str.ofString "__builtins__") 171) (Value.ref 4)), (DictEntry.mk (PyData.keyHash P (Str.ofString "__file__")) (Value.str (Str.ofString "__file__") 173) (Value.str (Str.ofString "/claim/cut.py") 172)), (DictEntry.mk (PyData.keyHash P (Str.ofString "__cached__")) (Value.str (Str.ofString "__cached__") 174) Value.none), (DictEntry.mk (PyData.keyHash P (Str.ofString "GitError")) (Value.str (Str.ofString "GitError") 218) (Value.ref 32)), (DictEntry.mk (PyData.keyHash P (Str.ofString "BadPattern")) (Value.str (Str.ofString "BadPattern") 234) (Value.ref 45)), (DictEntry.mk (PyData.keyHash P (Str.ofString "text_of")) (Value.str (Str.ofString "text_of") 240) (Value.ref 52)), (DictEntry.mk (PyData.keyHash P (Str.ofString "MATCHING_BACKSLASH")) (Value.str (Str.ofString "MATCHING_BACKSLASH") 244) (Value.int 92 243))]) 13) (List.toArray []))
noncomputable def a11 (P : Params) : Obj := (Obj.mk (Value.type "tuple") none (Data.seq (List.toArray []) 0) (List.toArray []))
noncomputable def a12 (P : Params) : Obj := (Obj.mk Value.none none (Data.fields (List.toArray [(Value.int 2 0), (Value.int 0 0), (Value.ref 20), (Value.int 6 0), (Value.int 0 0), (Value.ref 41), (Value.int 8 0), (Value.int 0 0), (Value.ref 51)])) (List.toArray []))
noncomputable def a13 (P : Params) : Obj := (Obj.mk (Value.type "code") none (Data.fields (List.toArray [(Value.str (Str.ofString "<module>") 182), (Value.str (Str.ofString "<module>") 183), (Value.str (Str.ofString "/claim/cut.py") 184), (Value.int 1 0), (Value.int 0 0), (Value.int 0 0), (Value.int 0 0), (Value.int 0 0), (Value.ref 11), (Value.bool Bool.false), (Value.int 181 0), (Value.ref 12), Value.none, Value.none, Value.none, Value.none, (Value.int 185 0), (Value.int 1 0), (Value.str (Str.ofString "/claim/cut.py") 186)])) (List.toArray []))
noncomputable def a14 (P : Params) : Obj := (Obj.mk (Value.type "frame") none Data.plain (List.toArray [(some (Value.ref 13)), (some (Value.ref 3)), (some (Value.ref 3)), none, (some (Value.str (Str.ofString "__main__") 164)), none, (some (Value.ref 0))]))
noncomputable def a15 (P : Params) : Obj := (Obj.mk (Value.type "tuple") none (Data.seq (List.toArray [(Value.type "Exception")]) 0) (List.toArray []))
noncomputable def a16 (P : Params) : Obj := (Obj.mk (Value.type "builtin_function_or_method") none (Data.fields (List.toArray [(Value.builtin "type.__prepare__"), (Value.type "type")])) (List.toArray []))
noncomputable def a17 (P : Params) : Obj := (Obj.mk (Value.type "dict") none (Data.dict (List.toArray [(DictEntry.mk (PyData.keyHash P (Str.ofString "__module__")) (Value.str (Str.ofString "__module__") 196) (Value.str (Str.ofString "gitcore.base") 187)), (DictEntry.mk (PyData.keyHash P (Str.ofString "__qualname__")) (Value.str (Str.ofString "__qualname__") 198) (Value.str (Str.ofString "GitError") 197)), (DictEntry.mk (PyData.keyHash P (Str.ofString "__firstlineno__")) (Value.str (Str.ofString "__firstlineno__") 200) (Value.int 2 199)), (DictEntry.mk (PyData.keyHash P (Str.ofString "__init__")) (Value.str (Str.ofString "__init__") 209) (Value.ref 29)), (DictEntry.mk (PyData.keyHash P (Str.ofString "__static_attributes__")) (Value.str (Str.ofString "__static_attributes__") 211) (Value.ref 30))]) 5) (List.toArray []))
noncomputable def a18 (P : Params) : Obj := (Obj.mk (Value.type "tuple") none (Data.seq (List.toArray []) 0) (List.toArray []))
noncomputable def a19 (P : Params) : Obj := (Obj.mk Value.none none (Data.fields (List.toArray [(Value.int 4 0), (Value.int 4 0), (Value.ref 28)])) (List.toArray []))
noncomputable def a20 (P : Params) : Obj := (Obj.mk (Value.type "code") none (Data.fields (List.toArray [(Value.str (Str.ofString "GitError") 191), (Value.str (Str.ofString "GitError") 192), (Value.str (Str.ofString "/claim/cut.py") 193), (Value.int 2 0), (Value.int 0 0), (Value.int 0 0), (Value.int 0 0), (Value.int 0 0), (Value.ref 18), (Value.bool Bool.false), (Value.int 181 0), (Value.ref 19), Value.none, Value.none, Value.none, Value.none, (Value.int 194 0), (Value.int 2 0), (Value.str (Str.ofString "/claim/cut.py") 195)])) (List.toArray []))
noncomputable def a21 (P : Params) : Obj := (Obj.mk (Value.type "frame") none Data.plain (List.toArray [(some (Value.ref 20)), (some (Value.ref 3)), (some (Value.ref 17)), none, (some (Value.str (Str.ofString "gitcore.base") 187)), none, (some (Value.ref 0))]))
noncomputable def a22 (P : Params) : Obj := (Obj.mk (Value.type "tuple") none (Data.seq (List.toArray [(Value.str (Str.ofString "") 201)]) 0) (List.toArray []))
noncomputable def a23 (P : Params) : Obj := (Obj.mk (Value.type "tuple") none (Data.seq (List.toArray []) 0) (List.toArray []))
noncomputable def a24 (P : Params) : Obj := (Obj.mk Value.none none (Data.fields (List.toArray [])) (List.toArray []))
noncomputable def a25 (P : Params) : Obj := (Obj.mk (Value.type "tuple") none (Data.seq (List.toArray [(Value.str (Str.ofString "self") 205), (Value.str (Str.ofString "told") 206)]) 0) (List.toArray []))
noncomputable def a26 (P : Params) : Obj := (Obj.mk (Value.type "tuple") none (Data.seq (List.toArray []) 0) (List.toArray []))
noncomputable def a27 (P : Params) : Obj := (Obj.mk Value.none none (Data.func (FuncData.mk (Str.ofString "__init__") (Str.ofString "GitError.__init__") (part 1).1 (FuncBody.stmts (part 1).2.1) (part 1).2.2 0 [] Value.none Value.none Value.none Value.none none Value.none Value.none 0)) (List.toArray []))
noncomputable def a28 (P : Params) : Obj := (Obj.mk (Value.type "code") none (Data.fields (List.toArray [(Value.str (Str.ofString "__init__") 202), (Value.str (Str.ofString "GitError.__init__") 203), (Value.str (Str.ofString "/claim/cut.py") 204), (Value.int 4 0), (Value.int 2 0), (Value.int 0 0), (Value.int 0 0), (Value.int 3 0), (Value.ref 23), (Value.bool Bool.true), (Value.int 181 0), (Value.ref 24), Value.none, (Value.ref 25), (Value.ref 26), (Value.ref 27), (Value.int 207 0), (Value.int 4 0), (Value.str (Str.ofString "/claim/cut.py") 208)])) (List.toArray []))
noncomputable def a29 (P : Params) : Obj := (Obj.mk (Value.type "function") none (Data.func (fnOf (Str.ofString "__init__") (Str.ofString "GitError.__init__") (part 1).1 (part 1).2.1 (part 1).2.2 (Value.ref 22) Value.none Value.none (Value.str (Str.ofString "gitcore.base") 187) none (Value.ref 28) Value.none)) (List.toArray []))
noncomputable def a30 (P : Params) : Obj := (Obj.mk (Value.type "tuple") none (Data.seq (List.toArray [(Value.str (Str.ofString "told") 210)]) 0) (List.toArray []))
noncomputable def a31 (P : Params) : Obj := (Obj.mk (Value.type "dict") none (Data.dict (List.toArray [(DictEntry.mk (PyData.keyHash P (Str.ofString "__module__")) (Value.str (Str.ofString "__module__") 196) (Value.str (Str.ofString "gitcore.base") 187)), (DictEntry.mk (PyData.keyHash P (Str.ofString "__firstlineno__")) (Value.str (Str.ofString "__firstlineno__") 200) (Value.int 2 199)), (DictEntry.mk (PyData.keyHash P (Str.ofString "__init__")) (Value.str (Str.ofString "__init__") 209) (Value.ref 29)), (DictEntry.mk (PyData.keyHash P (Str.ofString "__static_attributes__")) (Value.str (Str.ofString "__static_attributes__") 211) (Value.ref 30)), (DictEntry.mk (PyData.keyHash P (Str.ofString "__weakref__")) (Value.str (Str.ofString "__weakref__") 213) (Value.ref 33)), (DictEntry.mk (PyData.keyHash P (Str.ofString "__doc__")) (Value.str (Str.ofString "__doc__") 214) Value.none)]) 3) (List.toArray []))
noncomputable def a32 (P : Params) : Obj := (Obj.mk (Value.type "type") none (Data.cls (ClassData.mk (Str.ofString "GitError") [(Value.type "Exception")] [(Value.ref 32), (Value.type "Exception"), (Value.type "BaseException"), (Value.type "object")] 31 (Str.ofString "GitError") Bool.true [] [(Value.ref 45)] Bool.false none Bool.false)) (List.toArray [(some (Value.ref 15)), none, (some (Value.str (Str.ofString "GitError") 189)), (some (Value.str (Str.ofString "GitError") 197)), (some (Value.builtin "Exception.__new__")), (some (Value.bool Bool.true))]))
noncomputable def a33 (P : Params) : Obj := (Obj.mk (Value.type "getset_descriptor") none (Data.fields (List.toArray [(Value.str (Str.ofString "__weakref__") 212), (Value.ref 32), (Value.builtin "ExceptionGroup.__weakref__"), Value.none])) (List.toArray []))
noncomputable def a34 (P : Params) : Obj := (Obj.mk (Value.type "super") none (Data.fields (List.toArray [(Value.ref 32), (Value.ref 32), (Value.ref 32)])) (List.toArray []))
noncomputable def a35 (P : Params) : Obj := (Obj.mk (Value.type "builtin_function_or_method") none (Data.fields (List.toArray [(Value.builtin "object.__init_subclass__"), (Value.ref 32)])) (List.toArray []))
noncomputable def a36 (P : Params) : Obj := (Obj.mk (Value.type "tuple") none (Data.seq (List.toArray [(Value.ref 32)]) 0) (List.toArray []))
noncomputable def a37 (P : Params) : Obj := (Obj.mk (Value.type "builtin_function_or_method") none (Data.fields (List.toArray [(Value.builtin "type.__prepare__"), (Value.type "type")])) (List.toArray []))
noncomputable def a38 (P : Params) : Obj := (Obj.mk (Value.type "dict") none (Data.dict (List.toArray [(DictEntry.mk (PyData.keyHash P (Str.ofString "__module__")) (Value.str (Str.ofString "__module__") 226) (Value.str (Str.ofString "gitcore.base") 187)), (DictEntry.mk (PyData.keyHash P (Str.ofString "__qualname__")) (Value.str (Str.ofString "__qualname__") 228) (Value.str (Str.ofString "BadPattern") 227)), (DictEntry.mk (PyData.keyHash P (Str.ofString "__firstlineno__")) (Value.str (Str.ofString "__firstlineno__") 230) (Value.int 6 229)), (DictEntry.mk (PyData.keyHash P (Str.ofString "__static_attributes__")) (Value.str (Str.ofString "__static_attributes__") 231) (Value.ref 43))]) 4) (List.toArray []))
noncomputable def a39 (P : Params) : Obj := (Obj.mk (Value.type "tuple") none (Data.seq (List.toArray []) 0) (List.toArray []))
noncomputable def a40 (P : Params) : Obj := (Obj.mk Value.none none (Data.fields (List.toArray [])) (List.toArray []))
noncomputable def a41 (P : Params) : Obj := (Obj.mk (Value.type "code") none (Data.fields (List.toArray [(Value.str (Str.ofString "BadPattern") 221), (Value.str (Str.ofString "BadPattern") 222), (Value.str (Str.ofString "/claim/cut.py") 223), (Value.int 6 0), (Value.int 0 0), (Value.int 0 0), (Value.int 0 0), (Value.int 0 0), (Value.ref 39), (Value.bool Bool.false), (Value.int 181 0), (Value.ref 40), Value.none, Value.none, Value.none, Value.none, (Value.int 224 0), (Value.int 6 0), (Value.str (Str.ofString "/claim/cut.py") 225)])) (List.toArray []))
noncomputable def a42 (P : Params) : Obj := (Obj.mk (Value.type "frame") none Data.plain (List.toArray [(some (Value.ref 41)), (some (Value.ref 3)), (some (Value.ref 38)), none, (some (Value.str (Str.ofString "gitcore.base") 187)), none, (some (Value.ref 0))]))
noncomputable def a43 (P : Params) : Obj := (Obj.mk (Value.type "tuple") none (Data.seq (List.toArray []) 0) (List.toArray []))
noncomputable def a44 (P : Params) : Obj := (Obj.mk (Value.type "dict") none (Data.dict (List.toArray [(DictEntry.mk (PyData.keyHash P (Str.ofString "__module__")) (Value.str (Str.ofString "__module__") 226) (Value.str (Str.ofString "gitcore.base") 187)), (DictEntry.mk (PyData.keyHash P (Str.ofString "__firstlineno__")) (Value.str (Str.ofString "__firstlineno__") 230) (Value.int 6 229)), (DictEntry.mk (PyData.keyHash P (Str.ofString "__static_attributes__")) (Value.str (Str.ofString "__static_attributes__") 231) (Value.ref 43)), (DictEntry.mk (PyData.keyHash P (Str.ofString "__doc__")) (Value.str (Str.ofString "__doc__") 232) Value.none)]) 2) (List.toArray []))
noncomputable def a45 (P : Params) : Obj := (Obj.mk (Value.type "type") none (Data.cls (ClassData.mk (Str.ofString "BadPattern") [(Value.ref 32)] [(Value.ref 45), (Value.ref 32), (Value.type "Exception"), (Value.type "BaseException"), (Value.type "object")] 44 (Str.ofString "BadPattern") Bool.true [] [] Bool.false none Bool.false)) (List.toArray [(some (Value.ref 36)), none, (some (Value.str (Str.ofString "BadPattern") 219)), (some (Value.str (Str.ofString "BadPattern") 227)), (some (Value.builtin "Exception.__new__")), (some (Value.bool Bool.true))]))
noncomputable def a46 (P : Params) : Obj := (Obj.mk (Value.type "super") none (Data.fields (List.toArray [(Value.ref 45), (Value.ref 45), (Value.ref 45)])) (List.toArray []))
noncomputable def a47 (P : Params) : Obj := (Obj.mk (Value.type "builtin_function_or_method") none (Data.fields (List.toArray [(Value.builtin "object.__init_subclass__"), (Value.ref 45)])) (List.toArray []))
noncomputable def a48 (P : Params) : Obj := (Obj.mk (Value.type "tuple") none (Data.seq (List.toArray []) 0) (List.toArray []))
noncomputable def a49 (P : Params) : Obj := (Obj.mk Value.none none (Data.fields (List.toArray [])) (List.toArray []))
noncomputable def a50 (P : Params) : Obj := (Obj.mk Value.none none (Data.func (FuncData.mk (Str.ofString "text_of") (Str.ofString "text_of") (part 3).1 (FuncBody.stmts (part 3).2.1) (part 3).2.2 0 [] Value.none Value.none Value.none Value.none none Value.none Value.none 0)) (List.toArray []))
noncomputable def a51 (P : Params) : Obj := (Obj.mk (Value.type "code") none (Data.fields (List.toArray [(Value.str (Str.ofString "text_of") 235), (Value.str (Str.ofString "text_of") 236), (Value.str (Str.ofString "/claim/cut.py") 237), (Value.int 8 0), (Value.int 1 0), (Value.int 0 0), (Value.int 0 0), (Value.int 3 0), (Value.ref 48), (Value.bool Bool.true), (Value.int 181 0), (Value.ref 49), Value.none, Value.none, Value.none, (Value.ref 50), (Value.int 238 0), (Value.int 8 0), (Value.str (Str.ofString "/claim/cut.py") 239)])) (List.toArray []))
noncomputable def a52 (P : Params) : Obj := (Obj.mk (Value.type "function") none (Data.func (fnOf (Str.ofString "text_of") (Str.ofString "text_of") (part 3).1 (part 3).2.1 (part 3).2.2 Value.none Value.none Value.none (Value.str (Str.ofString "gitcore.base") 187) none (Value.ref 51) Value.none)) (List.toArray []))
noncomputable def hA (P : Params) : Heap := ⟨(boot_o_0 P :: boot_o_1 P :: a2 P :: a3 P :: boot_o_4 P :: boot_o_5 P :: boot_o_6 P :: boot_o_7 P :: boot_o_8 P :: boot_o_9 P :: boot_o_10 P :: a11 P :: a12 P :: a13 P :: a14 P :: a15 P :: a16 P :: a17 P :: a18 P :: a19 P :: a20 P :: a21 P :: a22 P :: a23 P :: a24 P :: a25 P :: a26 P :: a27 P :: a28 P :: a29 P :: a30 P :: a31 P :: a32 P :: a33 P :: a34 P :: a35 P :: a36 P :: a37 P :: a38 P :: a39 P :: a40 P :: a41 P :: a42 P :: a43 P :: a44 P :: a45 P :: a46 P :: a47 P :: a48 P :: a49 P :: a50 P :: a51 P :: a52 P :: []).toArray, {}⟩
end Pb93
namespace Pb93
noncomputable def bE : List Stmt := behindTheImports pw
noncomputable def hEnv : Env := { scope := pw.main.scope, locals := mainNs, globals := mainNs, cells := [], code := .ref 13, frame := some 14 }
noncomputable abbrev cE : Code := .body bE hEnv
noncomputable abbrev ann0 : Option Value := some (.ref 6)
noncomputable abbrev p0 : Pos := ⟨0, 0, 0, 0⟩
noncomputable abbrev B0 : List Frame := [topFrame p0]
noncomputable def sB (w : World) (os : OsState) : Shared := ⟨boot_heap w.params, Array.mk [], boot_drawn, boot_toks, os⟩
noncomputable def sA (w : World) (os : OsState) : Shared := ⟨hA w.params, #[], {}, 245, os⟩


noncomputable def sP (w : World) (os : OsState) : Shared := ((topGo treeTable pw w 11 ann0 12 (sB w os) (topStub pw)).map (·.1)).getD (sB w os)
theorem segP (w : World) (os : OsState) : topGo treeTable pw w 11 ann0 12 (sB w os) (topStub pw) = some (sP w os, ⟨denote treeTable cE, cE, p0, B0⟩) := by kernel_rfl!
theorem body_eq : denote treeTable cE = (execs bE hEnv).wrap doneF (leaveH hEnv) id id := by
  rw [body_wrap]
  kernel_rfl!
theorem segA (w : World) (os : OsState) : topGo treeTable pw w 11 ann0 496 (sP w os) (restOf bE hEnv cE p0 B0) = some (sA w os, restOf (bE.drop 6) hEnv cE ⟨11, 0, 11, 18⟩ B0) := by kernel_rfl!
theorem upToA {w : World} {os : OsState} {N : Nat} {r : Shared} (h : topRun treeTable pw w 11 ann0 N (sA w os) (restOf (bE.drop 6) hEnv cE ⟨11, 0, 11, 18⟩ B0) = some r) :
    topRun treeTable pw w 11 ann0 (12 + (496 + N)) (sB w os) (topStub pw) = some r :=
  go_top (segP w os) (by rw [body_eq]; exact go_top (segA w os) h)
end Pb93
end
section
open PySem PySem.W PyProof.Rows
namespace Pb93
/-- m, begun at s and p, comes to a at s' and p' in c steps at most, whatever stands behind it -/
def LR {α : Type} (W : World) (m : Sem α) (s : Shared) (p : Pos) (a : α) (s' : Shared) (p' : Pos) (c : Nat) : Prop :=
  ∀ (K : α → Sem Fin) (H : Value → Sem Fin) (gd : Bool → Bool) (lv : List Value → List Value) (N : Nat) (r : Shared),
    topRun treeTable pw W 11 ann0 N s' ⟨K a, cE, p', B0⟩ = some r → topRun treeTable pw W 11 ann0 (N + c) s ⟨m.wrap K H gd lv, cE, p, B0⟩ = some r
section
variable {α β : Type} {W : World} {s s₁ s₂ : Shared} {p p₁ p₂ : Pos} {a : α} {b : β} {c c₁ c₂ : Nat}
theorem LR.pure : LR W (Sem.pure a) s p a s p 0 := fun _ _ _ _ _ _ h => h
theorem LR.ret : LR W (Pure.pure a : Sem α) s p a s p 0 := fun _ _ _ _ _ _ h => h
theorem LR.more {m : Sem α} (h : LR W m s p a s₁ p₁ c) (hc : c ≤ c₁) : LR W m s p a s₁ p₁ c₁ := fun K H gd lv N r k => by
  have := topRun_mono (c₁ - c) _ _ _ _ (h K H gd lv N r k)
  rwa [Nat.add_assoc, show c + (c₁ - c) = c₁ by omega] at this
theorem LR.bind {m : Sem α} {f : α → Sem β} (h : LR W m s p a s₁ p₁ c₁) (k : LR W (f a) s₁ p₁ b s₂ p₂ c₂) : LR W (m >>= f) s p b s₂ p₂ (c₂ + c₁) := fun K H gd lv N r e => by
  have h1 := k K H gd lv N r e
  have h2 := h (fun a => (f a).wrap K H gd lv) H gd lv _ r h1
  rw [← Nat.add_assoc]
  rw [Sem.bind_eq_wrap', Sem.wrap_wrap]
  exact h2
theorem LR.keep {m : Sem α} {vs : List Value} (h : LR W m s p a s₁ p₁ c) : LR W (m.keep vs) s p a s₁ p₁ c := fun K H gd lv N r e => by
  rw [Sem.keep_eq_wrap, Sem.wrap_wrap]
  exact h K H gd (fun l => lv (vs ++ l)) N r e
theorem LR.holding {m : Sem α} {vs : List Value} (h : LR W m s p a s₁ p₁ c) : LR W (holding vs m) s p a s₁ p₁ c := by
  unfold PySem.holding
  split
  · exact h
  · exact h.keep
theorem LR.rule {tag : String} : LR W (rule tag) s p () s p 1 := fun K H gd lv N r e => by
  obtain ⟨heap, gens, drawn, toks, os⟩ := s
  exact e
theorem LR.at_ {q : Pos} : LR W (standAt q) s p () s q 1 := fun K H gd lv N r e => by
  obtain ⟨heap, gens, drawn, toks, os⟩ := s
  exact e
theorem LR.loadPart {x : Addr} {part : Option Value} {o : Obj} (h : s.heap.get? x = some o) : LR W (loadPart x part) s p o s p 1 := fun K H gd lv N r e => by
  obtain ⟨heap, gens, drawn, toks, os⟩ := s
  show topRun _ _ _ _ _ (N + 1) _ ⟨.load x part fun o => K o, _, _, _⟩ = some r
  unfold topRun
  show (match (step (denote treeTable) pw W ⟨heap, gens, drawn, toks, os⟩ ⟨.load x part fun o => K o, cE, p, B0⟩) with | .go s' t' => _ | .halt _ _ => none) = some r
  simp only [step]
  have h' : heap.get? x = some o := h
  rw [h']
  exact e
theorem LR.updatePart {x : Addr} {part : Option Value} {o : Obj} {f : Obj → Obj} (h : s.heap.get? x = some o) (hx : Nat.ble 11 x = true) : LR W (updatePart x part f) s p () { s with heap := s.heap.update x f } p 1 := fun K H gd lv N r e => by
  obtain ⟨heap, gens, drawn, toks, os⟩ := s
  show topRun _ _ _ _ _ (N + 1) _ ⟨.update x part f fun o => K o, _, _, _⟩ = some r
  unfold topRun
  have hs : stepOk 11 ann0 ⟨.update x part f fun o => K o, cE, p, B0⟩ = true := by
    show (_ && (Nat.ble 11 x || _ || _ || _)) = true
    rw [hx]; rfl
  rw [hs]
  show (match (step (denote treeTable) pw W ⟨heap, gens, drawn, toks, os⟩ ⟨.update x part f fun o => K o, cE, p, B0⟩) with | .go s' t' => _ | .halt _ _ => none) = some r
  simp only [step]
  have h' : heap.get? x = some o := h
  rw [h']
  exact e
theorem LR.ask : LR W ask s p ⟨pw, W.params⟩ s p 1 := fun K H gd lv N r e => by
  obtain ⟨heap, gens, drawn, toks, os⟩ := s
  exact e
theorem LR.mkInt {i : Int} : LR W (mkInt i) s p (.int i s.toks) { s with toks := s.toks + 1 } p 1 := fun K H gd lv N r e => by
  obtain ⟨heap, gens, drawn, toks, os⟩ := s
  exact e
theorem LR.forCons {x : α} {xs : List α} {b' b'' : β} {f : α → β → Sem (ForInStep β)} (h : LR W (f x b) s p (.yield b') s₁ p₁ c₁) (k : LR W (forIn xs b' f) s₁ p₁ b'' s₂ p₂ c₂) : LR W (forIn (x :: xs) b f) s p b'' s₂ p₂ (c₂ + c₁) := by
  rw [List.forIn_cons]
  exact LR.bind (f := fun x => match x with | .done b => Pure.pure b | .yield b => ForIn.forIn xs b f) h k
theorem LR.each {xs : List α} {f : α → β → Sem (ForInStep β)} (h : ∀ x ∈ xs, LR W (f x b) s p (.yield b) s p c) : LR W (forIn xs b f) s p b s p (xs.length * c) := by
  induction xs with
  | nil => exact LR.ret.more (Nat.zero_le _)
  | cons x xs ih =>
    rw [List.forIn_cons]
    have := LR.bind (f := fun x => match x with | .done b => Pure.pure b | .yield b => ForIn.forIn xs b f) (h x (.head _)) (ih fun y hy => h y (.tail _ hy))
    refine this.more ?_
    rw [List.length_cons, Nat.succ_mul]; exact Nat.le_refl _
end

section
variable {w : World} {r : Bool} {s : Shared} {p : Pos}
abbrev Ww (w : World) (r : Bool) : World := w.withFollow "special-get-raises" r
theorem LR_rich (b c : Array UInt8) (t u : Tok) : LR (Ww w r) (richCompare .Eq (.bytes b t) (.bytes c u)) s p (.bool (Builtin.Bytes.order b.toList c.toList == Ordering.eq)) s p 4 := by
  intro K H gd lv N r' e
  obtain ⟨heap, gens, drawn, toks, os⟩ := s
  have : topRun treeTable pw (Ww w r) 11 ann0 (N + 4) ⟨heap, gens, drawn, toks, os⟩ ⟨(richCompare .Eq (.bytes b t) (.bytes c u)).wrap K H gd lv, cE, p, B0⟩ = topRun treeTable pw (Ww w r) 11 ann0 N ⟨heap, gens, drawn, toks, os⟩ ⟨K (.bool (Builtin.Bytes.order b.toList c.toList == Ordering.eq)), cE, p, B0⟩ := by
    cases r <;> kernel_rfl!
  rw [this]; exact e
theorem LR_reduced (n : Int) : LR (Ww w r) (pyHashByItsType.reduced n) s p (reduceHash n) s p 1 := by
  unfold pyHashByItsType.reduced
  by_cases hr : (decide (-(2 : Int) ^ 63 ≤ n) && decide (n < 2 ^ 63)) = true
  · have e : reduceHash n = if n == -1 then -2 else n := by unfold reduceHash; rw [if_pos hr]
    rw [if_pos hr, e]
    exact LR.ret.more (by decide)
  · have e : reduceHash n = (let h := (n.natAbs : Int) % (2 ^ 61 - 1); let h := if n < 0 then -h else h; if h == -1 then -2 else h) := by unfold reduceHash; rw [if_neg hr]
    rw [if_neg hr, e]
    exact LR.bind (c₂ := 0) LR.rule LR.ret
theorem LR_hash (b : Array UInt8) (t : Tok) : LR (Ww w r) (pyHash (.bytes b t)) s p (reduceHash (PyData.keyHash w.params ⟨b.map (·.toNat)⟩)) { s with toks := s.toks + 1 } p 7 := by
  intro K H gd lv N r' e
  obtain ⟨heap, gens, drawn, toks, os⟩ := s
  have : topRun treeTable pw (Ww w r) 11 ann0 ((N + 1) + 6) ⟨heap, gens, drawn, toks, os⟩ ⟨(pyHash (.bytes b t)).wrap K H gd lv, cE, p, B0⟩ = topRun treeTable pw (Ww w r) 11 ann0 (N + 1) ⟨heap, gens, drawn, toks + 1, os⟩ ⟨(pyHashByItsType.reduced (PyData.keyHash w.params ⟨b.map (·.toNat)⟩)).wrap K H gd lv, cE, p, B0⟩ := by
    cases r <;> kernel_rfl!
  rw [show N + 7 = (N + 1) + 6 from rfl, this]
  exact LR_reduced _ K H gd lv N r' e
theorem LR_eqBool {b c : Array UInt8} {t u : Tok} (h : b ≠ c) : LR (Ww w r) (eqBool (.bytes b t) (.bytes c u)) s p false s p 4 := by
  have hv : ¬ ((Value.bytes b t == Value.bytes c u) = true) := fun e => h (by have := eq_of_beq e; injection this)
  have ho : (Builtin.Bytes.order b.toList c.toList == Ordering.eq) = false := by
    rw [order_eq]
    exact beq_eq_false_iff_ne.mpr fun e => h (Array.toList_inj.mp e)
  have e : eqBool (.bytes b t) (.bytes c u) = (richCompare .Eq (.bytes b t) (.bytes c u) >>= fun v => truthOfDropped v) := by
    unfold eqBool
    show (if (Value.bytes b t == Value.bytes c u) = true then _ else _) = _
    rw [if_neg hv]
  rw [e]
  refine LR.bind (c₂ := 0) (LR_rich b c t u) ?_
  rw [ho]
  exact LR.ret

theorem LR.iteF {α : Type} {W : World} {c : Prop} [Decidable c] {x y : Sem α} {s s' : Shared} {p p' : Pos} {a : α} {n : Nat} (h : ¬ c) (k : LR W y s p a s' p' n) : LR W (if c then x else y) s p a s' p' n := by rw [if_neg h]; exact k
theorem LR.iteT {α : Type} {W : World} {c : Prop} [Decidable c] {x y : Sem α} {s s' : Shared} {p p' : Pos} {a : α} {n : Nat} (h : c) (k : LR W x s p a s' p' n) : LR W (if c then x else y) s p a s' p' n := by rw [if_pos h]; exact k
/-- every key is bytes, and none is b -/
def Apart (b : Array UInt8) (es : Array DictEntry) : Prop := ∀ e ∈ es, ∃ c u, e.key = .bytes c u ∧ c ≠ b
theorem LR_epoch {d : Addr} {o : Obj} {es : Array DictEntry} {n : Nat} {W : World} {q : Option Value} (h : s.heap.get? d = some o) (hd : o.data = .dict es n) : LR W (dictEpoch d q) s p n s p 1 := by
  unfold dictEpoch
  refine LR.bind (c₂ := 0) (LR.loadPart h) ?_
  rw [hd]
  exact LR.ret
theorem LR_entries {d : Addr} {o : Obj} {es : Array DictEntry} {n : Nat} {W : World} {q : Option Value} (h : s.heap.get? d = some o) (hd : o.data = .dict es n) : LR W (dictEntries d q) s p es s p 1 := by
  unfold dictEntries
  refine LR.bind (c₂ := 0) (LR.loadPart h) ?_
  rw [hd]
  exact LR.ret
theorem LR_plain {d : Addr} {b : Array UInt8} {t : Tok} {h : Int} {o : Obj} {es : Array DictEntry} {n : Nat} (ho : s.heap.get? d = some o) (hd : o.data = .dict es n) (hk : Apart b es) (places : List Nat) :
    LR (Ww w r) (dictWalkPlain d (.bytes b t) h es places) s p none s p (places.length * 7 + 0) := by
  unfold dictWalkPlain
  refine LR.more (c := 0 + places.length * 7) ?_ (by omega)
  refine LR.bind (a := ((none, ()) : Option (Option Nat) × Unit)) (LR.each ?_) ?_
  · intro i _
    dsimp only
    cases hi : es[i]? with
    | none => exact LR.ret.more (by decide)
    | some e =>
      obtain ⟨c, u, hkey, hne⟩ := hk e (Array.mem_of_getElem? hi)
      dsimp only
      by_cases hh : (e.hash == h) = true
      · refine LR.iteT hh ?_
        rw [hkey]
        refine LR.more (c := 0 + 1 + 1 + 4 + 1) ?_ (by decide)
        refine LR.bind (LR_epoch ho hd) (LR.bind (LR_eqBool hne) (LR.bind (LR_epoch ho hd) ?_))
        refine LR.iteF (by simp) ?_
        refine LR.iteF (by simp) ?_
        exact LR.bind LR.rule LR.ret
      · refine LR.iteF hh ?_
        exact LR.ret.more (by decide)
  · exact LR.ret

theorem LR_find {d : Addr} {b : Array UInt8} {t : Tok} {h : Int} {o : Obj} {es : Array DictEntry} {n : Nat} (ho : s.heap.get? d = some o) (hd : o.data = .dict es n) (hk : Apart b es) :
    LR (Ww w r) (dictFind d (.bytes b t) h) s p none s p (es.size * 7 + 1) := by
  unfold dictFind
  refine LR.holding (LR.bind (LR_entries ho hd) ?_)
  have hc : ∀ l : List Nat, ((Value.bytes b t) :: (l.filterMap fun i => es[i]?.map (·.key))).all carriedByValue = true := by
    intro l
    rw [List.all_cons]
    refine Bool.and_eq_true_iff.mpr ⟨rfl, List.all_eq_true.mpr fun v hv => ?_⟩
    obtain ⟨i, _, hi⟩ := List.mem_filterMap.mp hv
    cases he : es[i]? with
    | none => rw [he] at hi; cases hi
    | some e =>
      rw [he] at hi
      obtain ⟨c, u, hkey, _⟩ := hk e (Array.mem_of_getElem? he)
      obtain rfl : e.key = v := Option.some.inj hi
      rw [hkey]; rfl
  refine LR.iteT (hc _) ?_
  refine LR.more (LR_plain ho hd hk _) ?_
  have : (placesWithHash es.size (fun i => es[i]?.map (·.hash)) h).length ≤ es.size := by
    unfold placesWithHash
    exact Nat.le_trans (List.length_filter_le _ _) (by rw [List.length_range]; exact Nat.le_refl _)
  omega
theorem LR_set {d x : Addr} {b : Array UInt8} {t : Tok} {o : Obj} {es : Array DictEntry} {n : Nat} (ho : s.heap.get? d = some o) (hd : o.data = .dict es n) (hk : Apart b es) (hx : Nat.ble 11 d = true) (hz : es.size ≤ 20) :
    LR (Ww w r) (dictSet d (.bytes b t) (.ref x)) s p () { s with heap := s.heap.update d (Obj.mapDictKeys (·.push ⟨reduceHash (PyData.keyHash w.params ⟨b.map (·.toNat)⟩), .bytes b t, .ref x⟩)), toks := s.toks + 1 } p (es.size * 7 + 20) := by
  unfold dictSet
  refine LR.more (c := 3 + 1 + (es.size * 7 + 1) + 7) ?_ (by omega)
  refine LR.holding (LR.bind (LR_hash b t) ?_)
  unfold dictSetHashed
  refine LR.holding (LR.bind (LR_find (s := { s with toks := s.toks + 1 }) ho hd hk) ?_)
  refine LR.bind LR.rule ?_
  unfold updateDictKeys
  refine LR.bind (c₂ := 2) (LR.loadPart (s := { s with toks := s.toks + 1 }) ho) ?_
  rw [hd]
  refine LR.bind (c₂ := 1) (LR.updatePart (s := { s with toks := s.toks + 1 }) ho hx) ?_
  unfold lookBehind
  obtain ⟨oc, od, odt, osl⟩ := o
  obtain rfl : odt = .dict es n := hd
  have hg : ({ s with heap := s.heap.update d (Obj.mapDictKeys (·.push ⟨reduceHash (PyData.keyHash w.params ⟨b.map (·.toNat)⟩), .bytes b t, .ref x⟩)), toks := s.toks + 1 } : Shared).heap.get? d = some ⟨oc, od, .dict (es.push ⟨reduceHash (PyData.keyHash w.params ⟨b.map (·.toNat)⟩), .bytes b t, .ref x⟩) (n + 1), osl⟩ :=
    Heap.get?_update_self _ ho rfl
  refine LR.bind (c₂ := 0) (LR.loadPart hg) ?_
  have hp : (Data.dict (es.push ⟨reduceHash (PyData.keyHash w.params ⟨b.map (·.toNat)⟩), .bytes b t, .ref x⟩) (n + 1)).pastItsLine = none := by
    show (if (es.push _).size > sizeLine + 1 then some "dict:memory" else none) = none
    rw [if_neg]
    rw [Array.size_push, sizeLine_eq]; omega
  dsimp only
  rw [hp]
  exact LR.ret
end
end Pb93
end
section
open PySem PySem.W PyProof.Rows
namespace Pb93
noncomputable def a54 (P : Params) : Obj := (Obj.mk (Value.type "tuple") none (Data.seq (List.toArray [(Value.int 48 246), (Value.int 57 247)]) 0) (List.toArray []))
noncomputable def a55 (P : Params) : Obj := (Obj.mk (Value.type "tuple") none (Data.seq (List.toArray [(Value.int 65 248), (Value.int 90 249)]) 0) (List.toArray []))
noncomputable def a56 (P : Params) : Obj := (Obj.mk (Value.type "tuple") none (Data.seq (List.toArray [(Value.int 97 250), (Value.int 122 251)]) 0) (List.toArray []))
noncomputable def a57 (P : Params) : Obj := (Obj.mk (Value.type "tuple") none (Data.seq (List.toArray [(Value.ref 54), (Value.ref 55), (Value.ref 56)]) 0) (List.toArray []))
noncomputable def a58 (P : Params) : Obj := (Obj.mk (Value.type "tuple") none (Data.seq (List.toArray [(Value.int 65 253), (Value.int 90 254)]) 0) (List.toArray []))
noncomputable def a59 (P : Params) : Obj := (Obj.mk (Value.type "tuple") none (Data.seq (List.toArray [(Value.int 97 255), (Value.int 122 256)]) 0) (List.toArray []))
noncomputable def a60 (P : Params) : Obj := (Obj.mk (Value.type "tuple") none (Data.seq (List.toArray [(Value.ref 58), (Value.ref 59)]) 0) (List.toArray []))
noncomputable def a61 (P : Params) : Obj := (Obj.mk (Value.type "tuple") none (Data.seq (List.toArray [(Value.int 9 258), (Value.int 9 259)]) 0) (List.toArray []))
noncomputable def a62 (P : Params) : Obj := (Obj.mk (Value.type "tuple") none (Data.seq (List.toArray [(Value.int 32 260), (Value.int 32 261)]) 0) (List.toArray []))
noncomputable def a63 (P : Params) : Obj := (Obj.mk (Value.type "tuple") none (Data.seq (List.toArray [(Value.ref 61), (Value.ref 62)]) 0) (List.toArray []))
noncomputable def a64 (P : Params) : Obj := (Obj.mk (Value.type "tuple") none (Data.seq (List.toArray [(Value.int 0 263), (Value.int 31 264)]) 0) (List.toArray []))
noncomputable def a65 (P : Params) : Obj := (Obj.mk (Value.type "tuple") none (Data.seq (List.toArray [(Value.int 127 265), (Value.int 127 266)]) 0) (List.toArray []))
noncomputable def a66 (P : Params) : Obj := (Obj.mk (Value.type "tuple") none (Data.seq (List.toArray [(Value.ref 64), (Value.ref 65)]) 0) (List.toArray []))
noncomputable def a67 (P : Params) : Obj := (Obj.mk (Value.type "tuple") none (Data.seq (List.toArray [(Value.int 48 268), (Value.int 57 269)]) 0) (List.toArray []))
noncomputable def a68 (P : Params) : Obj := (Obj.mk (Value.type "tuple") none (Data.seq (List.toArray [(Value.ref 67)]) 0) (List.toArray []))
noncomputable def a69 (P : Params) : Obj := (Obj.mk (Value.type "tuple") none (Data.seq (List.toArray [(Value.int 33 271), (Value.int 126 272)]) 0) (List.toArray []))
noncomputable def a70 (P : Params) : Obj := (Obj.mk (Value.type "tuple") none (Data.seq (List.toArray [(Value.ref 69)]) 0) (List.toArray []))
noncomputable def a71 (P : Params) : Obj := (Obj.mk (Value.type "tuple") none (Data.seq (List.toArray [(Value.int 97 274), (Value.int 122 275)]) 0) (List.toArray []))
noncomputable def a72 (P : Params) : Obj := (Obj.mk (Value.type "tuple") none (Data.seq (List.toArray [(Value.ref 71)]) 0) (List.toArray []))
noncomputable def a73 (P : Params) : Obj := (Obj.mk (Value.type "tuple") none (Data.seq (List.toArray [(Value.int 32 277), (Value.int 126 278)]) 0) (List.toArray []))
noncomputable def a74 (P : Params) : Obj := (Obj.mk (Value.type "tuple") none (Data.seq (List.toArray [(Value.ref 73)]) 0) (List.toArray []))
noncomputable def a75 (P : Params) : Obj := (Obj.mk (Value.type "tuple") none (Data.seq (List.toArray [(Value.int 33 280), (Value.int 47 281)]) 0) (List.toArray []))
noncomputable def a76 (P : Params) : Obj := (Obj.mk (Value.type "tuple") none (Data.seq (List.toArray [(Value.int 58 282), (Value.int 64 283)]) 0) (List.toArray []))
noncomputable def a77 (P : Params) : Obj := (Obj.mk (Value.type "tuple") none (Data.seq (List.toArray [(Value.int 91 284), (Value.int 96 285)]) 0) (List.toArray []))
noncomputable def a78 (P : Params) : Obj := (Obj.mk (Value.type "tuple") none (Data.seq (List.toArray [(Value.int 123 286), (Value.int 126 287)]) 0) (List.toArray []))
noncomputable def a79 (P : Params) : Obj := (Obj.mk (Value.type "tuple") none (Data.seq (List.toArray [(Value.ref 75), (Value.ref 76), (Value.ref 77), (Value.ref 78)]) 0) (List.toArray []))
noncomputable def a80 (P : Params) : Obj := (Obj.mk (Value.type "tuple") none (Data.seq (List.toArray [(Value.int 9 289), (Value.int 13 290)]) 0) (List.toArray []))
noncomputable def a81 (P : Params) : Obj := (Obj.mk (Value.type "tuple") none (Data.seq (List.toArray [(Value.int 32 291), (Value.int 32 292)]) 0) (List.toArray []))
noncomputable def a82 (P : Params) : Obj := (Obj.mk (Value.type "tuple") none (Data.seq (List.toArray [(Value.ref 80), (Value.ref 81)]) 0) (List.toArray []))
noncomputable def a83 (P : Params) : Obj := (Obj.mk (Value.type "tuple") none (Data.seq (List.toArray [(Value.int 65 294), (Value.int 90 295)]) 0) (List.toArray []))
noncomputable def a84 (P : Params) : Obj := (Obj.mk (Value.type "tuple") none (Data.seq (List.toArray [(Value.ref 83)]) 0) (List.toArray []))
noncomputable def a85 (P : Params) : Obj := (Obj.mk (Value.type "tuple") none (Data.seq (List.toArray [(Value.int 48 297), (Value.int 57 298)]) 0) (List.toArray []))
noncomputable def a86 (P : Params) : Obj := (Obj.mk (Value.type "tuple") none (Data.seq (List.toArray [(Value.int 65 299), (Value.int 70 300)]) 0) (List.toArray []))
noncomputable def a87 (P : Params) : Obj := (Obj.mk (Value.type "tuple") none (Data.seq (List.toArray [(Value.int 97 301), (Value.int 102 302)]) 0) (List.toArray []))
noncomputable def a88 (P : Params) : Obj := (Obj.mk (Value.type "tuple") none (Data.seq (List.toArray [(Value.ref 85), (Value.ref 86), (Value.ref 87)]) 0) (List.toArray []))
noncomputable def hL (P : Params) (d : Obj) : Heap := ⟨(boot_o_0 P :: boot_o_1 P :: a2 P :: a3 P :: boot_o_4 P :: boot_o_5 P :: boot_o_6 P :: boot_o_7 P :: boot_o_8 P :: boot_o_9 P :: boot_o_10 P :: a11 P :: a12 P :: a13 P :: a14 P :: a15 P :: a16 P :: a17 P :: a18 P :: a19 P :: a20 P :: a21 P :: a22 P :: a23 P :: a24 P :: a25 P :: a26 P :: a27 P :: a28 P :: a29 P :: a30 P :: a31 P :: a32 P :: a33 P :: a34 P :: a35 P :: a36 P :: a37 P :: a38 P :: a39 P :: a40 P :: a41 P :: a42 P :: a43 P :: a44 P :: a45 P :: a46 P :: a47 P :: a48 P :: a49 P :: a50 P :: a51 P :: a52 P :: d :: a54 P :: a55 P :: a56 P :: a57 P :: a58 P :: a59 P :: a60 P :: a61 P :: a62 P :: a63 P :: a64 P :: a65 P :: a66 P :: a67 P :: a68 P :: a69 P :: a70 P :: a71 P :: a72 P :: a73 P :: a74 P :: a75 P :: a76 P :: a77 P :: a78 P :: a79 P :: a80 P :: a81 P :: a82 P :: a83 P :: a84 P :: a85 P :: a86 P :: a87 P :: a88 P :: []).toArray, {}⟩
noncomputable def kvs : List (Array UInt8 × Tok × Addr) := [((List.toArray [(97 : UInt8), (108 : UInt8), (110 : UInt8), (117 : UInt8), (109 : UInt8)]), 245, 57), ((List.toArray [(97 : UInt8), (108 : UInt8), (112 : UInt8), (104 : UInt8), (97 : UInt8)]), 252, 60), ((List.toArray [(98 : UInt8), (108 : UInt8), (97 : UInt8), (110 : UInt8), (107 : UInt8)]), 257, 63), ((List.toArray [(99 : UInt8), (110 : UInt8), (116 : UInt8), (114 : UInt8), (108 : UInt8)]), 262, 66), ((List.toArray [(100 : UInt8), (105 : UInt8), (103 : UInt8), (105 : UInt8), (116 : UInt8)]), 267, 68), ((List.toArray [(103 : UInt8), (114 : UInt8), (97 : UInt8), (112 : UInt8), (104 : UInt8)]), 270, 70), ((List.toArray [(108 : UInt8), (111 : UInt8), (119 : UInt8), (101 : UInt8), (114 : UInt8)]), 273, 72), ((List.toArray [(112 : UInt8), (114 : UInt8), (105 : UInt8), (110 : UInt8), (116 : UInt8)]), 276, 74), ((List.toArray [(112 : UInt8), (117 : UInt8), (110 : UInt8), (99 : UInt8), (116 : UInt8)]), 279, 79), ((List.toArray [(115 : UInt8), (112 : UInt8), (97 : UInt8), (99 : UInt8), (101 : UInt8)]), 288, 82), ((List.toArray [(117 : UInt8), (112 : UInt8), (112 : UInt8), (101 : UInt8), (114 : UInt8)]), 293, 84), ((List.toArray [(120 : UInt8), (100 : UInt8), (105 : UInt8), (103 : UInt8), (105 : UInt8), (116 : UInt8)]), 296, 88)]
noncomputable def b3 (P : Params) : Obj := (Obj.mk (Value.type "dict") none (Data.dict (List.toArray [(DictEntry.mk (PyData.keyHash P (Str.ofString "__name__")) (Value.str (Str.ofString "__name__") 165) (Value.str (Str.ofString "gitcore.matching") 241)), (DictEntry.mk (PyData.keyHash P (Str.ofString "__doc__")) (Value.str (Str.ofString "__doc__") 166) Value.none), (DictEntry.mk (PyData.keyHash P (Str.ofString "__package__")) (Value.str (Str.ofString "__package__") 167) Value.none), (DictEntry.mk (PyData.keyHash P (Str.ofString "__loader__")) (Value.str (Str.ofString "__loader__") 168) (Value.builtin "__main__.__loader__#opaque")), (DictEntry.mk (PyData.keyHash P (Str.ofString "__spec__")) (Value.str (Str.ofString "__spec__") 169) Value.none), (DictEntry.mk (PyData.keyHash P (Str.ofString "__annotations__")) (Value.str (Str.ofString "__annotations__") 170) (Value.ref 6)), (DictEntry.mk (PyData.keyHash P (Str.ofString "__builtins__")) (Value.str (Str.ofString "__builtins__") 171) (Value.ref 4)), (DictEntry.mk (PyData.keyHash P (Str.ofString "__file__")) (Value.str (Str.ofString "__file__") 173) (Value.str (Str.ofString "/claim/cut.py") 172)), (DictEntry.mk (PyData.keyHash P (Str.ofString "__cached__")) (Value.str (Str.ofString "__cached__") 174) Value.none), (DictEntry.mk (PyData.keyHash P (Str.ofString "GitError")) (Value.str (Str.ofString "GitError") 218) (Value.ref 32)), (DictEntry.mk (PyData.keyHash P (Str.ofString "BadPattern")) (Value.str (Str.ofString "BadPattern") 234) (Value.ref 45)), (DictEntry.mk (PyData.keyHash P (Str.ofString "text_of")) (Value.str (Str.ofString "text_of") 240) (Value.ref 52)), (DictEntry.mk (PyData.keyHash P (Str.ofString "MATCHING_BACKSLASH")) (Value.str (Str.ofString "MATCHING_BACKSLASH") 244) (Value.int 92 243)), (DictEntry.mk (PyData.keyHash P (Str.ofString "MATCHING_CLASSES")) (Value.str (Str.ofString "MATCHING_CLASSES") 315) (Value.ref 53))]) 14) (List.toArray []))
noncomputable def hC (P : Params) (d : Obj) : Heap := ⟨(boot_o_0 P :: boot_o_1 P :: a2 P :: b3 P :: boot_o_4 P :: boot_o_5 P :: boot_o_6 P :: boot_o_7 P :: boot_o_8 P :: boot_o_9 P :: boot_o_10 P :: a11 P :: a12 P :: a13 P :: a14 P :: a15 P :: a16 P :: a17 P :: a18 P :: a19 P :: a20 P :: a21 P :: a22 P :: a23 P :: a24 P :: a25 P :: a26 P :: a27 P :: a28 P :: a29 P :: a30 P :: a31 P :: a32 P :: a33 P :: a34 P :: a35 P :: a36 P :: a37 P :: a38 P :: a39 P :: a40 P :: a41 P :: a42 P :: a43 P :: a44 P :: a45 P :: a46 P :: a47 P :: a48 P :: a49 P :: a50 P :: a51 P :: a52 P :: d :: a54 P :: a55 P :: a56 P :: a57 P :: a58 P :: a59 P :: a60 P :: a61 P :: a62 P :: a63 P :: a64 P :: a65 P :: a66 P :: a67 P :: a68 P :: a69 P :: a70 P :: a71 P :: a72 P :: a73 P :: a74 P :: a75 P :: a76 P :: a77 P :: a78 P :: a79 P :: a80 P :: a81 P :: a82 P :: a83 P :: a84 P :: a85 P :: a86 P :: a87 P :: a88 P :: []).toArray, {}⟩
noncomputable abbrev dct (es : List DictEntry) (n : Nat) : Obj := ⟨.type "dict", none, .dict es.toArray n, #[]⟩
noncomputable def ent (P : Params) (kv : Array UInt8 × Tok × Addr) : DictEntry := ⟨reduceHash (PyData.keyHash P ⟨kv.1.map (·.toNat)⟩), .bytes kv.1 kv.2.1, .ref kv.2.2⟩
noncomputable def put (P : Params) (s : Shared) (kv : Array UInt8 × Tok × Addr) : Shared := { s with heap := s.heap.update 53 (Obj.mapDictKeys (·.push (ent P kv))), toks := s.toks + 1 }
noncomputable def kvV (kv : Array UInt8 × Tok × Addr) : Value × Value := (.bytes kv.1 kv.2.1, .ref kv.2.2)
noncomputable def stepB (x : Value × Value) (_ : PUnit) : Sem (ForInStep PUnit) := match x with | (k, v) => do dictSet 53 k v; pure (ForInStep.yield PUnit.unit)
theorem LR_puts {w : World} {r : Bool} {p : Pos} (l : List (Array UInt8 × Tok × Addr)) : ∀ (s : Shared) (es : Array DictEntry) (n : Nat) (oc : Value) (od : Option Addr) (sl : Array (Option Value)),
    s.heap.get? 53 = some ⟨oc, od, .dict es n, sl⟩ → (∀ kv ∈ l, Apart kv.1 es) → l.Pairwise (fun a b => a.1 ≠ b.1) → es.size + l.length ≤ 20 →
    LR (Ww w r) (forIn (l.map kvV) PUnit.unit stepB) s p PUnit.unit (l.foldl (put w.params) s) p (l.length * 200) := by
  induction l with
  | nil => intro s es n oc od sl _ _ _ _; exact LR.ret.more (Nat.zero_le _)
  | cons kv l ih =>
    intro s es n oc od sl ho hk hn hz
    rw [List.map_cons]
    rw [List.length_cons] at hz
    have hg : (put w.params s kv).heap.get? 53 = some ⟨oc, od, .dict (es.push (ent w.params kv)) (n + 1), sl⟩ := Heap.get?_update_self _ ho rfl
    have ih' := ih (put w.params s kv) (es.push (ent w.params kv)) (n + 1) oc od sl hg (fun kv' hm e he => by
      rcases Array.mem_push.mp he with he | rfl
      · exact hk kv' (.tail _ hm) e he
      · exact ⟨kv.1, kv.2.1, rfl, (List.pairwise_cons.mp hn).1 kv' hm⟩) (List.pairwise_cons.mp hn).2 (by rw [Array.size_push]; omega)
    have h1 := LR_set (w := w) (r := r) (p := p) (x := kv.2.2) (t := kv.2.1) ho rfl (hk kv (.head _)) rfl (by omega)
    have h2 : LR (Ww w r) (stepB (kvV kv) PUnit.unit) s p (ForInStep.yield PUnit.unit) (put w.params s kv) p (0 + (es.size * 7 + 20)) := LR.bind h1 LR.ret
    have h3 := LR.forCons h2 ih'
    rw [List.foldl_cons]
    refine LR.more h3 ?_
    rw [List.length_cons]; omega
noncomputable def sC (w : World) (os : OsState) : Shared := ⟨hC w.params (dct (kvs.map (ent w.params)) 12), #[], {}, 316, os⟩
noncomputable def sL (w : World) (os : OsState) : Shared := ⟨hL w.params (dct [] 0), #[], {}, 303, os⟩
noncomputable def sM (w : World) (os : OsState) : Shared := ⟨hL w.params (dct (kvs.map (ent w.params)) 12), #[], {}, 315, os⟩
noncomputable def sD (w : World) (os : OsState) : Shared := ⟨⟨(hA w.params).objs.push (dct [] 0), {}⟩, #[], {}, 245, os⟩
noncomputable def st6 : Stmt := (bE.drop 6).headD (.Pass p0)
theorem bE6 : bE.drop 6 = st6 :: bE.drop 7 := by kernel_rfl!
noncomputable def st6n : Str × Pos := match st6 with | .Assign [.Name nm q] _ _ => (nm, q) | _ => default
noncomputable def st6d : List (Option Expr) × List Expr × Pos := match st6 with | .Assign _ (.Dict ks vs q) _ => (ks, vs, q) | _ => default
noncomputable def st6p : Pos := match st6 with | .Assign _ _ q => q | _ => p0
theorem st6_eq : st6 = .Assign [.Name st6n.1 st6n.2] (.Dict st6d.1 st6d.2.1 st6d.2.2) st6p := by kernel_rfl!
noncomputable def run6 : List (Sem Value × Sem Value) := ((evalEachOpt st6d.1 hEnv).zip ((evalEach st6d.2.1 hEnv).map fun v => do let x ← v; standAt st6d.2.2; pure x)).map fun x => (x.1.getD (pure .none), x.2)
theorem disp6 : dictDisplay ((evalEachOpt st6d.1 hEnv).zip ((evalEach st6d.2.1 hEnv).map fun v => do let x ← v; standAt st6d.2.2; pure x)) =
    ((subDict run6 >>= fun d => pure (some d)) >>= fun r => match r with | some d => pure (.ref d) | none => newDict) := by kernel_rfl!
theorem pairs6 {w : World} {os : OsState} : LR w (evalPairs run6) (sD w os) st6d.2.2 (kvs.map kvV) (sL w os) st6d.2.2 140 := by
  intro K H gd lv N r' e
  have : topRun treeTable pw w 11 ann0 (N + 140) (sD w os) ⟨(evalPairs run6).wrap K H gd lv, cE, st6d.2.2, B0⟩ = topRun treeTable pw w 11 ann0 N (sL w os) ⟨K (kvs.map kvV), cE, st6d.2.2, B0⟩ := by kernel_rfl!
  rw [this]; exact e

theorem LR.alloc {W : World} {s : Shared} {p : Pos} {o : Obj} : LR W (alloc o) s p s.heap.objs.size { s with heap := s.heap.push o } p 1 := fun K H gd lv N r e => by
  obtain ⟨heap, gens, drawn, toks, os⟩ := s
  exact e
theorem puts6 {w : World} {os : OsState} : kvs.foldl (put w.params) (sL w os) = sM w os := by kernel_rfl!
theorem loop6 {w : World} {r : Bool} {os : OsState} {p : Pos} : LR (Ww w r) (forIn (kvs.map kvV) PUnit.unit stepB) (sL w os) p PUnit.unit (sM w os) p 2400 := by
  have h := LR_puts (w := w) (r := r) (p := p) kvs (sL w os) #[] 0 (.type "dict") none #[] (by kernel_rfl!) (fun kv _ e he => by simp at he) (by decide) (by decide)
  rw [puts6] at h
  exact h
theorem same6 {w : World} {r : Bool} {os : OsState} : sL (Ww w r) os = sL w os := by kernel_rfl!
theorem sub6 {w : World} {r : Bool} {os : OsState} : LR (Ww w r) (subDict run6) (sA w os) st6d.2.2 53 (sM w os) st6d.2.2 2541 := by
  unfold subDict
  refine LR.more (c := (0 + (2400 + 140)) + 1) ?_ (by decide)
  refine LR.bind (s₁ := sD w os) (a := 53) LR.alloc ?_
  refine LR.bind (a := PUnit.unit) (LR.holding ?_) LR.ret
  refine LR.iteT (by decide) ?_
  refine LR.bind (pairs6 (w := Ww w r)) ?_
  rw [same6]
  exact LR.holding (LR.bind (c₂ := 0) loop6 LR.ret)
theorem store6 {w : World} {r : Bool} {os : OsState} : LR (Ww w r) (do assignStores hEnv (.ref 53) (← swappedStores [.Name st6n.1 st6n.2] (.Dict st6d.1 st6d.2.1 st6d.2.2) hEnv) ((assignEach [.Name st6n.1 st6n.2] hEnv).map (·.2))) (sM w os) st6d.2.2 .next (sC w os) ⟨12, 0, 12, 16⟩ 7 := by
  intro K H gd lv N r' e
  have : topRun treeTable pw (Ww w r) 11 ann0 (N + 7) (sM w os) ⟨(do assignStores hEnv (.ref 53) (← swappedStores [.Name st6n.1 st6n.2] (.Dict st6d.1 st6d.2.1 st6d.2.2) hEnv) ((assignEach [.Name st6n.1 st6n.2] hEnv).map (·.2)) : Sem Flow).wrap K H gd lv, cE, st6d.2.2, B0⟩ = topRun treeTable pw (Ww w r) 11 ann0 N (sC w os) ⟨K .next, cE, ⟨12, 0, 12, 16⟩, B0⟩ := by kernel_rfl!
  rw [this]; exact e
theorem exec6 {w : World} {r : Bool} {os : OsState} : LR (Ww w r) (exec st6 hEnv) (sA w os) ⟨11, 0, 11, 18⟩ .next (sC w os) ⟨12, 0, 12, 16⟩ 2560 := by
  rw [st6_eq, exec_Assign]
  refine LR.more (c := ((7 + (0 + ((0 + 2541)) + 1)) + 0) + 1) ?_ (by decide)
  refine LR.bind LR.at_ ?_
  refine LR.bind (a := false) (s₁ := sA w os) (p₁ := st6p) (by
    have e : swapsWithSole [.Name st6n.1 st6n.2] (.Dict st6d.1 st6d.2.1 st6d.2.2) st6p.line hEnv = pure false := by kernel_rfl!
    rw [e]; exact LR.ret) ?_
  refine LR.iteF (by decide) ?_
  refine LR.bind (a := .ref 53) (s₁ := sM w os) (p₁ := st6d.2.2) ?_ store6
  rw [arm_eval_Dict]
  refine LR.bind LR.at_ ?_
  rw [disp6]
  refine LR.bind (a := some 53) (LR.bind (c₂ := 0) sub6 LR.ret) ?_
  exact LR.ret
end Pb93
end
section
open PySem PySem.W PyProof.Rows
namespace Pb93
noncomputable def hk : Hook := kHook K ks (fun _ => rfl)
noncomputable def rowR : OpenRow := OpenLaw.row PySem.Challenge.rw_pb0093_01
noncomputable def xt : Shared → Bool := fun s => xlAt qv [] s && recOk (RowW.records rowR.toRowW) s
noncomputable def runC (w : World) (b : Bool) (os : OsState) := topRun treeTable pw (Ww w b) 11 ann0 900 (sC w os) (restOf (bE.drop 7) hEnv cE ⟨12, 0, 12, 16⟩ B0)
theorem segC (w : World) (b : Bool) (os : OsState) : (runC w b os).map (fun s => ((staticsOk (importedModules pw.main.body) (boot_heap w.params) s.heap && namesBound pw s.heap && gensDone s && laidKept (boot_heap w.params) s.heap), openSeen qv lo (importedModules pw.main.body) xt true s, hk.obs s)) = some (true, openGood qv lo, hk.val (Ww w b)) := by cases b <;> kernel_rfl!
end Pb93
end
section
open PySem PySem.W PyProof.Rows
namespace Pb93
theorem boot93 (w : World) : (fencedOpening treeTable pw w 20000).map (fun s => (s.heap, s.gens, s.drawn, s.toks)) = some (boot_heap w.params, Array.mk [], boot_drawn, boot_toks) :=
  boot_open (by kernel_rfl!) (by decide) (fun s => rfl) w
theorem size93 (w : World) : ((boot_heap w.params).isNs mainGlobals && (Array.mk [] : Array GenState).size == 0, (boot_heap w.params).objs.size, (boot_heap w.params).nsMap mainGlobals "__annotations__") = (true, 11, ann0) := by kernel_rfl!
noncomputable def k7 (f : Flow) : Sem PySem.Fin := match f with | .next => (execs (bE.drop 7) hEnv).wrap doneF (leaveH hEnv) id id | f => doneF f
theorem e93 : (restOf (bE.drop 6) hEnv cE ⟨11, 0, 11, 18⟩ B0) = ⟨(exec st6 hEnv).wrap k7 (leaveH hEnv) id id, cE, ⟨11, 0, 11, 18⟩, B0⟩ := by
  rw [bE6]
  show (⟨_, _, _, _⟩ : Thread) = _
  rw [execs_cons_wrap]
  congr 2
theorem run93 {w : World} {b : Bool} {os : OsState} {r : Shared} (h : runC w b os = some r) : topRun treeTable pw (Ww w b) 11 ann0 20000 (sB w os) (topStub pw) = some r := by
  have h2 := exec6 (w := w) (r := b) (os := os) k7 (leaveH hEnv) id id 900 r h
  rw [← e93] at h2
  have h3 := upToA (w := Ww w b) (os := os) h2
  have h4 := topRun_mono 16032 _ _ _ _ h3
  rwa [show 12 + (496 + (900 + 2560)) + 16032 = 20000 from rfl] at h4
theorem top93 (w : World) (b : Bool) (os : OsState) : (topFrom treeTable pw (Ww w b) 20000 (sB w os)).map (fun s => (openSeen qv lo (importedModules pw.main.body) xt true s, hk.obs s)) = some (openGood qv lo, hk.val (Ww w b)) := by
  obtain ⟨r, hr, e⟩ := Option.map_eq_some_iff.mp (segC w b os)
  obtain ⟨e1, e2, e3⟩ : _ ∧ _ ∧ _ := by simpa only [Prod.mk.injEq] using e
  obtain ⟨z1, z2, z3⟩ : _ ∧ _ ∧ _ := by simpa only [Prod.mk.injEq] using size93 w
  have t : topFrom treeTable pw (Ww w b) 20000 (sB w os) = some r := by
    unfold topFrom
    show (match ((boot_heap w.params).isNs mainGlobals && (Array.mk [] : Array GenState).size == 0) with | true => _ | false => _) = _
    rw [z1]
    show (topRun treeTable pw (Ww w b) (boot_heap w.params).objs.size ((boot_heap w.params).nsMap mainGlobals "__annotations__") 20000 (sB w os) (topStub pw)).bind _ = _
    rw [z2, z3, run93 hr]
    show (match staticsOk (importedModules pw.main.body) (boot_heap w.params) r.heap && namesBound pw r.heap && gensDone r && laidKept (boot_heap w.params) r.heap with | true => _ | false => _) = _
    rw [e1]
  rw [t]
  exact congrArg some (Prod.ext e2 e3)
theorem left93 : LeftO pw qv lo xt hk.obs hk.val 20000 := LeftO.of_split "special-get-raises" fun w => by
  obtain ⟨s, hs, e⟩ := Option.map_eq_some_iff.mp (boot93 w)
  rw [hs]
  obtain ⟨heap, gens, drawn, toks, os⟩ := s
  obtain ⟨rfl, rfl, rfl, rfl⟩ : heap = boot_heap w.params ∧ gens = Array.mk [] ∧ drawn = boot_drawn ∧ toks = boot_toks := by simpa using e
  have h0 := top93 w false os
  have h1 := top93 w true os
  exact congrArg some (Prod.ext h0 h1)
end Pb93
end
section
open PySem PySem.W PyProof.Rows PySem.Spec PySem.Calls
namespace Pb93
open Sem (wp)
/-- the codes that can hold no bytearray -/
def badIds : List String := ["bytearray.__contains__", "bytearray.__mod__", "bytearray.__rmod__", "_struct.pack_into.held", "bytearray.find.held"]
def okC : Code → Prop
  | .builtin id _ => badIds.contains id = false ∧ Builtin.Bytes.decodersThatHold.contains id = false
  | _ => True
def ClB (Γ : PySem.Ctx) : Prop := ∀ x ∈ Γ.below, okC x.1
/-- wpAny, of the stacks alone whose codes hold no bytearray -/
def wpS {α : Type} (M : Model) (A : Around) (t : Sem α) (Q : α → Shared → Prop) (E : Value → Shared → Prop) (s : Shared) : Prop :=
  ∀ Γ p, Γ.In A → okC Γ.code → ClB Γ → wp M Γ t (fun a _ s' => Q a s') (fun e _ s' => E e s') p s
def codeS (M : Model) (A : Around) (c : Code) (R : Result → Shared → Prop) (s : Shared) : Prop :=
  ∀ Γ p, Γ.code = c → Γ.Below A → ClB Γ → wpCode M Γ R p s
section
variable {α β : Type} {M : Model} {A : Around} {E : Value → Shared → Prop} {s : Shared}
theorem wpS_of {t : Sem α} {Q : α → Shared → Prop} (h : wpAny M A t Q E s) : wpS M A t Q E s := fun Γ p hΓ _ _ => h Γ p hΓ
theorem wpS_pure {a : α} {Q : α → Shared → Prop} (h : Q a s) : wpS M A (pure a) Q E s := wpS_of (wpAny_pure h)
theorem wpS_mono {t : Sem α} {Q Q' : α → Shared → Prop} {E' : Value → Shared → Prop} (h : wpS M A t Q E s) (hQ : ∀ a s, Q a s → Q' a s) (hE : ∀ e s, E e s → E' e s) : wpS M A t Q' E' s :=
  fun Γ p a b c => Sem.wp_mono M Γ t (fun x _ y => hQ x y) (fun e _ y => hE e y) p s (h Γ p a b c)
theorem wpS_bind {m : Sem α} {f : α → Sem β} {Q : β → Shared → Prop} (h : wpS M A m (fun a s' => wpS M A (f a) Q E s') E s) : wpS M A (m >>= f) Q E s := fun Γ p a b c => by
  rw [Sem.wp_bind']
  exact Sem.wp_mono M Γ m (fun x p' s' h' => h' Γ p' a b c) (fun _ _ _ h' => h') p s (h Γ p a b c)
theorem wpS_onRaise {m : Sem α} {k : Value → Sem Unit} {Q : α → Shared → Prop} (h : wpS M A m Q (fun _ _ => False) s) : wpS M A (m.onRaise k) Q E s := fun Γ p a b c => by
  rw [Sem.wp_onRaise]
  exact Sem.wp_mono M Γ m (fun _ _ _ h' => h') (fun _ _ _ (h' : False) => h'.elim) p s (h Γ p a b c)
theorem wpS_runValue {c : Code} {Q : Value → Shared → Prop} (hc : codeS M A c (fun r s' => match r with | .ok (.ret v) => Q v s' | .ok _ => False | .error e => E e s') s) : wpS M A (runValue c) Q E s := fun Γ p hΓ hk hb => by
  rw [Sem.wp_runValue]
  refine hc _ p rfl (hΓ.enter c none p (by intro x; cases x)) fun x hx => ?_
  rcases List.mem_cons.mp hx with rfl | hx
  · exact hk
  · exact hb x hx
theorem wpS_call {f : Value} {pos : List Value} {kw : List (Str × Value)} {Q : Value → Shared → Prop}
    (hc : codeS M A (.call f ⟨pos, kw⟩) (fun r s' => match r with | .ok (.ret v) => Q v s' | .ok _ => False | .error e => E e s') s) : wpS M A (call f pos kw) Q E s := wpS_runValue hc
theorem codeS_of_tree {c : Code} {R : Result → Shared → Prop} (hk : okC c)
    (h : wpS M (A.under c) (M.den c) (fun fin s' => match fin with | .done f => R (.ok f) s' | .again c' => c'.quiet = true ∧ codeS M A c' R s') (fun e s' => R (.error e) s') s) : codeS M A c R s := fun Γ p hc hΓ hb => by
  rw [wpCode_iff_wp, hc]
  refine Sem.wp_mono M Γ _ (fun fin p' s' h' => ?_) (fun _ _ _ h' => h') p s (h Γ p (hc ▸ hΓ.in) (by rw [hc]; exact hk) hb)
  cases fin with
  | done f => exact h'
  | again c' => exact ⟨h'.1, h'.2 (Γ.goto c') p' rfl (hΓ.goto c') hb⟩
theorem codeS_loop {c : Code} {R : Result → Shared → Prop} (hq : c.quiet = true) (hk : okC c) (I : Nat → Shared → Prop)
    (turn : ∀ n s, I n s → wpS M (A.under c) (M.den c) (fun fin s' => match fin with
        | .done f => R (.ok f) s'
        | .again c' => c' = c ∧ ∃ m, m < n ∧ I m s') (fun e s' => R (.error e) s') s)
    (n : Nat) (h : I n s) : codeS M A c R s := by
  induction n using Nat.strongRecOn generalizing s with
  | ind n ih =>
    refine codeS_of_tree hk (wpS_mono (turn n s h) (fun fin s' hf => ?_) fun _ _ h' => h')
    cases fin with
    | done f => exact hf
    | again c' =>
      obtain ⟨rfl, m, hm, hI⟩ := hf
      exact ⟨hq, ih m hm hI⟩
end
section
variable {prog : Program} {w : World} {A : Around} {E : Value → Shared → Prop} {s : Shared}
/-- a def's body, run as a code; nothing comes out of it but its end -/
theorem codeS_func {body : List Stmt} {env : Env} {R : Result → Shared → Prop}
    (h : wpS (model prog w) (A.deeper env) (execs body env) (fun f s' => R (.ok (.ret (match f with | .ret v => v | _ => .none))) s') (fun _ _ => False) s) :
    codeS (model prog w) A (.func body env) R s := by
  refine codeS_of_tree trivial ?_
  show wpS _ (A.deeper env) (do point; match ← (execs body env).onRaise (leaving env) with | .ret v => ret v | _ => ret .none) _ _ s
  refine wpS_bind (wpS_of (wpAny_point (wpS_bind (wpS_onRaise (wpS_mono h (fun f s' h' => ?_) fun _ _ h' => h')))))
  cases f <;> exact wpS_pure h'
theorem codeS_call_function {a : Addr} {args : Args} {o : Obj} {fd : FuncData} {body : List Stmt} {R : Result → Shared → Prop} (hroom : A.depth < recursionLimit) (ho : s.heap.get? a = some o)
    (hd' : o.data = .func fd) (hco : fd.scope.isCoroutine = false) (hgen : fd.scope.isGenerator = false) (hbody : fd.body = .stmts body) (hcd : s.heap.CodeRec fd.code fd.qualname)
    (h : wpAny (model prog w) A.in1 (bindArgs fd args) (fun binds s₁ =>
      wpAny (model prog w) A.in1 (newFunctionEnv fd.scope fd.globals fd.closure binds (fd.qualname ++ ".<locals>.") (some a) fd.code none fd.builtins)
        (fun env s₂ => s₂.heap.NoLimit ∧ codeS (model prog w) A (.func body env) R s₂) (fun e s' => R (.error e) s') s₁) (fun e s' => R (.error e) s') s) :
    codeS (model prog w) A (.call (.ref a) args) R s := by
  refine codeS_of_tree trivial (wpS_of ?_)
  show wpAny _ A.in1 (callAny (.ref a) args) _ _ s
  simp only [callAny]
  refine wpAny_bind (wpAny_load ho ?_)
  obtain ⟨c, oc, vs, tq, hc, hoc, hdc, hq⟩ := hcd
  simp only [hd', callFunction, hco, hgen, hbody, hc]
  rw [hc] at h
  refine wpAny_bind (m := field (.ref c) 1) (wpAny_field hoc hdc hq (wpAny_bind (wpAny_pure ?_)))
  exact wpAny_bind (wpAny_mono h (fun _ s₁ h₁ => wpAny_bind (wpAny_mono h₁ (fun _ s₂ h₂ => wpAny_bind (wpAny_enterFrame h₂.1 hroom
    (wpAny_pure (And.intro rfl h₂.2)))) fun _ _ h' => h')) fun _ _ h' => h')
end
end Pb93
end
section
open PySem PySem.W PyProof.Rows PySem.Spec PySem.Calls
namespace Pb93
open Sem (wp)
open Builtin.Bytes
section
variable {M : Model} {A : Around} {E : Value → Shared → Prop} {s : Shared}
theorem none_any {f : Code × Pos → Bool} {st : List (Code × Pos)} (h : ∀ x ∈ st, okC x.1) (hf : ∀ c p, okC c → f (c, p) = false) : st.any f = false := by
  rw [List.any_eq_false]
  rintro ⟨c, p⟩ hx
  rw [hf c p (h _ hx)]
  exact Bool.false_ne_true
theorem wpS_exported {self : Value} {Q : Bool → Shared → Prop} (h : Q false s) : wpS M A (exported self) Q E s := fun Γ p a b c => by
  unfold exported
  rw [Sem.wp_bind']
  show wp M Γ (Sem.stack fun x => Sem.pure x) _ _ p s
  rw [Sem.wp_stack, Sem.wp_pure]
  show Q _ s
  rw [none_any (st := (Γ.code, p) :: Γ.below)]
  · exact h
  · intro x hx
    rcases List.mem_cons.mp hx with rfl | hx
    · exact b
    · exact c x hx
  · intro c p hc
    cases c with
    | builtin id args =>
      obtain ⟨h1, h2⟩ := hc
      split
      all_goals first
        | (simp [badIds] at h1; done)
        | (rename_i e; simp only [Prod.mk.injEq, Code.builtin.injEq] at e; obtain ⟨⟨rfl, rfl⟩, rfl⟩ := e; rw [h2, Bool.and_false])
        | rfl
        | (rename_i e; simp_all [badIds]; done)
    | _ => rfl
theorem wpS_ifn {α : Type} {c : Bool} {a b : Sem α} {Q : α → Shared → Prop} (hc : c = false) (h : wpS M A b Q E s) : wpS M A (if c = true then a else b) Q E s := by
  subst hc
  exact h
theorem wpS_resize {D : Addr} {b : Array UInt8} {o : Obj} {Q : Unit → Shared → Prop} (ho : s.heap.get? D = some o) (hd : o.data = .bytearray b) (h : Q () s) : wpS M A (checkResize (.ref D)) Q E s := by
  unfold checkResize
  refine wpS_bind (wpS_bind (m := exported (.ref D)) (wpS_exported ?_))
  refine wpS_bind (m := exportsOf (.ref D)) (wpS_of ?_)
  show wpAny _ _ (load D >>= _) _ _ _
  refine wpAny_bind (wpAny_load ho ?_)
  rw [hd]
  refine wpAny_pure (wpS_pure ?_)
  exact wpS_pure h
end
section
variable {prog : Program} {w : World} {A : Around} {E : Value → Shared → Prop} {s : Shared}
theorem codeS_builtin {id : String} {args : Args} {b : Builtin} {R : Result → Shared → Prop} (hk : okC (.builtin id args)) (hb : entryFor table id = some b)
    (h : wpS (model prog w) (A.under (.builtin id args)) (b args) (fun fin s' => match fin with | .done f => R (.ok f) s' | .again c' => c'.quiet = true ∧ codeS (model prog w) A c' R s') (fun e s' => R (.error e) s') s) :
    codeS (model prog w) A (.builtin id args) R s := by
  refine codeS_of_tree hk ?_
  show wpS _ _ (match entryFor table id with | some b => b args | none => unsupported ((withoutEnding? id "#data").getD id)) _ _ s
  rw [hb]; exact h
theorem callS_entry {T name : Str} {id : String} {self : Value} {rest : List Value} {b : Builtin} {Q : Value → Shared → Prop} {Ts names : String} (sl : Slot Ts names id) (hT : s.TypeIs self Ts) (hk : okC (.builtin id ⟨self :: rest, []⟩)) (hb : entryFor table id = some b) (ha : argsOk id ⟨self :: rest, []⟩)
    (h : wpS (model prog w) A.in1 (b ⟨self :: rest, []⟩) (fun fin s' => ∃ v, fin = .done (.ret v) ∧ Q v s') E s) :
    wpS (model prog w) A (call (.builtin id) (self :: rest)) Q E s := by
  refine wpS_call (codeS_of_tree trivial ?_)
  show wpS _ A.in1 (do checkBuiltinCall id ⟨self :: rest, []⟩; again (.builtin id ⟨self :: rest, []⟩)) _ _ s
  refine wpS_bind (wpS_of (sl.check _ _ _ _ _ _ _ _ hT ha (wpS_pure ⟨plainId_quiet sl.plain _, codeS_builtin hk hb ?_⟩)))
  rw [Around.under_plainId sl.plain _]
  refine wpS_mono h (fun fin s' hf => ?_) fun _ _ z => z
  obtain ⟨v, rfl, hq⟩ := hf
  exact hq
theorem slot_append : Slot "bytearray" "append" "bytearray.append" :=
  .of (owner := "bytearray") (n := "append") (by rw [typeLookup_type, builtinLookup_eq_fast]; kernel_rfl) (by decide +kernel) (by decide +kernel) (by decide +kernel)
    (by first | exact .inl (by decide +kernel) | exact .inr (by decide +kernel)) (by rw [isSubtype_type]; kernel_rfl)
theorem args_append (a b : Value) : argsOk "bytearray.append" ⟨[a, b], []⟩ := by kernel_rfl
theorem one_append (a b : Value) : selfAndOne "bytearray.append" ⟨[a, b], []⟩ = pure (a, b) := by first | rfl | kernel_rfl
theorem entry_append : entryFor table "bytearray.append" = some Builtin.«bytearray.append» := by first | exact entryFor_of_fast (by kernel_rfl) | exact entryFor_of_tree (by kernel_rfl)
abbrev arrO (b : Array UInt8) : Obj := { cls := .type "bytearray", data := .bytearray b }
theorem append_byte {D : Addr} {b : Array UInt8} {k : Int} {t : Tok} {Q : Value → Shared → Prop} (hD : s.heap.get? D = some (arrO b)) (h0 : 0 ≤ k) (h1 : k < 256) (hz : b.size + 1 ≤ sizeLine)
    (h : ∀ h', Heap.SameBut D s.heap h' → h'.get? D = some (arrO (b.push k.toNat.toUInt8)) → Q .none { s with heap := h' }) : wpS (model prog w) A (call (.builtin "bytearray.append") [.ref D, .int k t]) Q E s := by
  refine callS_entry (T := "") (name := "") slot_append ⟨_, hD, rfl⟩ (by exact ⟨by decide +kernel, by decide +kernel⟩) entry_append (args_append _ _) ?_
  unfold Builtin.«bytearray.append»
  rw [one_append]
  refine wpS_bind (wpS_pure ?_)
  dsimp only
  refine wpS_bind (m := byteValue (.int k t)) (wpS_of ?_)
  unfold byteValue
  refine wpAny_bind (wpAny_of_eq (rfl : asIndex (.int k t) = pure k) ?_)
  refine bm_if_false (by simp only [Bool.or_eq_false_iff, decide_eq_false_iff_not]; omega) (wpAny_pure ?_)
  refine wpS_bind (wpS_resize hD rfl ?_)
  refine wpS_bind (wpS_of ?_)
  show wpAny _ _ (updateBytearray D (·.push k.toNat.toUInt8)) _ _ _
  unfold updateBytearray
  refine wpAny_bind (wpAny_load hD ?_)
  show wpAny _ _ (update D (Obj.mapBytearray (·.push k.toNat.toUInt8)) >>= fun _ => lookBehind D) _ _ _
  refine wpAny_bind (wpAny_update hD ?_)
  have h2 : (s.heap.update D (Obj.mapBytearray (·.push k.toNat.toUInt8))).get? D = some (arrO (b.push k.toNat.toUInt8)) := Heap.get?_update_self (Obj.mapBytearray (·.push k.toNat.toUInt8)) hD rfl
  refine wpAny_lookBehind h2 ?_ (wpS_pure ⟨.none, rfl, h _ (Heap.SameBut.update ..) h2⟩)
  show (if (b.push k.toNat.toUInt8).size > sizeLine then some "bytearray:memory" else none) = none
  rw [if_neg]
  rw [Array.size_push]; omega
end
end Pb93
end
section
open PySem PySem.W PyProof.Rows PySem.Spec PySem.Calls
namespace Pb93
open Sem (wp)
def clB : Code → Bool
  | .builtin id _ => !badIds.contains id && !Builtin.Bytes.decodersThatHold.contains id
  | _ => true
theorem clB_ok {c : Code} (h : clB c = true) : okC c := by
  cases c with
  | builtin id args =>
    simp only [clB, Bool.and_eq_true, Bool.not_eq_true'] at h
    exact h
  | _ => trivial
theorem ok_clB {c : Code} (h : okC c) : clB c = true := by
  cases c with
  | builtin id args =>
    simp only [clB, Bool.and_eq_true, Bool.not_eq_true']
    exact h
  | _ => rfl
/-- t where the stack is clean, u where it is not -/
def guardS {α : Type} (t u : Sem α) : Sem α := .stack fun st => if (st.all fun x => clB x.1) = true then t else u
section
variable {α : Type} {M : Model} {A : Around} {E : Value → Shared → Prop} {s : Shared} {t u : Sem α} {Q : α → Shared → Prop}
theorem guard_all {Γ : PySem.Ctx} {p : Pos} (h : (((Γ.code, p) :: Γ.below).all fun x => clB x.1) = true) : okC Γ.code ∧ ClB Γ := by
  rw [List.all_eq_true] at h
  exact ⟨clB_ok (h _ List.mem_cons_self), fun x hx => clB_ok (h x (List.mem_cons_of_mem _ hx))⟩
theorem all_guard {Γ : PySem.Ctx} {p : Pos} (h : okC Γ.code) (h' : ClB Γ) : (((Γ.code, p) :: Γ.below).all fun x => clB x.1) = true := by
  rw [List.all_eq_true]
  intro x hx
  rcases List.mem_cons.mp hx with rfl | hx
  · exact ok_clB h
  · exact ok_clB (h' x hx)
theorem guard_mk (h1 : wpS M A t Q E s) (h2 : wpAny M A u Q E s) : wpAny M A (guardS t u) Q E s := fun Γ p hΓ => by
  unfold guardS
  rw [Sem.wp_stack]
  by_cases hc : (((Γ.code, p) :: Γ.below).all fun x => clB x.1) = true
  · rw [if_pos hc]
    exact h1 Γ p hΓ (guard_all hc).1 (guard_all hc).2
  · rw [if_neg hc]
    exact h2 Γ p hΓ
theorem guard_S (h : wpAny M A (guardS t u) Q E s) : wpS M A t Q E s := fun Γ p hΓ hk hb => by
  have z := h Γ p hΓ
  unfold guardS at z
  rwa [Sem.wp_stack, if_pos (all_guard hk hb)] at z
theorem guard_turn {β : Type} {t' u' : Sem β} {Q' : β → Shared → Prop} (h : wpAny M A (guardS t u) Q E s) (h1 : wpS M A t Q E s → wpS M A t' Q' E s)
    (h2 : ∀ Γ p, wp M Γ u (fun a _ s' => Q a s') (fun e _ s' => E e s') p s → wp M Γ u' (fun a _ s' => Q' a s') (fun e _ s' => E e s') p s) : wpAny M A (guardS t' u') Q' E s := fun Γ p hΓ => by
  have z := h Γ p hΓ
  unfold guardS at z ⊢
  rw [Sem.wp_stack] at z ⊢
  by_cases hc : (((Γ.code, p) :: Γ.below).all fun x => clB x.1) = true
  · rw [if_pos hc]
    exact h1 (guard_S h) Γ p hΓ (guard_all hc).1 (guard_all hc).2
  · rw [if_neg hc] at z ⊢
    exact h2 Γ p z
end
/-- the first step of a run whose tree is guarded, from the claim's caller: its stack is clean -/
theorem guard_first {p : Program} {w : World} {s : Shared} {t u : Sem PySem.Fin} (hr : s.asleep) : sstep (denote table) p w (.single s ⟨guardS t u, .builtin "claim.caller" {}, default, []⟩) = .go (.single s ⟨t, .builtin "claim.caller" {}, default, []⟩) := by
  have e : step (denote table) p w s ⟨guardS t u, .builtin "claim.caller" {}, default, []⟩ = .go s ⟨t, .builtin "claim.caller" {}, default, []⟩ := by
    obtain ⟨heap, gens, drawn, toks, os⟩ := s
    rfl
  rcases sstep_single (denote table) p w s ⟨guardS t u, .builtin "claim.caller" {}, default, []⟩ (by rfl) hr with z | z
  · rw [z, e]; rfl
  · rw [e] at z; cases z
theorem guard_run {p : Program} {w : World} {s s' : Shared} {t u : Sem PySem.Fin} {n : Nat} {o : Outcome} (hr : s.asleep) (h : schedN (denote table) p w n (.single s ⟨guardS t u, .builtin "claim.caller" {}, default, []⟩) = .halted o s') :
    ∃ m, schedN (denote table) p w m (.single s ⟨t, .builtin "claim.caller" {}, default, []⟩) = .halted o s' := by
  cases n with
  | zero => cases h
  | succ m =>
    refine ⟨m, ?_⟩
    unfold schedN at h
    rw [guard_first hr] at h
    exact h
theorem guard_call {c : ClaimW} {w : World} {free : Addr → Prop} {gens : Prop} {kept : Heap → Prop} {s₀ : Shared} {tree : List Value → Sem PySem.Fin} {u : Sem PySem.Fin} (hz : s₀.asleep) (h : c.CallFrom (fun vs => ⟨guardS (tree vs) u, .builtin "claim.caller" {}, default, []⟩) w free gens kept s₀) :
    c.CallFrom (fun vs => ⟨tree vs, .builtin "claim.caller" {}, default, []⟩) w free gens kept s₀ := fun args h1 h2 ord h3 => by
  obtain ⟨vs, s₁, l, n, o, s', r, x⟩ := h args h1 h2 ord h3
  obtain ⟨m, hm⟩ := guard_run (Shared.asleep_of_life (layAllW_rest _ _ _ l).2.2.2 hz) r
  exact ⟨vs, s₁, l, m, o, s', hm, x⟩
theorem guard_holds {c : ClaimW} {tree : List Value → Sem PySem.Fin} {u : Sem PySem.Fin} {defs keeps : List Str} {writes : Bool} (hz : ∀ w s, AfterRun (opening c.prog) w s → ∀ s₀, fenceModules? c.prog s = some s₀ → s₀.asleep)
    (h : c.HoldsOpenBy (fun vs => ⟨guardS (tree vs) u, .builtin "claim.caller" {}, default, []⟩) defs keeps writes) : c.HoldsOpenBy (fun vs => ⟨tree vs, .builtin "claim.caller" {}, default, []⟩) defs keeps writes := by
  obtain ⟨a, b, h⟩ := h
  refine ⟨a, b, fun w => ⟨(h w).1, fun s hs => ?_⟩⟩
  obtain ⟨s₀, hf, hg, s₁, hT, d1, d2, d3, hc⟩ := (h w).2 s hs
  exact ⟨s₀, hf, hg, s₁, hT, d1, d2, d3, guard_call (Shared.asleep_of_life hT.2.1 (hz w s hs s₀ hf)) hc⟩
/-- holds_open, its walk for clean stacks alone -/
abbrev WalkS (q : Program) (loose : List Str) (XP : (Str → Option Value) → Heap → Prop) (YP : World → Heap → Prop) (r : RowW) (d : DefRec) (kwd : List (Str × PySem.Expr)) : Prop :=
  ∀ (w : World) (s₀ s₁ : Shared) (mg mb : Str → Option Value), Ground q loose r.records XP w s₀ mg mb s₁.heap → YP w s₁.heap → ∀ (a : Addr) (o : Obj) (pm cd doc dV kV : Value), s₁.heap.get? a = some o →
    o.data = .func { docDef d.name d.params d.body d.scope pm cd doc with defaults := dV, kwdefaults := kV } → s₁.heap.CodeRec cd d.name → Dflts mg s₁.heap d.params kwd dV kV → mg d.name = some (.ref a) → s₁.gens = #[] →
    ∀ (args : List WData) (vals : List Value) (as : List Addr), r.claim.pre args = true → WData.layableAll args = true → ReadsAllW r.records (classAt s₀.heap) s₁.heap vals args as → WellAll w.params s₁.heap vals args → (∀ a ∈ as, (a == sysModules) = false) →
      wpS (model r.prog w) callerA (PySem.call (.ref a) vals) (fun v s' => GoodWG r.claim (classAt s₀.heap) (ExcName.means s₀.heap) args s₁ (.ok (.ret v)) s')
        (fun e s' => GoodWG r.claim (classAt s₀.heap) (ExcName.means s₀.heap) args s₁ (.error e) s') s₁ ∧ GoodWG r.claim (classAt s₀.heap) (ExcName.means s₀.heap) args s₁ (.ok (.ret (.bool true))) s₁
theorem holds_clean {r : OpenRow} {q : Program} {loose : List Str} {Xt : Shared → Bool} {XP : (Str → Option Value) → Heap → Prop} {α : Type} {Yf : Shared → α} {Ya : World → α} {YP : World → Heap → Prop} {d : DefRec} {kwd : List (Str × PySem.Expr)} {N : Nat}
    (left : LeftO r.prog q loose Xt Yf Ya N) (hY : ∀ w s, Yf s = Ya w → YP w s.heap) (hYk : ∀ w h h', YP w h → (∀ b o, h.get? b = some o → h'.get? b = some o) → YP w h')
    (hX : ∀ s, Xt s = true → XP (s.heap.nsMap mainGlobals) s.heap) (hXk : ∀ mg h h', XP mg h → (∀ b o, h.get? b = some o → h'.get? b = some o) → XP mg h')
    (hdef : defOf q r.name = some (d, kwd)) (hp : r.prog.theDef r.name = some (d.params, d.body, d.scope)) (hk : kwWritten? d.params.kwonlyargs d.params.kw_defaults = some kwd) (hRf : ∀ s, Xt s = true → RecFacts r.records s.heap) (hwr : (!r.writes || r.records.isEmpty) = true)
    (k1 : r.wellSaid = true) (ok : (chainsOk q && opensWell r.prog && (frees r.toRowW && r.within.isEmpty)) = true) (hb : r.prog.bare) (hw : r.toRowW.promised)
    (call : WalkS q loose XP YP r.toRowW d kwd) : r.Holds := by
  have hch : chainsOk q = true := (Bool.and_eq_true_iff.mp (Bool.and_eq_true_iff.mp ok).1).1
  refine ⟨k1, hw, ?_⟩
  show r.toRowW.claim.HoldsOpenBy (fun vs => ⟨(do match ← nsGet mainNs r.name with
      | some f => do ret (← PySem.call f vs)
      | none => unsupported "claim.caller:no-such-global"), .builtin "claim.caller" {}, default, []⟩) _ _ _
  refine guard_holds (u := ret (.bool true)) (fun w s hs s₀ hf => ?_) ?_
  · obtain ⟨s₀', hf', _, s₁, hT, hz, _⟩ := (left.behind hX hch w).2 s hs
    obtain rfl : s₀' = s₀ := Option.some.inj (hf'.symm.trans hf)
    exact Shared.asleep_of_life hT.2.1.symm hz
  refine open_anyG (r := r.toRowW) (run := fun f vs => guardS (PySem.call f vs) (pure (.bool true))) left hY hYk hX hXk hRf hwr ok hb hw
    (fun vs w s mg f Q E hg hf h => guard_turn h (fun h => wpS_bind (wpS_of (wpAny_nsGet hg (by rw [hf]; exact wpS_bind (wpS_mono h (fun _ _ x => wpS_pure x) fun _ _ x => x))))) fun Γ p z => z)
    (fun w s hg G n hn => ?_) fun w s₀ s₁ mg mb G Y args vs as hpre hlay L low => ?_
  · obtain rfl : n = r.name := by split at hn <;> simp_all
    exact pinned_of_view hg G hdef hp hk
  · obtain ⟨a, o, pm, cd, doc, dV, kV, h1, h2, h3, h4, h5⟩ := G.fn hdef
    obtain ⟨c1, c2⟩ := call w s₀ s₁ mg mb G Y a o pm cd doc dV kV h2 h3 h4 h5 (defOf_name hdef ▸ h1) L.gens args vs as hpre hlay L.reads L.well (L.low low)
    exact ⟨.ref a, h1, guard_mk c1 (wpAny_pure c2)⟩
end Pb93
end
section
open PySem PySem.W PyProof.Rows PySem.Spec PySem.Calls
namespace Pb93
open Builtin
section
variable {b c : Array UInt8} {t u : Tok}
theorem ends_eq : «bytes.endswith» ⟨[.bytes b t, .bytes c u], []⟩ = ret (.bool (if (Bytes.window b.size none none).2 - (Bytes.window b.size none none).1 < c.size then false else b.extract ((Bytes.window b.size none none).2.toNat - c.size) (Bytes.window b.size none none).2.toNat == c)) := by kernel_rfl!
theorem starts_eq : «bytes.startswith» ⟨[.bytes b t, .bytes c u], []⟩ = ret (.bool (if (Bytes.window b.size none none).2 - (Bytes.window b.size none none).1 < c.size then false else b.extract (Bytes.window b.size none none).1.toNat ((Bytes.window b.size none none).1.toNat + c.size) == c)) := by kernel_rfl!
end
theorem win (n : Nat) : Bytes.window n none none = (0, (n : Int)) := by
  unfold Bytes.window
  simp only [Option.getD_none]
  have h : ¬ ((n : Int) < 0) := by omega
  simp only [h, if_false, Int.min_self]
  rfl
section
variable {b : Array UInt8} {ks : List Int} {x : UInt8}
theorem ints_nil (hk : KBw.bInts b = ks) : b.size = ks.length := by rw [← hk, KBw.ints_length]
theorem last_ints (b : Array UInt8) : (KBw.bInts b).getLast? = b.toList.getLast?.map fun c => (c.toNat : Int) := by
  unfold KBw.bInts; rw [List.getLast?_map]
theorem head_ints (b : Array UInt8) : (KBw.bInts b).head? = b.toList.head?.map fun c => (c.toNat : Int) := by
  unfold KBw.bInts; rw [List.head?_map]
theorem byte_inj {c x : UInt8} : ((c.toNat : Int) = (x.toNat : Int)) ↔ c = x := by
  rw [Int.natCast_inj]
  exact UInt8.toNat_inj
theorem some_inj {o : Option UInt8} {x : UInt8} : (o.map fun c => (c.toNat : Int)) = some (x.toNat : Int) ↔ o = some x := by
  cases o with
  | none => simp
  | some c => rw [Option.map_some, Option.some.injEq, Option.some.injEq, byte_inj]
theorem ends_one : (if (Bytes.window b.size none none).2 - (Bytes.window b.size none none).1 < (#[x] : Array UInt8).size then false else b.extract ((Bytes.window b.size none none).2.toNat - (#[x] : Array UInt8).size) (Bytes.window b.size none none).2.toNat == #[x]) = decide ((KBw.bInts b).getLast? = some (x.toNat : Int)) := by
  rw [win]
  obtain ⟨l⟩ := b
  rw [last_ints, Bool.eq_iff_iff, decide_eq_true_eq, some_inj]
  dsimp only
  have e1 : (#[x] : Array UInt8).size = 1 := rfl
  rw [e1]
  by_cases h : l = []
  · subst h; simp
  · have hn : 0 < l.length := List.length_pos_iff.mpr h
    rw [if_neg (by simp; omega)]
    have e2 : (⟨l⟩ : Array UInt8).extract (Int.toNat ((⟨l⟩ : Array UInt8).size : Int) - 1) (Int.toNat ((⟨l⟩ : Array UInt8).size : Int)) = #[l.getLast h] := by
      apply Array.toList_inj.mp
      rw [Array.toList_extract]
      simp only [List.size_toArray, Int.toNat_natCast, List.extract_eq_take_drop]
      have e3 : l.drop (l.length - 1) = [l.getLast h] := by
        conv => lhs; arg 2; rw [← List.dropLast_concat_getLast h]
        rw [List.drop_left' (by rw [List.length_dropLast])]
      rw [e3, show l.length - (l.length - 1) = 1 by omega]
      rfl
    rw [e2]
    simp only [List.getLast?_eq_some_getLast h]
    simp
theorem starts_one : (if (Bytes.window b.size none none).2 - (Bytes.window b.size none none).1 < (#[x] : Array UInt8).size then false else b.extract (Bytes.window b.size none none).1.toNat ((Bytes.window b.size none none).1.toNat + (#[x] : Array UInt8).size) == #[x]) = decide ((KBw.bInts b).head? = some (x.toNat : Int)) := by
  rw [win]
  obtain ⟨l⟩ := b
  rw [head_ints, Bool.eq_iff_iff, decide_eq_true_eq, some_inj]
  dsimp only
  have e1 : (#[x] : Array UInt8).size = 1 := rfl
  rw [e1]
  cases l with
  | nil => simp
  | cons c r =>
    rw [if_neg (by simp; omega)]
    have e2 : (⟨c :: r⟩ : Array UInt8).extract (Int.toNat 0) (Int.toNat 0 + 1) = #[c] := by
      apply Array.toList_inj.mp
      rw [Array.toList_extract]
      rfl
    rw [e2]
    simp
end
section
variable {prog : Program} {w : World} {A : Around} {E : Value → Shared → Prop} {s : Shared} {b : Array UInt8} {ks : List Int} {t u : Tok}
theorem call_ends {x : UInt8} {x' : Int} {Q : Value → Shared → Prop} (hx : (x.toNat : Int) = x') (hk : KBw.bInts b = ks) (h : Q (.bool (decide (ks.getLast? = some x'))) s) : wpAny (model prog w) A (call (.builtin "bytes.endswith") [.bytes b t, .bytes #[x] u]) Q E s :=
  call_meets (S := fun _ R s => R (.ok (.ret (.bool (decide (ks.getLast? = some x'))))) s) FB.slot_bytes_endswith (typeIs_bytes _ _ _) FB.entry_bytes_endswith (FB.args_bytes_endswith_2 _ _)
    (.of_wp fun prog w A R s hS => by rw [ends_eq, ends_one, hk, hx]; exact wpAny_pure ⟨_, rfl, hS⟩) h
theorem call_starts {x : UInt8} {x' : Int} {Q : Value → Shared → Prop} (hx : (x.toNat : Int) = x') (hk : KBw.bInts b = ks) (h : Q (.bool (decide (ks.head? = some x'))) s) : wpAny (model prog w) A (call (.builtin "bytes.startswith") [.bytes b t, .bytes #[x] u]) Q E s :=
  call_meets (S := fun _ R s => R (.ok (.ret (.bool (decide (ks.head? = some x'))))) s) FB.slot_bytes_startswith (typeIs_bytes _ _ _) FB.entry_bytes_startswith (FB.args_bytes_startswith_2 _ _)
    (.of_wp fun prog w A R s hS => by rw [starts_eq, starts_one, hk, hx]; exact wpAny_pure ⟨_, rfl, hS⟩) h
theorem meth_ends {M : Model} {pl : Sem Bool} {Q : Value × List Value → Shared → Prop} (h : Q (.builtin "bytes.endswith", [.bytes b t]) s) : wpAny M A (getMethod (.bytes b t) "endswith" pl) Q E s := by
  with_reducible exact KBd.method_of (.bytes b t) (typeIs_bytes _ _ _) FB.slot_bytes_endswith FB.type_bytes_endswith KBd.noRef h
theorem meth_starts {M : Model} {pl : Sem Bool} {Q : Value × List Value → Shared → Prop} (h : Q (.builtin "bytes.startswith", [.bytes b t]) s) : wpAny M A (getMethod (.bytes b t) "startswith" pl) Q E s := by
  with_reducible exact KBd.method_of (.bytes b t) (typeIs_bytes _ _ _) FB.slot_bytes_startswith FB.type_bytes_startswith KBd.noRef h
end
end Pb93
end
section
open PySem PySem.W PyProof.Rows PySem.Spec PySem.Calls
namespace Pb93
theorem slot_join : Slot "bytes" "join" "bytes.join" :=
  .of (owner := "bytes") (n := "join") (by rw [typeLookup_type, builtinLookup_eq_fast]; kernel_rfl) (by decide +kernel) (by decide +kernel) (by decide +kernel)
    (by first | exact .inl (by decide +kernel) | exact .inr (by decide +kernel)) (by rw [isSubtype_type]; kernel_rfl)
theorem type_join : typeOf (.builtin "bytes.join") = pure (.type "method_descriptor") := by show builtinType _ = _; rw [builtinType_eq_fast]; kernel_rfl
theorem entry_join : entryFor table "bytes.join" = some Builtin.«bytes.join» := entryFor_of_tree (by kernel_rfl)
theorem args_join (a b : Value) : argsOk "bytes.join" ⟨[a, b], []⟩ := by
  unfold argsOk; rw [signature?_of (id := "bytes.join") (n := ['n', 'i', 'o', 'j']) (o := ['s', 'e', 't', 'y', 'b']) (by kernel_rfl) FB.owner_bytes]; kernel_rfl
theorem meth_join {M : Model} {A : Around} {E : Value → Shared → Prop} {s : Shared} {b : Array UInt8} {t : Tok} {pl : Sem Bool} {Q : Value × List Value → Shared → Prop} (h : Q (.builtin "bytes.join", [.bytes b t]) s) : wpAny M A (getMethod (.bytes b t) "join" pl) Q E s := by
  with_reducible exact KBd.method_of (.bytes b t) (typeIs_bytes _ _ _) slot_join type_join KBd.noRef h
theorem slot_replace : Slot "bytes" "replace" "bytes.replace" :=
  .of (owner := "bytes") (n := "replace") (by rw [typeLookup_type, builtinLookup_eq_fast]; kernel_rfl) (by decide +kernel) (by decide +kernel) (by decide +kernel)
    (by first | exact .inl (by decide +kernel) | exact .inr (by decide +kernel)) (by rw [isSubtype_type]; kernel_rfl)
theorem type_replace : typeOf (.builtin "bytes.replace") = pure (.type "method_descriptor") := by show builtinType _ = _; rw [builtinType_eq_fast]; kernel_rfl
theorem entry_replace : entryFor table "bytes.replace" = some Builtin.«bytes.replace» := entryFor_of_tree (by kernel_rfl)
theorem args_replace (a b c : Value) : argsOk "bytes.replace" ⟨[a, b, c], []⟩ := by
  unfold argsOk; rw [signature?_of (id := "bytes.replace") (n := ['e', 'c', 'a', 'l', 'p', 'e', 'r']) (o := ['s', 'e', 't', 'y', 'b']) (by kernel_rfl) FB.owner_bytes]; kernel_rfl
theorem meth_replace {M : Model} {A : Around} {E : Value → Shared → Prop} {s : Shared} {b : Array UInt8} {t : Tok} {pl : Sem Bool} {Q : Value × List Value → Shared → Prop} (h : Q (.builtin "bytes.replace", [.bytes b t]) s) : wpAny M A (getMethod (.bytes b t) "replace" pl) Q E s := by
  with_reducible exact KBd.method_of (.bytes b t) (typeIs_bytes _ _ _) slot_replace type_replace KBd.noRef h
theorem slot_split : Slot "bytes" "split" "bytes.split" :=
  .of (owner := "bytes") (n := "split") (by rw [typeLookup_type, builtinLookup_eq_fast]; kernel_rfl) (by decide +kernel) (by decide +kernel) (by decide +kernel)
    (by first | exact .inl (by decide +kernel) | exact .inr (by decide +kernel)) (by rw [isSubtype_type]; kernel_rfl)
theorem type_split : typeOf (.builtin "bytes.split") = pure (.type "method_descriptor") := by show builtinType _ = _; rw [builtinType_eq_fast]; kernel_rfl
theorem entry_split : entryFor table "bytes.split" = some Builtin.«bytes.split» := entryFor_of_tree (by kernel_rfl)
theorem args_split (a b : Value) : argsOk "bytes.split" ⟨[a, b], []⟩ := by
  unfold argsOk; rw [signature?_of (id := "bytes.split") (n := ['t', 'i', 'l', 'p', 's']) (o := ['s', 'e', 't', 'y', 'b']) (by kernel_rfl) FB.owner_bytes]; kernel_rfl
theorem meth_split {M : Model} {A : Around} {E : Value → Shared → Prop} {s : Shared} {b : Array UInt8} {t : Tok} {pl : Sem Bool} {Q : Value × List Value → Shared → Prop} (h : Q (.builtin "bytes.split", [.bytes b t]) s) : wpAny M A (getMethod (.bytes b t) "split" pl) Q E s := by
  with_reducible exact KBd.method_of (.bytes b t) (typeIs_bytes _ _ _) slot_split type_split KBd.noRef h
theorem slot_find : Slot "bytes" "find" "bytes.find" :=
  .of (owner := "bytes") (n := "find") (by rw [typeLookup_type, builtinLookup_eq_fast]; kernel_rfl) (by decide +kernel) (by decide +kernel) (by decide +kernel)
    (by first | exact .inl (by decide +kernel) | exact .inr (by decide +kernel)) (by rw [isSubtype_type]; kernel_rfl)
theorem type_find : typeOf (.builtin "bytes.find") = pure (.type "method_descriptor") := by show builtinType _ = _; rw [builtinType_eq_fast]; kernel_rfl
theorem entry_find : entryFor table "bytes.find" = some Builtin.«bytes.find» := entryFor_of_tree (by kernel_rfl)
theorem args_find (a b : Value) : argsOk "bytes.find" ⟨[a, b], []⟩ := by
  unfold argsOk; rw [signature?_of (id := "bytes.find") (n := ['d', 'n', 'i', 'f']) (o := ['s', 'e', 't', 'y', 'b']) (by kernel_rfl) FB.owner_bytes]; kernel_rfl
theorem meth_find {M : Model} {A : Around} {E : Value → Shared → Prop} {s : Shared} {b : Array UInt8} {t : Tok} {pl : Sem Bool} {Q : Value × List Value → Shared → Prop} (h : Q (.builtin "bytes.find", [.bytes b t]) s) : wpAny M A (getMethod (.bytes b t) "find" pl) Q E s := by
  with_reducible exact KBd.method_of (.bytes b t) (typeIs_bytes _ _ _) slot_find type_find KBd.noRef h
theorem slot_index : Slot "bytes" "index" "bytes.index" :=
  .of (owner := "bytes") (n := "index") (by rw [typeLookup_type, builtinLookup_eq_fast]; kernel_rfl) (by decide +kernel) (by decide +kernel) (by decide +kernel)
    (by first | exact .inl (by decide +kernel) | exact .inr (by decide +kernel)) (by rw [isSubtype_type]; kernel_rfl)
theorem type_index : typeOf (.builtin "bytes.index") = pure (.type "method_descriptor") := by show builtinType _ = _; rw [builtinType_eq_fast]; kernel_rfl
theorem entry_index : entryFor table "bytes.index" = some Builtin.«bytes.index» := entryFor_of_tree (by kernel_rfl)
theorem args_index (a b : Value) : argsOk "bytes.index" ⟨[a, b], []⟩ := by
  unfold argsOk; rw [signature?_of (id := "bytes.index") (n := ['x', 'e', 'd', 'n', 'i']) (o := ['s', 'e', 't', 'y', 'b']) (by kernel_rfl) FB.owner_bytes]; kernel_rfl
theorem meth_index {M : Model} {A : Around} {E : Value → Shared → Prop} {s : Shared} {b : Array UInt8} {t : Tok} {pl : Sem Bool} {Q : Value × List Value → Shared → Prop} (h : Q (.builtin "bytes.index", [.bytes b t]) s) : wpAny M A (getMethod (.bytes b t) "index" pl) Q E s := by
  with_reducible exact KBd.method_of (.bytes b t) (typeIs_bytes _ _ _) slot_index type_index KBd.noRef h
open Builtin
section
variable {b c d : Array UInt8} {t u v : Tok}
theorem search_eq : Bytes.searchArgs .bytes "find" ⟨[.bytes b t, .bytes c u], []⟩ = pure (b, c, if (Bytes.window b.size none none).2 - (Bytes.window b.size none none).1 < c.size then none else some ((Bytes.window b.size none none).1.toNat, (Bytes.window b.size none none).2.toNat)) := by kernel_rfl!
theorem search_eq2 : Bytes.searchArgs .bytes "index" ⟨[.bytes b t, .bytes c u], []⟩ = pure (b, c, if (Bytes.window b.size none none).2 - (Bytes.window b.size none none).1 < c.size then none else some ((Bytes.window b.size none none).1.toNat, (Bytes.window b.size none none).2.toNat)) := by kernel_rfl!
theorem index_eq : asIndex (.bytes c u) = raiseErrorMade "TypeError" "'bytes' object cannot be interpreted as an integer" := by kernel_rfl!
theorem like_eq (id : String) : Bytes.bytesLike id (.bytes b t) = pure b := by kernel_rfl!
theorem same_eq : Bytes.Kind.same .bytes (.bytes b t) = pure (.bytes b t) := by kernel_rfl!
theorem pay_eq : Bytes.payload (.bytes b t) = pure b := rfl
end
section
variable {prog : Program} {w : World} {A : Around} {E : Value → Shared → Prop} {s : Shared} {b c : Array UInt8} {ks : List Int} {t u : Tok} {h₀ : Heap} {L : Addr} {m : Str → Option Value} {news : List (Addr × Obj)}
theorem exc_keep {h h' : Heap} {e : Addr} {x : String} (K : Heap.NewExc h h' e x) (F : Fr h₀ L h m) (N : News h₀ L h news) : Fr h₀ L h' m ∧ News h₀ L h' news :=
  ⟨⟨F.ns.at' fun o q => K.keeps _ _ q, fun b o q => K.keeps _ _ (F.keep b o q), F.above⟩, fun p hp => ⟨K.keeps _ _ (N p hp).1, (N p hp).2⟩⟩
theorem contains_bb {Q : Fin → Shared → Prop} (hh : A.handled = none) (F : Fr h₀ L s.heap m) (N : News h₀ L s.heap news)
    (h : ∀ h' tk, Fr h₀ L h' m → News h₀ L h' news → Q (.done (.ret (.bool (Bytes.find? b c 0 b.size).isSome))) { s with heap := h', toks := tk }) : wpAny (model prog w) A («bytes.__contains__» ⟨[.bytes b t, .bytes c u], []⟩) Q E s := by
  show wpAny _ _ (Bytes.containsIn "bytes.__contains__" (.bytes b t) (.bytes c u) >>= fun r => ret (.bool r)) _ _ _
  refine wpAny_bind ?_
  unfold Bytes.containsIn
  refine wpAny_bind (wpAny_attempt ?_)
  rw [index_eq]
  refine wpAny_raiseErrorMade plainExc_TypeError hh fun h' tk e he => ?_
  obtain ⟨F', N'⟩ := exc_keep he F N
  refine wpAny_bind (wpAny_of_eq KBy.buffer_eq ?_)
  refine wpAny_bind (wpAny_of_eq KBy.buffer_eq ?_)
  exact wpAny_bind (wpAny_rule (wpAny_pure (wpAny_pure (h h' tk F' N'))))
end
inductive BysAre : List Value → List (Array UInt8) → Prop
  | nil : BysAre [] []
  | cons (b : Array UInt8) (t : Tok) {vs : List Value} {bs : List (Array UInt8)} : BysAre vs bs → BysAre (.bytes b t :: vs) (b :: bs)
section
variable {prog : Program} {w : World} {A : Around} {E : Value → Shared → Prop} {s : Shared} {b c : Array UInt8} {ks : List Int} {t u : Tok} {h₀ : Heap} {L : Addr} {m : Str → Option Value} {news : List (Addr × Obj)}
theorem bys_len {vs : List Value} {bs : List (Array UInt8)} (h : BysAre vs bs) : vs.length = bs.length := by
  induction h with
  | nil => rfl
  | cons b t h ih => rw [List.length_cons, List.length_cons, ih]
theorem bys_at {vs : List Value} {bs : List (Array UInt8)} (h : BysAre vs bs) : ∀ k, k < vs.length → ∃ b t, vs.toArray.getD k .none = .bytes b t ∧ bs[k]? = some b := by
  induction h with
  | nil => intro k hk; exact absurd hk (by simp)
  | cons b t h ih =>
    intro k hk
    cases k with
    | zero => exact ⟨b, t, by simp, by simp⟩
    | succ k =>
      obtain ⟨b', t', e1, e2⟩ := ih k (by simpa using hk)
      exact ⟨b', t', by simpa using e1, by simpa using e2⟩
theorem take_eq {b : Array UInt8} {t : Tok} (id : String) : Bytes.takeBufferQuiet? id (.bytes b t) 0 = pure (some (b, none)) := by
  unfold Bytes.takeBufferQuiet? Bytes.takeBuffer?
  rw [KBy.special_eq KBy.look_buffer, KBy.own_buffer]
  show ((Bytes.buffer? id (.bytes b t) _ >>= fun r => pure (r.map (·, none))).attempt >>= _) = _
  have e : ∀ f, Bytes.buffer? id (.bytes b t) f = pure (some b) := fun f => by
    unfold Bytes.buffer?
    rw [KBy.special_eq KBy.look_buffer, KBy.own_buffer, KBy.own_release]
    kernel_rfl
  rw [e]
  rfl
theorem letGo_all {taken : List (Value × Option Value)} {keep : List Value} {Q : Unit → Shared → Prop} (ht : ∀ p ∈ taken, p.2 = none) (h : Q () s) : wpAny (model prog w) A (Bytes.joinLetGo taken keep) Q E s := by
  induction taken with
  | nil => exact wpAny_pure h
  | cons p r ih =>
    obtain ⟨x, y⟩ := p
    have hy : y = none := ht (x, y) List.mem_cons_self
    subst hy
    unfold Bytes.joinLetGo
    dsimp only
    refine wpAny_bind (wpAny_letGo ?_)
    exact ih fun p hp => ht p (List.mem_cons_of_mem _ hp)
theorem join_run {D : Addr} {o : Obj} {vs : List Value} {n : Nat} {bs : List (Array UInt8)} {Q : Fin → Shared → Prop} (ho : s.heap.get? D = some o) (hc : o.cls = .type "list") (hd : o.data = .seq vs.toArray n) (hB : BysAre vs bs)
    (hl : Bytes.tooLong (bs.toArray.foldl (fun a (x : Array UInt8) => a + x.size) (b.size * (bs.toArray.size - 1))) = false) (hl2 : (Bytes.joined b bs).size ≤ sizeLine)
    (h : ∀ t' k, Q (.done (.ret (.bytes (Bytes.joined b bs) t'))) { s with toks := k }) : wpAny (model prog w) A («bytes.join» ⟨[.bytes b t, .ref D], []⟩) Q E s := by
  show wpAny _ _ (Bytes.joinM .bytes _) _ _ _
  unfold Bytes.joinM
  refine wpAny_bind (wpAny_of_eq (a := (.bytes b t, .ref D)) (by kernel_rfl!) ?_)
  dsimp only
  refine wpAny_bind ?_
  unfold Bytes.joinItems
  refine wpAny_bind (wpAny_typeOf_ref ho ?_)
  rw [hc]
  rw [if_pos (by decide)]
  refine wpAny_pure ?_
  refine wpAny_bind ?_
  unfold seqItems?
  dsimp only
  refine wpAny_bind (wpAny_load ho ?_)
  rw [hd]
  dsimp only
  refine wpAny_pure ?_
  dsimp only
  rw [if_pos (by decide)]
  obtain ⟨N, hN⟩ : ∃ N, N = vs.length := ⟨_, rfl⟩
  have at_ := bys_at hB
  have len_ := bys_len hB
  rw [← hN] at at_ len_
  rcases vs with _ | ⟨v, _ | ⟨v2, r⟩⟩
  rotate_left 1
  · cases hB with
    | cons b1 t1 hB =>
      cases hB with
      | nil =>
        show wpAny _ _ (typeOf _ >>= _) _ _ _
        refine wpAny_bind (wpAny_typeOf (typeIs_bytes _ _ _) ?_)
        rw [if_pos (by decide)]
        refine wpAny_bind (wpAny_rule (wpAny_pure ?_))
        have h' := h t1 s.toks
        rw [show Bytes.joined b [b1] = b1 from by simp [Bytes.joined]] at h'
        exact h'
  all_goals
    show wpAny _ _ (forIn _ _ _ >>= _) _ _ _
    rw [KPc.range_list, List.size_toArray, ← hN]
    refine wpAny_bind (wpAny_forIn_list _ (fun rest st s' => ∃ k, s' = s ∧ rest = List.range' k (N - k) 1 ∧ k ≤ N ∧ st.1 = (bs.take k).toArray ∧ ∀ p ∈ st.2, p.1.onHeap = false ∧ p.2 = none) _ ?_ (fun st s' hI => ?_) _ _ ⟨0, rfl, by simp, Nat.zero_le _, by simp, by simp⟩)
    · rintro x rest ⟨parts, taken⟩ s' ⟨k, rfl, hr, hk, hp, ht⟩
      have hlt : k < N := by
        rcases Nat.lt_or_ge k N with q | q
        · exact q
        · rw [show N - k = 0 by omega] at hr; cases hr
      rw [show N - k = (N - k - 1) + 1 by omega, List.range'_succ] at hr
      injection hr with hr1 hr2
      subst hr1
      obtain ⟨b1, t1, e1, e2⟩ := at_ x hlt
      dsimp only
      refine wpAny_bind (wpAny_bind (wpAny_load ho ?_))
      rw [hd]
      dsimp only
      refine wpAny_pure ?_
      dsimp only
      rw [if_neg (by
        simp only [show (Bytes.Kind.bytes == Bytes.Kind.bytearray) = false from by decide, Bool.false_or, List.any_eq_true, not_exists, not_and]
        intro p hp' q
        rw [(ht p hp').1] at q; cases q)]
      rw [e1]
      refine wpAny_bind (wpAny_holding (wpAny_of_eq (take_eq _) ?_))
      dsimp only
      refine wpAny_bind (wpAny_bind (wpAny_load ho ?_))
      rw [hd]
      dsimp only
      refine wpAny_pure ?_
      dsimp only
      rw [if_neg (by simp [hN])]
      refine wpAny_pure ?_
      refine ⟨x + 1, rfl, by rw [show N - (x + 1) = N - x - 1 by omega]; exact hr2, hlt, ?_, ?_⟩
      · dsimp only at hp ⊢
        rw [hp]
        simp only [List.push_toArray]
        rw [List.take_add_one, e2]; rfl
      · intro p hp'
        rcases List.mem_append.mp hp' with q | q
        · exact ht p q
        · rw [List.mem_singleton.mp q]; exact ⟨rfl, rfl⟩
    · obtain ⟨parts, taken⟩ := st
      obtain ⟨k, rfl, hr, hk, hp, ht⟩ := hI
      have hke : k = N := by
        rcases Nat.lt_or_ge k N with q | q
        · rw [show N - k = (N - k - 1) + 1 by omega, List.range'_succ] at hr; cases hr
        · omega
      dsimp only at hp ht ⊢
      rw [hke, len_, List.take_length] at hp
      subst hp
      refine wpAny_bind (wpAny_of_eq pay_eq ?_)
      rw [if_neg (by rw [hl]; exact Bool.false_ne_true)]
      refine wpAny_bind (wpAny_mkBytes ?_ hl2)
      refine wpAny_bind (wpAny_holding (wpAny_point ?_))
      refine wpAny_bind (letGo_all (fun p hp => (ht p hp).2) ?_)
      exact wpAny_pure (h _ _)
end
theorem fold_join (sep : Array UInt8) : ∀ (l : List (Array UInt8 × Nat)) (out : Array UInt8), (l.foldl (fun out (q : Array UInt8 × Nat) => (if q.2 > 0 then out ++ sep else out) ++ q.1) out).toList = out.toList ++ (l.map fun q => (if q.2 > 0 then sep.toList else []) ++ q.1.toList).flatten
  | [], out => by simp
  | q :: l, out => by
    rw [List.foldl_cons, fold_join sep l, List.map_cons, List.flatten_cons, Array.toList_append]
    split <;> simp
theorem joined_list (sep : Array UInt8) (bs : List (Array UInt8)) : (Bytes.joined sep bs).toList = (bs.zipIdx.map fun q => (if q.2 > 0 then sep.toList else []) ++ q.1.toList).flatten := by
  show (bs.zipIdx.foldl (fun out (q : Array UInt8 × Nat) => (if q.2 > 0 then out ++ sep else out) ++ q.1) #[]).toList = _
  rw [fold_join]
  rfl
theorem flat_len (sep : List UInt8) (k : Nat) : ∀ (l : List (Array UInt8 × Nat)), (∀ q ∈ l, q.1.size ≤ k) → ((l.map fun q => (if q.2 > 0 then sep else []) ++ q.1.toList).flatten).length ≤ l.length * (k + sep.length)
  | [], _ => by simp
  | q :: l, h => by
    have ih := flat_len sep k l fun q hq => h q (List.mem_cons_of_mem _ hq)
    have h1 : q.1.toList.length ≤ k := by rw [Array.length_toList]; exact h q List.mem_cons_self
    rw [List.map_cons, List.flatten_cons, List.length_append, List.length_append, List.length_cons, Nat.succ_mul]
    have h2 : (if q.2 > 0 then sep else []).length ≤ sep.length := by split <;> simp
    omega
theorem joined_size {sep : Array UInt8} {bs : List (Array UInt8)} {k : Nat} (h : ∀ b ∈ bs, b.size ≤ k) : (Bytes.joined sep bs).size ≤ bs.length * (k + sep.size) := by
  have e := congrArg List.length (joined_list sep bs)
  rw [Array.length_toList] at e
  rw [e]
  have := flat_len sep.toList k bs.zipIdx fun q hq => by
    obtain ⟨b, i⟩ := q
    exact h b (List.fst_mem_of_mem_zipIdx hq)
  simpa using this
theorem joined_nil (bs : List (Array UInt8)) : KBw.bInts (Bytes.joined #[] bs) = (bs.map KBw.bInts).flatten := by
  unfold KBw.bInts
  rw [joined_list]
  have e : (bs.zipIdx.map fun q => (if q.2 > 0 then (#[] : Array UInt8).toList else []) ++ q.1.toList) = bs.map Array.toList := by
    have : ∀ n, ((bs.zipIdx n).map fun q => (if q.2 > 0 then (#[] : Array UInt8).toList else []) ++ q.1.toList) = bs.map Array.toList := by
      induction bs with
      | nil => intro n; rfl
      | cons b bs ih => intro n; rw [List.zipIdx_cons, List.map_cons, List.map_cons, ih]; simp
    exact this 0
  rw [e, List.map_flatten, List.map_map]
  rfl
theorem fold_size {k : Nat} : ∀ (bs : List (Array UInt8)) (n : Nat), (∀ b ∈ bs, b.size ≤ k) → bs.foldl (fun a (x : Array UInt8) => a + x.size) n ≤ n + bs.length * k
  | [], n, _ => by simp
  | b :: bs, n, h => by
    have ih := fold_size bs (n + b.size) fun b hb => h b (List.mem_cons_of_mem _ hb)
    have h1 := h b List.mem_cons_self
    rw [List.foldl_cons, List.length_cons, Nat.succ_mul]
    omega
def IsBys (k : Nat) (y : Value) : Prop := ∃ b t, y = .bytes b t ∧ b.size ≤ k
theorem bys_of {k : Nat} : ∀ {ys : List Value}, (∀ y ∈ ys, IsBys k y) → ∃ bs, BysAre ys bs ∧ ∀ b ∈ bs, b.size ≤ k
  | [], _ => ⟨[], .nil, by simp⟩
  | y :: ys, h => by
    obtain ⟨bs, h1, h2⟩ := bys_of fun z hz => h z (List.mem_cons_of_mem y hz)
    obtain ⟨b, t, rfl, hb⟩ := h y List.mem_cons_self
    refine ⟨b :: bs, .cons b t h1, fun c hc => ?_⟩
    rcases List.mem_cons.mp hc with rfl | hc
    · exact hb
    · exact h2 c hc
section
variable {prog : Program} {w : World} {A : Around} {E : Value → Shared → Prop} {s : Shared} {b c : Array UInt8} {ks : List Int} {t u : Tok} {h₀ : Heap} {L : Addr} {m : Str → Option Value} {news : List (Addr × Obj)}
theorem call_join {D : Addr} {vs : List Value} {n : Nat} {bs : List (Array UInt8)} {k : Nat} {Q : Value → Shared → Prop} (N : News h₀ L s.heap news) (hm : (D, W.listOf vs.toArray n) ∈ news) (hB : BysAre vs bs) (hk : ∀ x ∈ bs, x.size ≤ k) (hk1 : k ≤ 1000) (hl : bs.length ≤ 1000) (hb : b.size ≤ 8)
    (h : ∀ t' k', Q (.bytes (Bytes.joined b bs) t') { s with toks := k' }) : wpAny (model prog w) A (call (.builtin "bytes.join") [.bytes b t, .ref D]) Q E s := by
  have s1 : bs.length * (k + b.size) ≤ 1000 * 1008 := Nat.mul_le_mul hl (by omega)
  have s2 := joined_size (sep := b) hk
  have s3 : bs.toArray.foldl (fun a (x : Array UInt8) => a + x.size) (b.size * (bs.toArray.size - 1)) ≤ 8 * 1000 + 1000 * 1000 := by
    rw [List.foldl_toArray]
    refine Nat.le_trans (fold_size bs _ hk) (Nat.add_le_add (Nat.mul_le_mul hb ?_) (Nat.mul_le_mul hl hk1))
    rw [List.size_toArray]; omega
  refine call_meets (S := fun _ R s => s.heap.get? D = some (W.listOf vs.toArray n) ∧ ∀ t' k', R (.ok (.ret (.bytes (Bytes.joined b bs) t'))) { s with toks := k' }) slot_join (typeIs_bytes _ _ _) entry_join (args_join _ _)
    (.of_wp fun prog w A R s hS => ?_) ⟨(N _ hm).1, h⟩
  exact join_run hS.1 rfl rfl hB (KBy.tooLong_not (by omega)) (by rw [sizeLine_eq]; omega) fun t' k' => ⟨_, rfl, hS.2 t' k'⟩
theorem join_some {D : Addr} {vs : List Value} {n : Nat} {k : Nat} {M : Int} {Q : Value → Shared → Prop} (N : News h₀ L s.heap news) (hm : (D, W.listOf vs.toArray n) ∈ news) (hB : ∀ y ∈ vs, IsBys k y) (hl : (vs.length : Int) < M) (hk1 : k ≤ 30) (hM : M ≤ 100) (hb : b.size ≤ 1)
    (h : ∀ b' t' ks k', KBw.bInts b' = ks → ks.length ≤ 4000 → Q (.bytes b' t') { s with toks := k' }) : wpAny (model prog w) A (call (.builtin "bytes.join") [.bytes b t, .ref D]) Q E s := by
  obtain ⟨bs, h1, h2⟩ := bys_of hB
  have e := bys_len h1
  refine call_join N hm h1 h2 (by omega) (by omega) (by omega) fun t' k' => h _ t' _ k' rfl ?_
  have s2 := joined_size (sep := b) h2
  rw [KBw.ints_length]
  have s3 : bs.length * (k + b.size) ≤ bs.length * (k + 1) := Nat.mul_le_mul_left _ (by omega)
  have s4 : bs.length * (k + 1) ≤ 100 * 31 := Nat.mul_le_mul (by omega) (by omega)
  omega
end
section
variable {b c d : Array UInt8} {t u v : Tok}
theorem replace_eq {x y : UInt8} : «bytes.replace» ⟨[.bytes b t, .bytes #[x] u, .bytes #[y] v], []⟩ =
    (if ((Bytes.occurrences b #[x] 0 b.size).isEmpty || ((#[x] : Array UInt8).isEmpty && (#[y] : Array UInt8).isEmpty)) = true then (rule "bytes.replace.nothing" >>= fun _ => Bytes.Kind.same .bytes (.bytes b t) >>= fun r => ret r)
      else if Bytes.tooLong (b.size + (Bytes.occurrences b #[x] 0 b.size).length * (#[y] : Array UInt8).size) = true then unsupported "bytes.replace:memory"
      else (mkBytes (Bytes.joined #[y] (Bytes.between b (#[x] : Array UInt8).size (Bytes.occurrences b #[x] 0 b.size))) >>= fun r => ret r)) := by kernel_rfl!
theorem split_eq {x : UInt8} : «bytes.split» ⟨[.bytes b t, .bytes #[x] u], []⟩ =
    (if ((Bytes.occurrences b #[x] 0 b.size).take (b.size + 1)).isEmpty = true then (rule "bytes.split.no-separator" >>= fun _ => Bytes.Kind.same .bytes (.bytes b t) >>= fun r => newList [r] >>= fun l => ret l)
      else ((Bytes.between b (#[x] : Array UInt8).size ((Bytes.occurrences b #[x] 0 b.size).take (b.size + 1))).mapM Bytes.Kind.bytes.new >>= fun r => newList r >>= fun l => ret l)) := by kernel_rfl!
end
end Pb93
end
section
open PySem PySem.W PyProof.Rows PySem.Spec PySem.Calls
namespace Pb93
open Builtin
def posFrom (x : UInt8) : Nat → List UInt8 → List Nat
  | _, [] => []
  | i, c :: r => if c = x then i :: posFrom x (i + 1) r else posFrom x (i + 1) r
def spl (x : UInt8) : List UInt8 → List (List UInt8)
  | [] => [[]]
  | c :: r => if c = x then [] :: spl x r else match spl x r with | h :: t => (c :: h) :: t | [] => [[c]]
theorem spl_ne (x : UInt8) : ∀ l, ∃ h t, spl x l = h :: t
  | [] => ⟨_, _, rfl⟩
  | c :: r => by
    obtain ⟨h, t, e⟩ := spl_ne x r
    unfold spl
    rw [e]
    split <;> exact ⟨_, _, rfl⟩
section
variable {b : Array UInt8} {x : UInt8}
theorem at_i {l : List UInt8} {i : Nat} {c : UInt8} (h : b.toList.drop i = c :: l) : b.extract i (i + 1) = #[c] := by
  apply Array.toList_inj.mp
  rw [Array.toList_extract, List.extract_eq_take_drop, h, show i + 1 - i = 1 by omega]
  rfl
theorem drop_next {l : List UInt8} {i : Nat} {c : UInt8} (h : b.toList.drop i = c :: l) : b.toList.drop (i + 1) = l := by
  rw [← List.drop_drop, h]; rfl
theorem occ_fold : ∀ (l : List UInt8) (i last : Nat) (acc : List Nat), b.toList.drop i = l → last ≤ i →
    ((List.range' i l.length 1).foldl (fun (acc : List Nat × Nat) (i : Nat) => if i ≥ acc.2 && b.extract i (i + (#[x] : Array UInt8).size) == #[x] then (i :: acc.1, i + (#[x] : Array UInt8).size) else acc) (acc, last)).1 = (posFrom x i l).reverse ++ acc
  | [], i, last, acc, _, _ => by simp [posFrom]
  | c :: l, i, last, acc, h, hl => by
    rw [List.length_cons, List.range'_succ, List.foldl_cons]
    have e1 : (#[x] : Array UInt8).size = 1 := rfl
    rw [e1, at_i h]
    dsimp only
    by_cases hc : c = x
    · have hd : (decide (i ≥ last) && (#[c] : Array UInt8) == #[x]) = true := by simp [hl, hc]
      rw [if_pos hd]
      have ih := occ_fold l (i + 1) (i + 1) (i :: acc) (drop_next h) (Nat.le_refl _)
      rw [e1] at ih
      rw [ih]
      conv => rhs; unfold posFrom
      rw [if_pos hc]
      simp
    · have hd : ¬ (decide (i ≥ last) && (#[c] : Array UInt8) == #[x]) = true := by simp [hc]
      rw [if_neg hd]
      have ih := occ_fold l (i + 1) last acc (drop_next h) (by omega)
      rw [e1] at ih
      rw [ih]
      conv => rhs; unfold posFrom
      rw [if_neg hc]
theorem occ_eq : Bytes.occurrences b #[x] 0 b.size = posFrom x 0 b.toList := by
  unfold Bytes.occurrences
  have e : (List.range (b.size + 1 - (0 + (#[x] : Array UInt8).size))).map (· + 0) = List.range' 0 b.toList.length 1 := by
    rw [Array.length_toList, List.range_eq_range']
    have e1 : (#[x] : Array UInt8).size = 1 := rfl
    rw [e1]
    simp
  dsimp only
  rw [e]
  have := occ_fold (b := b) (x := x) b.toList 0 0 [] (by simp) (Nat.le_refl _)
  rw [this]
  simp
theorem betw_fold : ∀ (l : List UInt8) (i last : Nat) (parts : Array (Array UInt8)) (h : List UInt8) (t : List (List UInt8)), b.toList.drop i = l → last ≤ i → i ≤ b.size → spl x l = h :: t →
    ((((posFrom x i l).foldl (fun (q : Array (Array UInt8) × Nat) (p : Nat) => (q.1.push (b.extract q.2 p), p + (#[x] : Array UInt8).size)) (parts, last)).1.push (b.extract ((posFrom x i l).foldl (fun (q : Array (Array UInt8) × Nat) (p : Nat) => (q.1.push (b.extract q.2 p), p + (#[x] : Array UInt8).size)) (parts, last)).2 b.size)).toList.map Array.toList) = parts.toList.map Array.toList ++ ((b.extract last i).toList ++ h) :: t
  | [], i, last, parts, h, t, hd, hl, hi, hs => by
    have hn : i = b.size := by
      have := congrArg List.length hd
      rw [List.length_drop, Array.length_toList] at this
      simp at this; omega
    cases hs
    simp [posFrom, hn]
  | c :: l, i, last, parts, h, t, hd, hl, hi, hs => by
    have hi2 : i + 1 ≤ b.size := by
      have := congrArg List.length hd
      rw [List.length_drop, Array.length_toList] at this
      simp at this; omega
    obtain ⟨h', t', e'⟩ := spl_ne x l
    unfold spl at hs
    unfold posFrom
    by_cases hc : c = x
    · rw [if_pos hc] at hs ⊢
      cases hs
      rw [List.foldl_cons]
      have e1 : (#[x] : Array UInt8).size = 1 := rfl
      have ih := betw_fold l (i + 1) (i + 1) (parts.push (b.extract last i)) h' t' (drop_next hd) (Nat.le_refl _) hi2 e'
      rw [e1] at ih ⊢
      dsimp only
      rw [ih, e']
      simp
    · rw [if_neg hc] at hs ⊢
      rw [e'] at hs
      injection hs with hs1 hs2
      subst hs1 hs2
      rw [betw_fold l (i + 1) last parts h' t' (drop_next hd) (by omega) hi2 e']
      congr 2
      have e2 : (b.extract last (i + 1)).toList = (b.extract last i).toList ++ [c] := by
        rw [Array.toList_extract, Array.toList_extract, List.extract_eq_take_drop, List.extract_eq_take_drop]
        rw [show i + 1 - last = (i - last) + 1 by omega, List.take_add_one]
        congr 1
        rw [List.getElem?_drop, show last + (i - last) = i by omega]
        have : b.toList[i]? = some c := by
          have := congrArg List.head? hd
          rw [List.head?_drop] at this
          simpa using this
        rw [this]; rfl
      rw [e2, List.append_assoc]; rfl
theorem betw_eq : (Bytes.between b (#[x] : Array UInt8).size (Bytes.occurrences b #[x] 0 b.size)).map Array.toList = spl x b.toList := by
  rw [occ_eq]
  obtain ⟨h, t, e⟩ := spl_ne x b.toList
  have := betw_fold (b := b) (x := x) b.toList 0 0 #[] h t (by simp) (Nat.le_refl _) (Nat.zero_le _) e
  rw [e]
  refine Eq.trans ?_ (this.trans (by simp))
  rfl
theorem spl_join (y : UInt8) : ∀ (l : List UInt8) (h : List UInt8) (t : List (List UInt8)), spl x l = h :: t → h ++ (t.map fun p => [y] ++ p).flatten = l.map fun c => if c = x then y else c
  | [], h, t, e => by cases e; rfl
  | c :: l, h, t, e => by
    obtain ⟨h', t', e'⟩ := spl_ne x l
    have ih := spl_join y l h' t' e'
    unfold spl at e
    rw [List.map_cons, ← ih]
    by_cases hc : c = x
    · rw [if_pos hc, e'] at e
      cases e
      rw [if_pos hc]
      simp
    · rw [if_neg hc, e'] at e
      cases e
      rw [if_neg hc]
      simp
theorem join_parts (sep : Array UInt8) (p : Array UInt8) (ps : List (Array UInt8)) : (Bytes.joined sep (p :: ps)).toList = p.toList ++ (ps.map fun q => sep.toList ++ q.toList).flatten := by
  rw [joined_list, List.zipIdx_cons, List.map_cons, List.flatten_cons]
  have : ∀ (n : Nat) (ps : List (Array UInt8)), ((ps.zipIdx (n + 1)).map fun q => (if q.2 > 0 then sep.toList else []) ++ q.1.toList) = ps.map fun q => sep.toList ++ q.toList := by
    intro n ps
    induction ps generalizing n with
    | nil => rfl
    | cons q ps ih => rw [List.zipIdx_cons, List.map_cons, List.map_cons, ih]; simp
  rw [this]
  simp
theorem replace_list (y : UInt8) : (Bytes.joined #[y] (Bytes.between b (#[x] : Array UInt8).size (Bytes.occurrences b #[x] 0 b.size))).toList = b.toList.map fun c => if c = x then y else c := by
  have e := betw_eq (b := b) (x := x)
  obtain ⟨h, t, es⟩ := spl_ne x b.toList
  rw [es] at e
  cases hb : Bytes.between b (#[x] : Array UInt8).size (Bytes.occurrences b #[x] 0 b.size) with
  | nil => rw [hb] at e; cases e
  | cons p ps =>
    rw [hb, List.map_cons] at e
    injection e with e1 e2
    rw [join_parts, ← spl_join y b.toList h t es, e1, ← e2, List.map_map]
    rfl
theorem occ_none (h : (Bytes.occurrences b #[x] 0 b.size).isEmpty = true) (y : UInt8) : (b.toList.map fun c => if c = x then y else c) = b.toList := by
  rw [occ_eq] at h
  have : ∀ (l : List UInt8) (i : Nat), (posFrom x i l).isEmpty = true → (l.map fun c => if c = x then y else c) = l := by
    intro l
    induction l with
    | nil => intros; rfl
    | cons c l ih =>
      intro i h
      unfold posFrom at h
      by_cases hc : c = x
      · rw [if_pos hc] at h; cases h
      · rw [if_neg hc] at h
        rw [List.map_cons, if_neg hc, ih _ h]
  exact this _ _ h
theorem occ_len (b : Array UInt8) (x : UInt8) : (Bytes.occurrences b #[x] 0 b.size).length ≤ b.size := by
  rw [occ_eq]
  have : ∀ (l : List UInt8) (i : Nat), (posFrom x i l).length ≤ l.length := by
    intro l
    induction l with
    | nil => intros; exact Nat.le_refl _
    | cons c l ih =>
      intro i
      unfold posFrom
      have := ih (i + 1)
      split <;> simp only [List.length_cons] <;> omega
  have := this b.toList 0
  rwa [Array.length_toList] at this
end
end Pb93
end
section
open PySem PySem.W PyProof.Rows PySem.Spec PySem.Calls
namespace Pb93
theorem fill_draw : Fill PySem.Challenge.rw_pb0093_01 K := by
  k_fill
  trivial
theorem words_C_draw_1 : True := by
  k_with_none
  k_with "getMethod bytes" => (k_here; first | (with_reducible refine meth_ends ?_) | (with_reducible refine meth_starts ?_))
  k_with "call builtin:bytes.endswith" => (k_here; first | (refine call_ends (x := 10) (x' := 10) rfl (by kba_ints) ?_) | (refine call_ends (x := 13) (x' := 13) rfl (by kba_ints) ?_))
  k_with "call builtin:bytes.startswith" => (k_here; first | (refine call_starts (x := 45) (x' := 45) rfl (by kba_ints) ?_) | (refine call_starts (x := 33) (x' := 33) rfl (by kba_ints) ?_))
  trivial
theorem seq0 (n : Nat) : seqIndex? 0 (n + 1) = some 0 := by
  unfold seqIndex?; simp
theorem words_C_draw_2 : True := by
  k_with "call builtin:list.pop" => (k_here; k_dflt (first
  | ((with_reducible show wpAny _ _ (call (Value.builtin _) [Value.ref _, Value.int _ _]) _ _ _); refine' kl_popAt ?F ?N ?f ?k ?e ?U ?z ?_; (case F => k_asm); (case N => k_asm); (case U => k_upd); (case f => rfl); (case k => exact seq0 _); (case e => rfl); (case z => exact Nat.le_trans (by assumption) (show 64 ≤ sizeLine from by decide)))); kl_rest)
  trivial
def DeckIs (vs : List Value) : Prop := ∃ zs, IntsAre vs zs ∧ zs.length ≤ 64 ∧ ∀ z ∈ zs, 0 ≤ z ∧ z < 1000000000000000
theorem fdiv_in {z m : Int} (h0 : 0 ≤ z) (h1 : z < 1000000000000000) (hm : 0 < m) : 0 ≤ z.fdiv m ∧ z.fdiv m < 1000000000000000 := by
  rw [Int.fdiv_eq_ediv_of_nonneg _ (by omega)]
  have := Int.ediv_nonneg h0 (by omega : 0 ≤ m)
  have := Int.ediv_le_self m h0
  omega
theorem ints_len {vs : List Value} {zs : List Int} (h : IntsAre vs zs) : vs.length = zs.length := by
  induction h with
  | nil => rfl
  | cons n t h ih => rw [List.length_cons, List.length_cons, ih]
set_option maxHeartbeats 4000000 in
theorem draw_nil (w : World) (d : Addr) (n : Nat) (m : Int) (t : Tok) (hm : 0 < m) : Con w 150 [.ref d, .int m t] [(d, W.listOf #[] n)] 40 200 (fun r new => ∃ k tk vs' n', r = .int k tk ∧ 0 ≤ k ∧ k < m ∧ new = [(d, W.listOf vs'.toArray n')] ∧ DeckIs vs') := by
  refine con_enter (i := 17) (nm := "_law_draw") (c := 149) [("deck", .ref d), ("many", .int m t)] (by conv => lhs; whnf) (by k_is) (by k_is) rfl rfl ?_
  intro mean mg mb dp un gd cn cs a ccd cl outer base L s hd hu g L' h₁ F' N' B' X' T'
  k_fold
  k_steps
  show LeaveC g s _ _ _
  refine LeaveC.intro (by k_asm) (by k_asm) [(d, W.listOf #[] n)] (by k_sub) ⟨_, _, [], n, rfl, by decide, hm, rfl, [], .nil, by decide, nofun⟩
set_option maxHeartbeats 4000000 in
theorem draw_cons (w : World) (d : Addr) (vs : List Value) (zs : List Int) (z : Int) (tz : Tok) (n : Nat) (m : Int) (t : Tok) (hI : IntsAre (.int z tz :: vs) (z :: zs)) (hv : (Value.int z tz :: vs).length ≤ 64) (hl : zs.length ≤ 63) (hz : ∀ z ∈ zs, 0 ≤ z ∧ z < 1000000000000000) (h0 : 0 ≤ z) (h1 : z < 1000000000000000) (hm : 0 < m) (hm2 : m < 100) : Con w 150 [.ref d, .int m t] [(d, W.listOf (Value.int z tz :: vs).toArray n)] 40 200 (fun r new => ∃ k tk vs' n', r = .int k tk ∧ 0 ≤ k ∧ k < m ∧ new = [(d, W.listOf vs'.toArray n')] ∧ DeckIs vs') := by
  refine con_enter (i := 17) (nm := "_law_draw") (c := 149) [("deck", .ref d), ("many", .int m t)] (by conv => lhs; whnf) (by k_is) (by k_is) rfl rfl ?_
  intro mean mg mb dp un gd cn cs a ccd cl outer base L s hd hu g L' h₁ F' N' B' X' T'
  k_fold
  k_steps
  · rename (decide _ = true) => hb
    simp at hb
  · show LeaveC g s _ _ _
    refine LeaveC.intro (by k_asm) (by k_asm) [(d, W.listOf vs.toArray (n + 1))] (by k_sub) ⟨_, _, vs, n + 1, rfl, Int.fmod_nonneg_of_pos _ hm, Int.fmod_lt_of_pos _ hm, rfl, ?_⟩
    cases hI with
    | cons _ _ hI => exact ⟨zs, hI, by omega, hz⟩
  · show LeaveC g s _ _ _
    rename IntsAre (List.set _ _ _) _ => hi
    refine LeaveC.intro (by k_asm) (by k_asm) [(d, W.listOf _ _)] (by k_sub) ⟨_, _, _, _, rfl, Int.fmod_nonneg_of_pos _ hm, Int.fmod_lt_of_pos _ hm, rfl, ?_⟩
    refine ⟨_, hi, by rw [List.length_set, List.length_cons]; omega, fun x hx => ?_⟩
    rcases List.mem_cons.mp hx with rfl | hx
    · show 0 ≤ z.fdiv m ∧ z.fdiv m < 1000000000000000
      exact fdiv_in h0 h1 hm
    · exact hz x hx
/-- a draw hands back a number under its bound, and the deck stays a deck -/
theorem draw_con (w : World) (d : Addr) (vs : List Value) (n : Nat) (m : Int) (t : Tok) (hD : DeckIs vs) (hm : 0 < m) (hm2 : m < 100) : Con w 150 [.ref d, .int m t] [(d, W.listOf vs.toArray n)] 40 200 (fun r new => ∃ k tk vs' n', r = .int k tk ∧ 0 ≤ k ∧ k < m ∧ new = [(d, W.listOf vs'.toArray n')] ∧ DeckIs vs') := by
  obtain ⟨zs, hI, hl, hz⟩ := hD
  have e := ints_len hI
  cases hI with
  | nil => exact draw_nil w d n m t hm
  | cons z tz hI =>
    rw [List.length_cons] at hl
    exact draw_cons w d _ _ z tz n m t (.cons z tz hI) (by rw [e]; exact hl) (by omega) (fun x hx => hz x (List.mem_cons_of_mem _ hx)) (hz z List.mem_cons_self).1 (hz z List.mem_cons_self).2 hm hm2
theorem draw_use {w : World} {d : Addr} {vs : List Value} {n : Nat} {k : Int} {t : Tok}
    {mean : ExcName → Option Value} {mg mb : Str → Option Value} {dp un : Nat} {gd : Option (List Code)} {cn : Str} {cs : Scope} {a : Addr} {ccd : Value} {cl : List (Str × Addr)} {outer : List Env} {A₀ : Around} {base h₀ : Heap} {L : Addr} {m : Str → Option Value} {s : Shared} {Q E : Value → Shared → Prop} {all : Led} {up : Obj → Led}
    (hD : DeckIs vs) (h0 : 0 < k) (h1 : k < 100) (B : Below A₀ base outer h₀) (F : Fr h₀ L s.heap m) (X : (K w.params).In h₀) (N : News h₀ L s.heap all) (T : Tp mean mg mb h₀) (hk : cs.kind = .function) (hd : dp + 40 < recursionLimit) (hu : un + 200 < cLine)
    (U : UpdF d (W.listOf vs.toArray n) all up)
    (ret : ∀ (r : Int) (u : Tok) (vs' : List Value) (n' : Nat) (h' : Heap) (tk' : Nat), 0 ≤ r → r < k → DeckIs vs' → Fr h₀ L h' m → News h₀ L h' (up (W.listOf vs'.toArray n')) → Q (.int r u) { s with heap := h', toks := tk' }) :
    wpAny (model pw w) (ktrTop dp un gd cn cs L a ccd cl outer) (call (.ref 150) [.ref d, .int k t]) Q E s := by
  refine con_use1 (draw_con w d vs n k t hD h0 h1) B F X N T hk hd hu U (fun r o' h' tk' F' N' P => ?_) (fun r new P => ?_)
  · obtain ⟨r, u, vs', n', rfl, p0, p1, e, D⟩ := P
    cases e
    exact ret r u vs' n' h' tk' p0 p1 D F' N'
  · obtain ⟨_, _, vs', n', _, _, _, e, _⟩ := P
    exact ⟨_, e⟩
end Pb93
end
section
open PySem PySem.W PyProof.Rows PySem.Spec PySem.Calls
namespace Pb93
theorem sub_nil {all : Led} : ∀ p ∈ ([] : Led), p ∈ all := fun _ h => nomatch h
theorem sub_cons {x : Addr × Obj} {r all : Led} (h : x ∈ all) (t : ∀ p ∈ r, p ∈ all) : ∀ p ∈ x :: r, p ∈ all := fun p hp => by
  rcases List.mem_cons.mp hp with rfl | hp
  · exact h
  · exact t p hp
/-- what one turn of a comprehension that draws leaves behind -/
inductive TurnD (h₀ : Heap) (L : Addr) (m : Str → Option Value) (s : Shared) (up : Obj → Led) (pre : Led) (G : Value → Prop) (y : Value) (s₂ : Shared) : Prop
  | mk h' tk' vs' n' (e0 : s₂ = { s with heap := h', toks := tk' }) (e1 : Fr h₀ L h' m) (e2 : News h₀ L h' (pre ++ up (W.listOf vs'.toArray n'))) (e3 : DeckIs vs') (e4 : G y) : TurnD h₀ L m s up pre G y s₂
theorem TurnD.intro {h₀ : Heap} {L : Addr} {m : Str → Option Value} {s : Shared} {up : Obj → Led} {pre all : Led} {G : Value → Prop} {y : Value} {h' : Heap} {tk' : Nat} (vs' : List Value) (n' : Nat) (F : Fr h₀ L h' m) (N : News h₀ L h' all) (sub : ∀ p ∈ pre ++ up (W.listOf vs'.toArray n'), p ∈ all) (D : DeckIs vs') (g : G y) : TurnD h₀ L m s up pre G y { s with heap := h', toks := tk' } :=
  ⟨h', tk', vs', n', rfl, F, fun p hp => N p (sub p hp), D, g⟩
theorem TurnD.mk2 {h₀ : Heap} {L : Addr} {m : Str → Option Value} {s : Shared} {up : Obj → Led} {pre all : Led} {G : Value → Prop} {y : Value} {h' : Heap} {tk' : Nat} {vs' : List Value} {n' : Nat} (D : DeckIs vs') (F : Fr h₀ L h' m) (N : News h₀ L h' all) (sub : ∀ p ∈ pre ++ up (W.listOf vs'.toArray n'), p ∈ all) (g : G y) : TurnD h₀ L m s up pre G y { s with heap := h', toks := tk' } :=
  ⟨h', tk', vs', n', rfl, F, fun p hp => N p (sub p hp), D, g⟩
section
variable {prog : Program} {w : World} {A : Around} {s : Shared} {h₀ : Heap} {L : Addr} {m : Str → Option Value} {env : Env} {elt : Expr} {x : Str} {scope : Scope} {cl : List (Str × Addr)} {P : Nat → Value → Prop} {Fin : List Value → Led → Prop} {up : Obj → Led}
theorem comp_rest (G : Value → Prop) (T : Nat)
    (step : ∀ I oI C oC D m₂ ys h tk vs n (E' : Value → Shared → Prop), LCg.NsObj oC m₂ → Fr h₀ L h m → News h₀ L h ((I, oI) :: (C, oC) :: (D, LCg.lst ys) :: up (W.listOf vs.toArray n)) → DeckIs vs → LCg.Off3 I C D (up (W.listOf vs.toArray n)) → ((@Ne Nat I C) ∧ (@Ne Nat I D) ∧ (@Ne Nat C D)) →
      wpAny (model prog w) A (eval elt (compEnvC scope cl C env)) (TurnD h₀ L m { s with heap := h, toks := tk } up [(I, oI), (C, oC), (D, LCg.lst ys)] G) E' { s with heap := h, toks := tk })
    (hoff : ∀ I C D o o', LCg.Off3 I C D (up o) → LCg.Off3 I C D (up o'))
    (fin : ∀ ys vs n, (∀ y ∈ ys, G y) → ys.length = T → DeckIs vs → Fin ys (up (W.listOf vs.toArray n))) :
    ∀ k i ys vs n, ys.length + k = T → (∀ y ∈ ys, G y) → DeckIs vs → LCg.CompRest prog w A h₀ L m env elt x scope cl s (fun _ => True) P Fin k i ys (up (W.listOf vs.toArray n)) := by
  intro k
  induction k with
  | zero => exact fun i ys vs n hT hG hD => LCg.CompRest.zero (fin ys vs n hG hT hD)
  | succ k ih =>
    intro i ys vs n hT hG hD
    refine LCg.CompRest.succ fun v I oI C oC D m₂ h tk E' _ hC _ F N off ne => wpAny_mono (step I oI C oC D m₂ ys h tk vs n E' hC F N hD off ne) (fun y s₂ hy => ?_) fun _ _ e => e
    obtain ⟨h', tk', vs', n', rfl, F', N', hD', g⟩ := hy
    refine LCg.CompEnd.intro F' N' (up (W.listOf vs'.toArray n')) (fun p hp => hp) (hoff _ _ _ _ _ off) trivial (ih (i + 1) (ys ++ [y]) vs' n' (by rw [List.length_append, List.length_singleton]; omega) (fun z hz => ?_) hD')
    rcases List.mem_append.mp hz with q | q
    · exact hG z q
    · rw [List.mem_singleton.mp q]; exact g
theorem comp_range {r : Addr} {b : Int} {t u v : Tok} {M : Int} {FinS : Shared → List Value → Led → Prop} (G : Value → Prop) {vs₀ : List Value} {n₀ : Nat} {d : Addr} {all : Led}
    (hh : A.handled = none) (F : Fr h₀ L s.heap m) (N : News h₀ L s.heap all) (U : UpdF d (W.listOf vs₀.toArray n₀) all up) (hD : DeckIs vs₀) (hr : IsRange s.heap r 0 b 1 t u v) (h0 : 0 ≤ b) (h1 : b < M) (hM : M ≤ 100)
    (step : ∀ I oI C oC D m₂ ys h tk vs n (E' : Value → Shared → Prop), LCg.NsObj oC m₂ → Fr h₀ L h m → News h₀ L h ((I, oI) :: (C, oC) :: (D, LCg.lst ys) :: up (W.listOf vs.toArray n)) → DeckIs vs → LCg.Off3 I C D (up (W.listOf vs.toArray n)) → ((@Ne Nat I C) ∧ (@Ne Nat I D) ∧ (@Ne Nat C D)) →
      wpAny (model prog w) A (eval elt (compEnvC scope cl C env)) (TurnD h₀ L m { s with heap := h, toks := tk } up [(I, oI), (C, oC), (D, LCg.lst ys)] G) E' { s with heap := h, toks := tk })
    (fin : ∀ g ys vs n, (∀ y ∈ ys, G y) → (ys.length : Int) < M → DeckIs vs → FinS { s with heap := g } ys (up (W.listOf vs.toArray n))) :
    LCg.CompSrc prog w A h₀ L m env elt x scope cl FinS (.ref r) s := by
  obtain ⟨pre, post, rfl, hg, _, _⟩ := U.split
  rw [← hg] at N
  have hoff : ∀ I C D o o', LCg.Off3 I C D (up o) → LCg.Off3 I C D (up o') := fun I C D o o' h => LCg.Off3.of fun p hp => by
    rw [hg] at h hp
    rcases List.mem_append.mp hp with q | q
    · exact h.mem p (List.mem_append.mpr (.inl q))
    · rcases List.mem_cons.mp q with rfl | q
      · exact h.mem (d, o) (List.mem_append.mpr (.inr List.mem_cons_self))
      · exact h.mem p (List.mem_append.mpr (.inr (List.mem_cons_of_mem _ q)))
  refine LCg.CompSrc.range (n := (b - 0).toNat) hh F N hr (small_one (by decide) (by decide) (by omega) (by omega)) (rangeSize_nat 0 b) (by rw [sizeLine_eq]; omega) fun g => ?_
  exact comp_rest (s := { s with heap := g }) G (b - 0).toNat step hoff (fun ys vs n hG hl hD => fin g ys vs n hG (by rw [hl]; omega) hD) _ 0 [] vs₀ n₀ (by simp) (by simp) hD
theorem comp_range2 {r : Addr} {b : Int} {t u v : Tok} {M : Int} {FinS : Shared → List Value → Led → Prop} (G : Value → Prop) {vs₀ : List Value} {n₀ : Nat} {d : Addr} {all : Led}
    (hh : A.handled = none) (F : Fr h₀ L s.heap m) (N : News h₀ L s.heap all) (hD : DeckIs vs₀) (U : UpdF d (W.listOf vs₀.toArray n₀) all up) (hr : IsRange s.heap r 0 b 1 t u v) (h0 : 0 ≤ b) (h1 : b < M) (hM : M ≤ 100)
    (step : ∀ I oI C oC D m₂ ys h tk vs n (E' : Value → Shared → Prop), LCg.NsObj oC m₂ → Fr h₀ L h m → News h₀ L h ((I, oI) :: (C, oC) :: (D, LCg.lst ys) :: up (W.listOf vs.toArray n)) → DeckIs vs → LCg.Off3 I C D (up (W.listOf vs.toArray n)) → ((@Ne Nat I C) ∧ (@Ne Nat I D) ∧ (@Ne Nat C D)) →
      wpAny (model prog w) A (eval elt (compEnvC scope cl C env)) (TurnD h₀ L m { s with heap := h, toks := tk } up [(I, oI), (C, oC), (D, LCg.lst ys)] G) E' { s with heap := h, toks := tk })
    (fin : ∀ g ys vs n, (∀ y ∈ ys, G y) → (ys.length : Int) < M → DeckIs vs → FinS { s with heap := g } ys (up (W.listOf vs.toArray n))) :
    LCg.CompSrc prog w A h₀ L m env elt x scope cl FinS (.ref r) s :=
  comp_range G hh F N U hD hr h0 h1 hM step fin
end
/-- a call whose answer is no object of its own -/
theorem con_useP {w : World} {f : Addr} {vs : List Value} {dn un' : Nat} {Post : Value → Led → Prop} (C : Con w f vs [] dn un' Post)
    {mean : ExcName → Option Value} {mg mb : Str → Option Value} {dp un : Nat} {gd : Option (List Code)} {cn : Str} {cs : Scope} {a : Addr} {ccd : Value} {cl : List (Str × Addr)} {outer : List Env} {A₀ : Around} {base h₀ : Heap} {L : Addr} {m : Str → Option Value} {s : Shared} {Q E : Value → Shared → Prop} {all : Led}
    (B : Below A₀ base outer h₀) (F : Fr h₀ L s.heap m) (X : (K w.params).In h₀) (N : News h₀ L s.heap all) (T : Tp mean mg mb h₀) (hk : cs.kind = .function) (hd : dp + dn < recursionLimit) (hu : un + un' < cLine)
    (ret : ∀ r new h' tk', Fr h₀ L h' m → News h₀ L h' all → Post r new → Q r { s with heap := h', toks := tk' }) :
    wpAny (model pw w) (ktrTop dp un gd cn cs L a ccd cl outer) (call (.ref f) vs) Q E s :=
  con_use0 C B F X N T hk hd hu fun r new h' tk' F' N' P => ret r new h' tk' F' (fun p hp => N' p (List.mem_append.mpr (.inr hp))) P
end Pb93
end
section
open PySem PySem.W PyProof.Rows PySem.Spec PySem.Calls
namespace Pb93
open Builtin
def subI (x y : Int) (ks : List Int) : List Int := ks.map fun c => if c = x then y else c
theorem ints_of {b b' : Array UInt8} {x y : UInt8} (h : b'.toList = b.toList.map fun c => if c = x then y else c) : KBw.bInts b' = subI x.toNat y.toNat (KBw.bInts b) := by
  unfold KBw.bInts subI
  rw [h, List.map_map, List.map_map]
  apply List.map_congr_left
  intro c _
  show ((if c = x then y else c).toNat : Int) = if (c.toNat : Int) = (x.toNat : Int) then (y.toNat : Int) else (c.toNat : Int)
  by_cases q : c = x
  · rw [if_pos q, if_pos (byte_inj.mpr q)]
  · rw [if_neg q, if_neg (fun e => q (byte_inj.mp e))]
section
variable {prog : Program} {w : World} {A : Around} {E : Value → Shared → Prop} {s : Shared} {b : Array UInt8} {ks : List Int} {t u v : Tok} {h₀ : Heap} {L : Addr} {m : Str → Option Value} {news : Led} {x y : UInt8}
theorem replace_run {Q : Fin → Shared → Prop} (hz : b.size ≤ 4096) (h : ∀ b' t' k', KBw.bInts b' = subI x.toNat y.toNat (KBw.bInts b) → Q (.done (.ret (.bytes b' t'))) { s with toks := k' }) : wpAny (model prog w) A («bytes.replace» ⟨[.bytes b t, .bytes #[x] u, .bytes #[y] v], []⟩) Q E s := by
  rw [replace_eq]
  split
  · rename_i hc
    have hc' : (Bytes.occurrences b #[x] 0 b.size).isEmpty = true := by simpa using hc
    refine wpAny_bind (wpAny_rule (wpAny_bind (wpAny_of_eq same_eq (wpAny_pure ?_))))
    exact h b t s.toks (ints_of (occ_none hc' y).symm)
  · have ho := occ_len b x
    have hs : (Bytes.joined #[y] (Bytes.between b (#[x] : Array UInt8).size (Bytes.occurrences b #[x] 0 b.size))).size = b.size := by
      have := congrArg List.length (replace_list (b := b) (x := x) y)
      simpa using this
    have ht : Bytes.tooLong (b.size + (Bytes.occurrences b #[x] 0 b.size).length * (#[y] : Array UInt8).size) = false := KBy.tooLong_not (by rw [show (#[y] : Array UInt8).size = 1 from rfl]; omega)
    rw [ht, if_neg Bool.false_ne_true]
    have hsz : (Bytes.joined #[y] (Bytes.between b (#[x] : Array UInt8).size (Bytes.occurrences b #[x] 0 b.size))).size ≤ sizeLine := by rw [hs, sizeLine_eq]; omega
    have hl := replace_list (b := b) (x := x) y
    generalize Bytes.joined #[y] (Bytes.between b (#[x] : Array UInt8).size (Bytes.occurrences b #[x] 0 b.size)) = J at hsz hl ⊢
    refine wpAny_bind (wpAny_mkBytes ?_ hsz)
    exact wpAny_pure (h _ _ _ (ints_of hl))
theorem call_replace {Q : Value → Shared → Prop} {x' y' : Int} (hx : (x.toNat : Int) = x') (hy : (y.toNat : Int) = y') (hk : KBw.bInts b = ks) (hz : ks.length ≤ 4096) (h : ∀ b' t' k', KBw.bInts b' = subI x' y' ks → Q (.bytes b' t') { s with toks := k' }) : wpAny (model prog w) A (call (.builtin "bytes.replace") [.bytes b t, .bytes #[x] u, .bytes #[y] v]) Q E s := by
  subst hx hy hk
  rw [KBw.ints_length] at hz
  exact call_meets (S := fun _ R s => ∀ b' t' k', KBw.bInts b' = subI x.toNat y.toNat (KBw.bInts b) → R (.ok (.ret (.bytes b' t'))) { s with toks := k' }) slot_replace (typeIs_bytes _ _ _) entry_replace (args_replace _ _ _)
    (.of_wp fun prog w A R s hS => replace_run hz fun b' t' k' e => ⟨_, rfl, hS b' t' k' e⟩) h
theorem mapM_bytes {Q : List Value → Shared → Prop} : ∀ (bs : List (Array UInt8)) (s : Shared), (∀ c ∈ bs, c.size ≤ 4096) → (∀ vs k', BysAre vs bs → Q vs { s with toks := k' }) → wpAny (model prog w) A (bs.mapM Bytes.Kind.bytes.new) Q E s
  | [], s, _, h => by rw [List.mapM_nil]; exact wpAny_pure (h [] s.toks .nil)
  | c :: bs, s, hz, h => by
    rw [List.mapM_cons]
    refine wpAny_bind (wpAny_mkBytes ?_ (by have := hz c List.mem_cons_self; rw [sizeLine_eq]; omega))
    refine wpAny_bind (mapM_bytes bs _ (fun d hd => hz d (List.mem_cons_of_mem _ hd)) fun vs k' hv => wpAny_pure ?_)
    exact h _ k' (.cons _ _ hv)
theorem spl_flat (x : UInt8) : ∀ l, (spl x l).flatten.length ≤ l.length ∧ (spl x l).length ≤ l.length + 1
  | [] => by simp [spl]
  | c :: r => by
    obtain ⟨h, t, e⟩ := spl_ne x r
    have ih := spl_flat x r
    unfold spl
    rw [e] at ih ⊢
    split <;> simp at ih ⊢ <;> omega
theorem mem_flat {α : Type} : ∀ {l : List (List α)} {p : List α}, p ∈ l → p.length ≤ l.flatten.length
  | q :: l, p, h => by
    rw [List.flatten_cons, List.length_append]
    rcases List.mem_cons.mp h with rfl | h
    · omega
    · have := mem_flat h; omega
theorem split_run {Q : Fin → Shared → Prop} (hz : b.size ≤ 4096) (F : Fr h₀ L s.heap m) (N : News h₀ L s.heap news)
    (h : ∀ l h' k' vs bs, Fr h₀ L h' m → News h₀ L h' ((l, W.listOf vs.toArray 0) :: news) → (∀ p ∈ news, p.1 < l) → BysAre vs bs → bs.map Array.toList = spl x b.toList → Q (.done (.ret (.ref l))) { s with heap := h', toks := k' }) : wpAny (model prog w) A («bytes.split» ⟨[.bytes b t, .bytes #[x] u], []⟩) Q E s := by
  rw [split_eq]
  have e := betw_eq (b := b) (x := x)
  have hf := spl_flat x b.toList
  have hb : b.toList.length ≤ 4096 := by rw [Array.length_toList]; exact hz
  have ho := occ_len b x
  rw [List.take_of_length_le (by omega)]
  split
  · rename_i hc
    refine wpAny_bind (wpAny_rule (wpAny_bind (wpAny_of_eq same_eq (wpAny_bind (newList_K F N (fun l h' F' N' lt => wpAny_pure (h l h' s.toks _ [b] F' N' lt (.cons b t .nil) ?_)) (by show 1 ≤ sizeLine; decide))))))
    rw [← e]
    have : Bytes.occurrences b #[x] 0 b.size = [] := by simpa using hc
    rw [this]
    simp [Bytes.between]
  · refine wpAny_bind (mapM_bytes _ s (fun c hc => ?_) fun vs k' hv => ?_)
    · have : c.toList ∈ spl x b.toList := by rw [← e]; exact List.mem_map_of_mem hc
      have := mem_flat this
      rw [Array.length_toList] at this
      omega
    · have hl := bys_len hv
      have hl2 := congrArg List.length e
      rw [List.length_map] at hl2
      refine wpAny_bind (newList_K (s := { s with toks := k' }) F N (fun l h' F' N' lt => wpAny_pure (h l h' k' vs _ F' N' lt hv e)) (by rw [sizeLine_eq]; omega))
def Splits (x : Int) (bs : List (Array UInt8)) (ks : List Int) : Prop := ∃ (b : Array UInt8) (c : UInt8), (c.toNat : Int) = x ∧ KBw.bInts b = ks ∧ bs.map Array.toList = spl c b.toList
theorem call_split {Q : Value → Shared → Prop} {x' : Int} (hx : (x.toNat : Int) = x') (hk : KBw.bInts b = ks) (hz : ks.length ≤ 4096) (F : Fr h₀ L s.heap m) (N : News h₀ L s.heap news)
    (h : ∀ l h' k' vs bs, Fr h₀ L h' m → News h₀ L h' ((l, W.listOf vs.toArray 0) :: news) → (∀ p ∈ news, p.1 < l) → BysAre vs bs → Splits x' bs ks → vs.length ≤ 4097 → Q (.ref l) { s with heap := h', toks := k' }) : wpAny (model prog w) A (call (.builtin "bytes.split") [.bytes b t, .bytes #[x] u]) Q E s := by
  have hz' := hz
  rw [← hk, KBw.ints_length] at hz'
  refine call_meets (S := fun _ R s => Fr h₀ L s.heap m ∧ News h₀ L s.heap news ∧ ∀ l h' k' vs bs, Fr h₀ L h' m → News h₀ L h' ((l, W.listOf vs.toArray 0) :: news) → (∀ p ∈ news, p.1 < l) → BysAre vs bs → bs.map Array.toList = spl x b.toList → R (.ok (.ret (.ref l))) { s with heap := h', toks := k' }) slot_split (typeIs_bytes _ _ _) entry_split (args_split _ _)
    (.of_wp fun prog w A R s hS => split_run hz' hS.1 hS.2.1 fun l h' k' vs bs F' N' lt hv e => ⟨_, rfl, hS.2.2 l h' k' vs bs F' N' lt hv e⟩) ⟨F, N, fun l h' k' vs bs F' N' lt hv e => h l h' k' vs bs F' N' lt hv ⟨b, x, hx, hk, e⟩ ?_⟩
  have e2 := congrArg List.length e
  rw [List.length_map] at e2
  have e3 := spl_flat x b.toList
  have e4 : b.toList.length = b.size := Array.length_toList
  rw [bys_len hv]; omega
end
inductive TurnK (h₀ : Heap) (L : Addr) (m : Str → Option Value) (s : Shared) (all : Led) (C : Value → Prop) (y : Value) (s₂ : Shared) : Prop
  | mk h' tk' (e0 : s₂ = { s with heap := h', toks := tk' }) (e1 : Fr h₀ L h' m) (e2 : News h₀ L h' all) (e3 : C y) : TurnK h₀ L m s all C y s₂
theorem TurnK.intro {h₀ : Heap} {L : Addr} {m : Str → Option Value} {s : Shared} {all all' : Led} {C : Value → Prop} {y : Value} {h' : Heap} {tk' : Nat} (F : Fr h₀ L h' m) (N : News h₀ L h' all') (sub : ∀ p ∈ all, p ∈ all') (c : C y) : TurnK h₀ L m s all C y { s with heap := h', toks := tk' } := ⟨h', tk', rfl, F, fun p hp => N p (sub p hp), c⟩
section
variable {prog : Program} {w : World} {A : Around} {s : Shared} {h₀ : Heap} {L : Addr} {m : Str → Option Value} {env : Env} {ct elt : Expr} {x : Str} {scope : Scope} {cl : List (Str × Addr)} {news : Led}
theorem keep_rest {S : Led → Prop} {P : Nat → Value → Prop} {FinL : List Value → Led → Prop} (keep : Array UInt8 → Bool) (hS : S news) (vs : List Value) (bs : List (Array UInt8)) (hB : BysAre vs bs) (hP : ∀ i v, P i v → vs.toArray[i]? = some v)
    (turn : ∀ b t I oI C oC D m₂ ys h tk (E' : Value → Shared → Prop), LCg.NsObj oC m₂ → m₂ x = some (.bytes b t) → Fr h₀ L h m → News h₀ L h ((I, oI) :: (C, oC) :: (D, LCg.lst ys) :: news) → LCg.Off3 I C D news → ((@Ne Nat I C) ∧ (@Ne Nat I D) ∧ (@Ne Nat C D)) →
      wpAny (model prog w) A (isTrue ct (compEnvC scope cl C env) (eval ct (compEnvC scope cl C env))) (fun ok s' => if ok = true then
        wpAny (model prog w) A (eval elt (compEnvC scope cl C env)) (TurnK h₀ L m { s with heap := h, toks := tk } ((I, oI) :: (C, oC) :: (D, LCg.lst ys) :: news) (fun y => keep b = true ∧ y = .bytes b t)) E' s'
        else TurnK h₀ L m { s with heap := h, toks := tk } ((I, oI) :: (C, oC) :: (D, LCg.lst ys) :: news) (fun _ => keep b = false) Value.none s') E' { s with heap := h, toks := tk })
    (fin : ∀ ys, BysAre ys (bs.filter keep) → FinL ys news) :
    ∀ k i ys, i + k = vs.length → LCg.Off3 0 0 0 [] → BysAre ys ((bs.take i).filter keep) → LCt.CompRestT prog w A h₀ L m env ct elt x scope cl s S P FinL k i ys news := by
  intro k
  induction k with
  | zero =>
    intro i ys hi _ hY
    rw [List.take_of_length_le (by rw [← bys_len hB]; omega)] at hY
    exact fin ys hY
  | succ k ih =>
    intro i ys hi ho hY v I oI C oC D m₂ h tk E' hv hC hx F N off ne
    obtain ⟨b, t, e1, e2⟩ := bys_at hB i (by omega)
    have ev : v = .bytes b t := by
      have := hP i v hv
      rw [← e1, Array.getD_eq_getD_getElem?, this]; rfl
    subst ev
    have et : bs.take (i + 1) = bs.take i ++ [b] := by rw [List.take_add_one, e2]; rfl
    have snoc : ∀ {ys : List Value} {cs : List (Array UInt8)}, BysAre ys cs → BysAre (ys ++ [.bytes b t]) (cs ++ [b]) := by
      intro ys cs q
      induction q with
      | nil => exact .cons b t .nil
      | cons c u q ih => exact .cons c u ih
    refine wpAny_mono (turn b t I oI C oC D m₂ ys h tk E' hC hx F N off ne) (fun ok s' hq => ?_) fun _ _ e => e
    cases ok with
    | true =>
      simp only [if_true] at hq ⊢
      refine wpAny_mono hq (fun y s₂ hy => ?_) fun _ _ e => e
      obtain ⟨h', tk', rfl, F', N', hk, rfl⟩ := hy
      refine ⟨h', tk', news, rfl, F', N', off, hS, ih (i + 1) _ (by omega) ho ?_⟩
      rw [et, List.filter_append, List.filter_cons_of_pos hk]
      exact snoc hY
    | false =>
      simp only [Bool.false_eq_true, if_false] at hq ⊢
      obtain ⟨h', tk', rfl, F', N', hk⟩ := hq
      refine ⟨h', tk', news, rfl, F', N', off, hS, ih (i + 1) _ (by omega) ho ?_⟩
      rw [et, List.filter_append, List.filter_cons_of_neg (by rw [hk]; exact Bool.false_ne_true)]
      simpa using hY
theorem keep_src {ax : Addr} {vs : List Value} {bs : List (Array UInt8)} {n : Nat} {FinS : Shared → List Value → Led → Prop} (keep : Array UInt8 → Bool) (hh : A.handled = none) (F : Fr h₀ L s.heap m) (N : News h₀ L s.heap news) (hm : (ax, W.listOf vs.toArray n) ∈ news) (hsz : vs.length ≤ 4097) (hB : BysAre vs bs)
    (turn : ∀ b t I oI C oC D m₂ ys h tk (E' : Value → Shared → Prop), LCg.NsObj oC m₂ → m₂ x = some (.bytes b t) → Fr h₀ L h m → News h₀ L h ((I, oI) :: (C, oC) :: (D, LCg.lst ys) :: news) → LCg.Off3 I C D news → ((@Ne Nat I C) ∧ (@Ne Nat I D) ∧ (@Ne Nat C D)) →
      wpAny (model prog w) A (isTrue ct (compEnvC scope cl C env) (eval ct (compEnvC scope cl C env))) (fun ok s' => if ok = true then
        wpAny (model prog w) A (eval elt (compEnvC scope cl C env)) (TurnK h₀ L m { s with heap := h, toks := tk } ((I, oI) :: (C, oC) :: (D, LCg.lst ys) :: news) (fun y => keep b = true ∧ y = .bytes b t)) E' s'
        else TurnK h₀ L m { s with heap := h, toks := tk } ((I, oI) :: (C, oC) :: (D, LCg.lst ys) :: news) (fun _ => keep b = false) Value.none s') E' { s with heap := h, toks := tk })
    (fin : ∀ g ys, BysAre ys (bs.filter keep) → FinS { s with heap := g } ys news) :
    LCt.CompSrcT prog w A h₀ L m env ct elt x scope cl FinS (.ref ax) s := by
  refine LCt.CompSrcT.ledger (its := vs.toArray) (k := n) hh F N hm (by rw [List.size_toArray, sizeLine_eq]; omega) fun g => ?_
  rw [List.size_toArray]
  exact keep_rest (s := { s with heap := g }) keep (.inr ⟨_, hm, rfl, n, rfl⟩) vs bs hB (fun _ _ h => h) turn (fin g) _ 0 [] (by simp) trivial (by simpa using BysAre.nil)
end
end Pb93
end
section
open PySem PySem.W PyProof.Rows PySem.Spec PySem.Calls
namespace Pb93
open PyProof.Rows.LCg
/-- the test of a comprehension's one clause, where it has one -/
def tstC (prog : Program) (w : World) (A : Around) (c : Option PySem.Expr) (env : Env) (K : Bool → Shared → Prop) (E : Value → Shared → Prop) (s : Shared) : Prop := match c with
  | none => K true s
  | some c => wpAny (model prog w) A (isTrue c env (eval c env)) K E s
def ifsC : Option PySem.Expr → List PySem.Expr
  | none => []
  | some c => [c]
theorem tstC_mono {prog : Program} {w : World} {A : Around} {c : Option PySem.Expr} {env : Env} {K K' : Bool → Shared → Prop} {E : Value → Shared → Prop} {s : Shared} (h : tstC prog w A c env K E s) (k : ∀ b s, K b s → K' b s) : tstC prog w A c env K' E s := by
  cases c with
  | none => exact k _ _ h
  | some c => exact wpAny_mono h k fun _ _ e => e
/-- where a turn of a comprehension leaves its state -/
inductive CmpEnd (h₀ : Heap) (L : Addr) (m : Str → Option Value) (s₂ : Shared) (wr : List Addr) (own : Led) (C D : Addr) (J : Led → Prop) (ys : List Value) (s₅ : Shared) : Prop
  | mk h' tk oC m'' news' (e0 : s₅ = { s₂ with heap := h', toks := tk }) (e1 : Fr h₀ L h' m) (e2 : NsObj oC m'') (e3 : News h₀ L h' ((C, oC) :: (D, lst ys) :: (news' ++ own))) (e4 : (∀ p ∈ news', p.1 ≠ C ∧ p.1 ≠ D ∧ p.1 ∉ wr)) (e5 : J news') : CmpEnd h₀ L m s₂ wr own C D J ys s₅
section
variable {prog : Program} {w : World} {A : Around} {E : Value → Shared → Prop} {s : Shared} {h₀ : Heap} {L : Addr} {m : Str → Option Value} {env : Env}
theorem cmp_loop {elt target iter : PySem.Expr} {c : Option PySem.Expr} {scope : Scope} {pos : Pos} {it acc : Value} {R : Result → Shared → Prop} (I : Nat → Shared → Prop)
    (turn : ∀ n s (E' : Value → Shared → Prop), I n s → wpAny (model prog w) A (pyNext it) (fun r s₁ => match r with
      | none => R (.ok .next) s₁
      | some v => wpAny (model prog w) A (letOwnedTupleGo target it v) (fun _ s₀ => wpAny (model prog w) A (assign target env v) (fun _ s₂ =>
          tstC prog w A c env (fun ok s₃ => if ok = true then wpAny (model prog w) A (eval elt env) (fun x s₄ =>
            wpAny (model prog w) A (call (.builtin "list.append") [acc, x]) (fun _ s₅ => ∃ m, m < n ∧ I m s₅) E' s₄) E' s₃
            else ∃ m, m < n ∧ I m s₃) E' s₂) E' s₀) E' s₁) E' s)
    (n : Nat) (h : I n s) : codeAny (model prog w) A (.compLoop (.ListComp elt [⟨target, iter, ifsC c, 0⟩] scope pos) 0 it acc env) R s := by
  cases c with
  | none => exact kcp_loop I (fun n s hI => turn n s _ hI) n h
  | some c => exact kct_loop I (fun n s hI => turn n s _ hI) n h
theorem cmp_block {elt target iter : PySem.Expr} {c : Option PySem.Expr} {scope : Scope} {cl : List (Str × Addr)} {pos : Pos} {s₂ : Shared} {I : Addr} {fp wr : List Addr} {n : Nat} {P Md : Nat → Value → Heap → Prop} {St : Nat → Heap → Prop} {news : Led}
    {Fin : List Value → Led → Prop} {RR : Value → Addr → Result → Shared → Prop} (J : Nat → List Value → Led → Prop)
    (W : KTurns prog w A target I fp wr n P Md St) (hself : ∀ (s : Shared) (Q : Value → Shared → Prop) (E : Value → Shared → Prop), St 0 s.heap → Q (.ref I) s → wpAny (model prog w) A (pyIter (.ref I)) Q E s)
    (hsz : n ≤ sizeLine) (hcell : ∀ y ∈ scope.names, y.2 ≠ .cell) (hkind : scope.kind = .function) (hst : St 0 s₂.heap) (hfp : ∀ b ∈ fp, b < s₂.heap.objs.size)
    (F : Fr h₀ L s₂.heap m) (N : News h₀ L s₂.heap news) (hLf : L ∉ fp) (hwr : ∀ b ∈ wr, h₀.get? b = none) (off : ∀ p ∈ news, p.1 ∉ wr) (hSo : ∀ i h, St i h → ∀ b ∈ wr, ∃ o, h.get? b = some o) (hJ : J 0 [] news)
    (turn : ∀ i v C oC D m' ys news₁ h tk own (E' : Value → Shared → Prop), i < n → P i v h → J i ys news₁ → ys.length ≤ i → NsObj oC m' → Fr h₀ L h m → News h₀ L h ((C, oC) :: (D, lst ys) :: (news₁ ++ own)) → (∀ p ∈ news₁, p.1 ≠ C ∧ p.1 ≠ D ∧ p.1 ∉ wr) → (∀ p ∈ own, p.1 ∈ fp) → (@Ne Nat C D) → C ∉ fp → D ∉ fp → (∀ b ∈ wr, ∃ o, (b, o) ∈ own) →
      wpAny (model prog w) A (assign target (compEnvC scope cl C env) v) (fun _ s₃ => tstC prog w A c (compEnvC scope cl C env) (fun ok s₄ => if ok = true then
        wpAny (model prog w) A (eval elt (compEnvC scope cl C env)) (fun y s₅ => CmpEnd h₀ L m s₂ wr own C D (J (i + 1) (ys ++ [y])) ys s₅) E' s₄
        else CmpEnd h₀ L m s₂ wr own C D (J (i + 1) ys) ys s₄) E' s₃) E' { s₂ with heap := h, toks := tk })
    (fin : ∀ ys news', J n ys news' → Fin ys news')
    (hRR : ∀ D C h tk m' ys news', Fr h₀ L h m → News h₀ L h ((D, lst ys) :: news') → Off1 D news' → h.Ns C m' → h₀.get? C = none → h₀.get? D = none → C ≠ L → D ≠ L → C ≠ D → (∀ p ∈ news', p.1 ≠ C) → Fin ys news' → RR (.ref D) C (.ok .next) { s₂ with heap := h, toks := tk }) :
    wpAny (model prog w) A (newList []) (fun acc s₃ => wpAny (model prog w) A (newFunctionEnv scope env.globals cl [] env.qual none .none (some env)) (fun cenv s₄ =>
      codeAny (model prog w) A (.compStart (.ListComp elt [⟨target, iter, ifsC c, 0⟩] scope pos) 0 (.ref I) acc { cenv with scope := relabel scope env }) (RR acc cenv.locals) s₄) E s₃) E s₂ := by
  refine wpAny_newObj_type (wpAny_newFunctionEnv hcell (by intro y hy; simp at hy) (fun h₁ hns₁ hsb₁ => ?_) hkind)
  dsimp only at hns₁ hsb₁ ⊢
  obtain ⟨D, hD⟩ : ∃ D, D = s₂.heap.objs.size := ⟨_, rfl⟩
  rw [← hD]
  generalize hH2 : s₂.heap.push { cls := .type "list", dict := none, data := .seq ([] : List Value).toArray } = H2 at hns₁ hsb₁ ⊢
  have hC : H2.objs.size = s₂.heap.objs.size + 1 := by rw [← hH2, Heap.size_push]
  generalize hCe : H2.objs.size = C at hns₁ hsb₁ hC ⊢
  have hCD : C ≠ D := by rw [hC, hD]; exact Nat.succ_ne_self _
  have below : ∀ b, b < s₂.heap.objs.size → b ≠ C ∧ b ≠ D := fun b hb => ⟨by rw [hC]; exact Nat.ne_of_lt (Nat.lt_succ_of_lt hb), by rw [hD]; exact Nat.ne_of_lt hb⟩
  have hDf : D ∉ fp := fun hm => (below _ (hfp _ hm)).2 rfl
  have hCf : C ∉ fp := fun hm => (below _ (hfp _ hm)).1 rfl
  have hLw : L ∉ wr := fun hm => hLf (W.sub _ hm)
  have old : ∀ b o, s₂.heap.get? b = some o → h₁.get? b = some o := fun b o e => hsb₁.extBut b o (below b (Heap.lt_size e)).1 (Heap.get?_push_of_some _ (hH2 ▸ Heap.get?_push_of_some _ e))
  have hacc : h₁.get? D = some (lst []) := hsb₁.extBut _ _ (Ne.symm hCD) (Heap.get?_push_of_some _ (hH2 ▸ hD ▸ Heap.get?_push_size _ rfl))
  have fresh₀ : ∀ a, s₂.heap.objs.size ≤ a → h₀.get? a = none := fun a ha => by
    cases e : h₀.get? a with
    | none => rfl
    | some o' => exact absurd (Heap.lt_size (F.keep a o' e)) (Nat.not_lt.mpr ha)
  have hD₀ : h₀.get? D = none := fresh₀ _ (Nat.le_of_eq hD.symm)
  have hC₀ : h₀.get? C = none := fresh₀ _ (by rw [hC]; exact Nat.le_succ _)
  have hLlt : L < s₂.heap.objs.size := F.ns.lt
  have hDL : D ≠ L := Ne.symm (below L hLlt).2
  have hCL : C ≠ L := Ne.symm (below L hLlt).1
  have off₀ : ∀ p ∈ news, p.1 ≠ C ∧ p.1 ≠ D ∧ p.1 ∉ wr := fun p hp => ⟨(below _ (Heap.lt_size (N p hp).1)).1, (below _ (Heap.lt_size (N p hp).1)).2, off p hp⟩
  have oldw : ∀ b o, h₀.get? b = some o → b ∉ wr := fun b o e hb => by rw [hwr b hb] at e; cases e
  have loop : ∀ s₃ : Shared, s₃ = { s₂ with heap := h₁, toks := s₂.toks + ([] : List (Str × Value)).length } →
      codeAny (model prog w) A (.compLoop (.ListComp elt [⟨target, iter, ifsC c, 0⟩] scope pos) 0 (.ref I) (.ref D) (compEnvC scope cl C env)) (RR (.ref D) C) s₃ := by
    rintro s₃ rfl
    obtain ⟨oC₀, heC₀, hoC₀⟩ := ns_obj hns₁
    refine cmp_loop
      (fun k s' => ∃ h' tk i ys oC m' news', s' = { s₂ with heap := h', toks := tk } ∧ i ≤ n ∧ k = n + 1 - i ∧ ys.length ≤ i ∧ St i h' ∧ Fr h₀ L h' m ∧ NsObj oC m' ∧ News h₀ L h' ((C, oC) :: (D, lst ys) :: news') ∧ (∀ p ∈ news', p.1 ≠ C ∧ p.1 ≠ D ∧ p.1 ∉ wr) ∧ J i ys news')
      ?_ (n + 1) ⟨h₁, _, 0, [], oC₀, _, news, rfl, Nat.zero_le _, rfl, Nat.le_refl _, W.frame _ _ _ hst fun b _ o e => old b o e, F.keeps old, hoC₀, fun p hp => ?_, off₀, hJ⟩
    · rintro k s' E' ⟨h', tk, i, ys, oC, m', news', rfl, hi, rfl, hyl, hst', F', hoC, N', off', hJ'⟩
      have next : ∀ h₂ : Heap, (∀ b o, b ∉ wr → h'.get? b = some o → h₂.get? b = some o) → Fr h₀ L h₂ m ∧ News h₀ L h₂ ((C, oC) :: (D, lst ys) :: news') := fun h₂ hk =>
        ⟨⟨F'.ns.at' fun o e => hk _ o hLw e, fun b o e => hk b o (oldw b o e) (F'.keep b o e), F'.above⟩, fun p hp => ⟨hk _ _ (by
          rcases List.mem_cons.mp hp with rfl | hp
          · exact fun q => hCf (W.sub _ q)
          · rcases List.mem_cons.mp hp with rfl | hp
            · exact fun q => hDf (W.sub _ q)
            · exact (off' p hp).2.2) (N' p hp).1, (N' p hp).2⟩⟩
      by_cases hlt : i < n
      · refine W.item i _ _ _ hlt hst' fun v h₂ tk₂ hMd hk₂ => ?_
        refine W.go i v _ _ _ hMd fun h₃ hP hst₃ hk₃ => ?_
        obtain ⟨F₃, N₃⟩ := next h₃ fun b o hb x => hk₃ b o hb (hk₂ b o hb x)
        have Nown : News h₀ L h₃ (PyProof.Rows.ownOf h₀ fp h₃) := news_ownOf hLf
        have NN : News h₀ L h₃ ((C, oC) :: (D, lst ys) :: (news' ++ PyProof.Rows.ownOf h₀ fp h₃)) := fun p hp => by
          rw [← List.cons_append, ← List.cons_append] at hp
          rcases List.mem_append.mp hp with hp | hp
          · exact N₃ p hp
          · exact Nown p hp
        have kept : ∀ h₅ : Heap, Fr h₀ L h₅ m → (∀ p ∈ PyProof.Rows.ownOf h₀ fp h₃, h₅.get? p.1 = some p.2) → St (i + 1) h₅ := fun h₅ F₅ N₅ => W.frame _ _ _ hst₃ fun b hb o e => by
          cases hn : h₀.get? b with
          | some o₀ =>
            have : o₀ = o := by have q := F₃.keep b o₀ hn; rw [e] at q; exact (Option.some.inj q).symm
            exact this ▸ F₅.keep b o₀ hn
          | none => exact N₅ _ (mem_ownOf hb hn e)
        have split : ∀ {h₅ : Heap} {oC₅ : Obj} {news₅ : Led}, News h₀ L h₅ ((C, oC₅) :: (D, lst ys) :: (news₅ ++ PyProof.Rows.ownOf h₀ fp h₃)) → (∀ p ∈ PyProof.Rows.ownOf h₀ fp h₃, h₅.get? p.1 = some p.2) ∧ News h₀ L h₅ ((C, oC₅) :: (D, lst ys) :: news₅) := fun N₅ =>
          ⟨fun p hp => (N₅ p (List.mem_cons_of_mem _ (List.mem_cons_of_mem _ (List.mem_append_right _ hp)))).1, fun p hp => N₅ p (by
            rw [← List.cons_append, ← List.cons_append]; exact List.mem_append_left _ hp)⟩
        refine wpAny_mono (turn i v C oC D m' ys news' h₃ tk₂ _ E' hlt hP hJ' hyl hoC F₃ NN off' ownOf_sub hCD hCf hDf (fun b hb => by obtain ⟨o, e⟩ := hSo _ _ hst₃ b hb; exact ⟨o, mem_ownOf (W.sub b hb) (hwr b hb) e⟩)) (fun _ s₃ h₃' => tstC_mono h₃' fun ok s₄ h₄ => ?_) fun _ _ e => e
        cases ok with
        | true =>
          simp only [if_true] at h₄ ⊢
          refine wpAny_mono h₄ (fun y s₅ h₅ => ?_) fun _ _ e => e
          obtain ⟨h₅, tk₅, oC₅, m₅, news₅, rfl, F₅, hoC₅, N₅, off₅, hJ₅⟩ := h₅
          obtain ⟨o₅, N₅⟩ := split N₅
          have zD := (N₅ (D, lst ys) (List.mem_cons_of_mem _ List.mem_cons_self)).1
          refine append_at (hsz := by show ys.toArray.size ≤ sizeLine; rw [List.size_toArray]; exact Nat.le_trans hyl (Nat.le_trans hi hsz)) zD fun h₆ hs₆ hD₆ => ?_
          refine ⟨n + 1 - (i + 1), by omega, h₆, tk₅, i + 1, ys ++ [y], oC₅, m₅, news₅, rfl, hlt, rfl, by rw [List.length_append, List.length_singleton]; omega, W.frame _ _ _ (kept h₅ F₅ o₅) fun b hb o e => hs₆.extBut b o (fun q => hDf (q ▸ hb)) e, F₅.change hs₆ hDL hD₀, hoC₅, fun p hp => ?_, off₅, hJ₅⟩
          rcases List.mem_cons.mp hp with rfl | hp
          · have z := N₅ (C, oC₅) List.mem_cons_self
            exact ⟨hs₆.extBut _ _ hCD z.1, z.2⟩
          · rcases List.mem_cons.mp hp with rfl | hp
            · exact ⟨hD₆.trans (congrArg some (lst_snoc ys y)), hDL, hD₀⟩
            · have z := N₅ p (List.mem_cons_of_mem _ (List.mem_cons_of_mem _ hp))
              exact ⟨hs₆.extBut _ _ (off₅ p hp).2.1 z.1, z.2⟩
        | false =>
          simp only [Bool.false_eq_true, if_false] at h₄ ⊢
          obtain ⟨h₅, tk₅, oC₅, m₅, news₅, rfl, F₅, hoC₅, N₅, off₅, hJ₅⟩ := h₄
          obtain ⟨o₅, N₅⟩ := split N₅
          exact ⟨n + 1 - (i + 1), by omega, h₅, tk₅, i + 1, ys, oC₅, m₅, news₅, rfl, hlt, rfl, by omega, kept h₅ F₅ o₅, F₅, hoC₅, N₅, off₅, hJ₅⟩
      · obtain rfl : i = n := Nat.le_antisymm hi (Nat.not_lt.mp hlt)
        refine W.done _ _ _ hst' fun h₂ tk₂ hk₂ => ?_
        obtain ⟨F₂, N₂⟩ := next h₂ hk₂
        have zC := N₂ (C, oC) List.mem_cons_self
        exact hRR _ _ h₂ tk₂ m' ys news' F₂ (fun p hp => N₂ p (List.mem_cons_of_mem _ hp)) (by
          have : ∀ l : Led, (∀ p ∈ l, p.1 ≠ D) → Off1 D l := by
            intro l
            induction l with
            | nil => exact fun _ => trivial
            | cons p l ih => exact fun q => ⟨q p List.mem_cons_self, ih fun p hp => q p (List.mem_cons_of_mem _ hp)⟩
          exact this _ fun p hp => (off' p hp).2.1) (hoC.ns zC.1) hC₀ hD₀ hCL hDL hCD (fun p hp => (off' p hp).1) (fin _ _ hJ')
    · rcases List.mem_cons.mp hp with rfl | hp
      · exact ⟨heC₀, hCL, hC₀⟩
      · rcases List.mem_cons.mp hp with rfl | hp
        · exact ⟨hacc, hDL, hD₀⟩
        · exact ⟨old _ _ (N p hp).1, (N p hp).2⟩
  exact codeAny_compStart_list (loop _ rfl) (hself _ _ _ (W.frame _ _ _ hst fun b _ o e => old b o e) (loop _ rfl))
end
def CmpTurn (prog : Program) (w : World) (A : Around) (h₀ : Heap) (L : Addr) (m : Str → Option Value) (env : Env) (c : Option PySem.Expr) (elt : PySem.Expr) (scope : Scope) (cl : List (Str × Addr)) (s₂ : Shared) (fp wr : List Addr) (J : Nat → List Value → Led → Prop) (i : Nat) (Look : (Str → Option Value) → Prop) : Prop :=
  ∀ C oC D m' ys news₁ h tk own (E' : Value → Shared → Prop), J i ys news₁ → ys.length ≤ i → NsObj oC m' → Look m' → Fr h₀ L h m → News h₀ L h ((C, oC) :: (D, lst ys) :: (news₁ ++ own)) → (∀ p ∈ news₁, p.1 ≠ C ∧ p.1 ≠ D ∧ p.1 ∉ wr) → (∀ p ∈ own, p.1 ∈ fp) → (@Ne Nat C D) → C ∉ fp → D ∉ fp → (∀ b ∈ wr, ∃ o, (b, o) ∈ own) →
    tstC prog w A c (compEnvC scope cl C env) (fun ok s₄ => if ok = true then
      wpAny (model prog w) A (eval elt (compEnvC scope cl C env)) (fun y s₅ => CmpEnd h₀ L m s₂ wr own C D (J (i + 1) (ys ++ [y])) ys s₅) E' s₄
      else CmpEnd h₀ L m s₂ wr own C D (J (i + 1) ys) ys s₄) E' { s₂ with heap := h, toks := tk }
inductive SrcAt (prog : Program) (w : World) (A : Around) (h₀ : Heap) (L : Addr) (m : Str → Option Value) (env : Env) (target : PySem.Expr) (c : Option PySem.Expr) (elt : PySem.Expr) (scope : Scope) (cl : List (Str × Addr)) (FinS : Shared → List Value → Led → Prop) (it : Value) (s₂ : Shared) : Prop
  | mk (I : Addr) (fp wr : List Addr) (n : Nat) (P Md : Nat → Value → Heap → Prop) (St : Nat → Heap → Prop) (news : Led) (J : Nat → List Value → Led → Prop) (e0 : it = .ref I) (e1 : KTurns prog w A target I fp wr n P Md St) (e2 : (∀ (s : Shared) (Q : Value → Shared → Prop) (E : Value → Shared → Prop), St 0 s.heap → Q (.ref I) s → wpAny (model prog w) A (pyIter (.ref I)) Q E s)) (e3 : n ≤ sizeLine) (e4 : St 0 s₂.heap) (e5 : (∀ b ∈ fp, b < s₂.heap.objs.size)) (e6 : Fr h₀ L s₂.heap m) (e7 : News h₀ L s₂.heap news) (e8 : L ∉ fp) (e9 : (∀ b ∈ wr, h₀.get? b = none)) (e10 : (∀ p ∈ news, p.1 ∉ wr)) (e11 : (∀ i h, St i h → ∀ b ∈ wr, ∃ o, h.get? b = some o)) (e12 : J 0 [] news) (e13 : (∀ i v C oC D m' ys news₁ h tk own (E' : Value → Shared → Prop), i < n → P i v h → J i ys news₁ → ys.length ≤ i → NsObj oC m' → Fr h₀ L h m → News h₀ L h ((C, oC) :: (D, lst ys) :: (news₁ ++ own)) → (∀ p ∈ news₁, p.1 ≠ C ∧ p.1 ≠ D ∧ p.1 ∉ wr) → (∀ p ∈ own, p.1 ∈ fp) → (@Ne Nat C D) → C ∉ fp → D ∉ fp → (∀ b ∈ wr, ∃ o, (b, o) ∈ own) → wpAny (model prog w) A (assign target (compEnvC scope cl C env) v) (fun _ s₃ => tstC prog w A c (compEnvC scope cl C env) (fun ok s₄ => if ok = true then wpAny (model prog w) A (eval elt (compEnvC scope cl C env)) (fun y s₅ => CmpEnd h₀ L m s₂ wr own C D (J (i + 1) (ys ++ [y])) ys s₅) E' s₄ else CmpEnd h₀ L m s₂ wr own C D (J (i + 1) ys) ys s₄) E' s₃) E' { s₂ with heap := h, toks := tk })) (e14 : ∀ ys news', J n ys news' → FinS s₂ ys news') : SrcAt prog w A h₀ L m env target c elt scope cl FinS it s₂
def CmpSrc (prog : Program) (w : World) (A : Around) (h₀ : Heap) (L : Addr) (m : Str → Option Value) (env : Env) (target : PySem.Expr) (c : Option PySem.Expr) (elt : PySem.Expr) (scope : Scope) (cl : List (Str × Addr)) (FinS : Shared → List Value → Led → Prop) (xv : Value) (s₁ : Shared) : Prop :=
  ∀ E : Value → Shared → Prop, wpAny (model prog w) A (pyIter xv) (SrcAt prog w A h₀ L m env target c elt scope cl FinS) E s₁
section
variable {prog : Program} {w : World} {A : Around} {E : Value → Shared → Prop} {s : Shared} {h₀ : Heap} {L : Addr} {m : Str → Option Value} {env : Env}
theorem cmp_eval {elt target iter : PySem.Expr} {c : Option PySem.Expr} {scope : Scope} {cl : List (Str × Addr)} {pos : Pos} {Q : Value → Shared → Prop} (F₀ : Fr h₀ L s.heap m)
    (hclos : closureFor scope env = pure cl) (hcell : ∀ y ∈ scope.names, y.2 ≠ .cell) (hkind : scope.kind = .function) (hnames : ∀ y ∈ scope.names, y.2 = .local → scope.names.lookup y.1 = some .local)
    (h : wpAny (model prog w) A (eval iter env) (CmpSrc prog w A h₀ L m env target c elt scope cl (fun s₂ => FinE h₀ L m s₂ Q)) E s)
    (hs : ∀ x, foldedSetIterable iter env x = pure x := by intro _; rfl) :
    wpAny (model prog w) A (eval (.ListComp elt [⟨target, iter, ifsC c, 0⟩] scope pos) env) Q E s := by
  rw [eval_ListComp]
  refine wpAny_comprehension_free (use := none) rfl hs hclos hkind hnames (wpAny_mono h (fun xv s₁ h₁ => wpAny_mono (h₁ E) (fun it s₂ h₂ => ?_) fun _ _ e => e) fun _ _ e => e)
  obtain ⟨I, fp, wr, n, P, Md, St, news, J, rfl, W, hself, hsz, hst, hfp, F, N, hLf, hwr, off, hSo, hJ, turn, fin⟩ := h₂
  refine cmp_block (Fin := FinE h₀ L m s₂ Q) J W hself hsz hcell hkind hst hfp F N hLf hwr off hSo hJ turn fin ?_
  intro D C h tk m' ys news' F' N' o1 hn hC₀ hD₀ hCL hDL hCD offC fin
  refine ⟨m', hn, fun h'' hs'' => fin D h'' tk (F'.change hs'' hCL hC₀) (fun p hp => ?_) o1⟩
  refine ⟨hs''.extBut _ _ ?_ (N' p hp).1, (N' p hp).2⟩
  rcases List.mem_cons.mp hp with rfl | hp
  · exact Ne.symm hCD
  · exact offC p hp
theorem cmp_assign {elt target iter : PySem.Expr} {c : Option PySem.Expr} {y : Str} {py : Pos} {scope : Scope} {cl : List (Str × Addr)} {pos spos : Pos} {Q : Flow → Shared → Prop} (F₀ : Fr h₀ L s.heap m) (hLe : env.locals = L)
    (hsw : swapsWith (.ListComp elt [⟨target, iter, ifsC c, 0⟩] scope pos) (some (.Name y py)) spos.line env = pure true)
    (hclos : closureFor scope env = pure cl) (hcell : ∀ z ∈ scope.names, z.2 ≠ .cell) (hkind : scope.kind = .function)
    (hnames : ∀ z ∈ scope.names, z.2 = .local → scope.names.lookup z.1 = some .local)
    (hy : env.kindOf y = some .local) (hp : (env.scope.kind == .class || (env.scope.kind == .module && env.locals != env.globals)) = false)
    (h : wpAny (model prog w) A (eval iter env) (CmpSrc prog w A h₀ L m env target c elt scope cl (fun s₂ => FinA h₀ L m s₂ y Q)) E s)
    (hs : ∀ x, foldedSetIterable iter env x = pure x := by intro _; rfl) :
    wpAny (model prog w) A (exec (.Assign [.Name y py] (.ListComp elt [⟨target, iter, ifsC c, 0⟩] scope pos) spos) env) Q E s := by
  subst hLe
  rw [exec_Assign_Name_used _ _ _ _ hsw]
  refine wpAny_bind (wpAny_standAt (wpAny_bind ?_))
  show wpAny _ A (do let _ ← comprehension (.ListComp elt [⟨target, iter, ifsC c, 0⟩] scope pos) scope env _ (newList []) false (eval iter env) (some (assign (.Name y py) env))) _ _ s
  refine wpAny_bind (wpAny_mono (wpAny_comprehension_free (use := some (assign (.Name y py) env)) (Q := fun _ s' => Q .next s') rfl hs hclos hkind hnames
    (wpAny_mono h (fun xv s₁ h₁ => wpAny_mono (h₁ E) (fun it s₂ h₂ => ?_) fun _ _ e => e) fun _ _ e => e)) (fun _ s' hq => wpAny_pure (wpAny_pure hq)) fun _ _ e => e)
  obtain ⟨I, fp, wr, n, P, Md, St, news, J, rfl, W, hself, hsz, hst, hfp, F, N, hLf, hwr, off, hSo, hJ, turn, fin⟩ := h₂
  refine cmp_block (Fin := FinA h₀ env.locals m s₂ y Q) J W hself hsz hcell hkind hst hfp F N hLf hwr off hSo hJ turn fin ?_
  intro D C h' tk m' ys news' F' N' o1 hn hC₀ hD₀ hCL hDL hCD offC fin
  show wpAny _ A (assign (.Name y py) env (.ref D)) _ _ _
  refine wpAny_assign_Name (wpAny_storeName_local hy F'.ns (fun h₂ hn₂ hs₂ => ?_) hp)
  have hL₀ : h₀.get? env.locals = none := Heap.get?_none_of_le F'.above
  have F₂ : Fr h₀ env.locals h₂ (fun z => if z = y then some (.ref D) else m z) := ⟨hn₂, fun b o e => hs₂.extBut b o (fun q => by rw [q, hL₀] at e; cases e) (F'.keep b o e), F'.above⟩
  refine ⟨m', hn.sameBut hs₂ hCL, fun h'' hs'' => fin D h'' _ (F₂.change hs'' hCL hC₀) (fun p hp => ?_) o1⟩
  have z : h₂.get? p.1 = some p.2 := hs₂.extBut _ _ (N' p hp).2.1 (N' p hp).1
  refine ⟨hs''.extBut _ _ ?_ z, (N' p hp).2⟩
  rcases List.mem_cons.mp hp with rfl | hp
  · exact Ne.symm hCD
  · exact offC p hp
theorem cmp_news {wr : List Addr} {h h' : Heap} {C D : Addr} {oC oC' : Obj} {ys : List Value} {news₁ own : Led} {fp : List Addr} (N : News h₀ L h ((C, oC) :: (D, lst ys) :: (news₁ ++ own))) (hk : ∀ c o, c ≠ C → h.get? c = some o → h'.get? c = some o) (hC : h'.get? C = some oC')
    (off : ∀ p ∈ news₁, p.1 ≠ C ∧ p.1 ≠ D ∧ p.1 ∉ wr) (ho : ∀ p ∈ own, p.1 ∈ fp) (hCD : (@Ne Nat C D)) (hCf : C ∉ fp) : News h₀ L h' ((C, oC') :: (D, lst ys) :: (news₁ ++ own)) := fun p hp => by
  rcases List.mem_cons.mp hp with rfl | hp
  · exact ⟨hC, (N (C, oC) List.mem_cons_self).2⟩
  · have z := N p (List.mem_cons_of_mem _ hp)
    refine ⟨hk _ _ ?_ z.1, z.2⟩
    rcases List.mem_cons.mp hp with rfl | hp
    · exact Ne.symm hCD
    · rcases List.mem_append.mp hp with hp | hp
      · exact (off p hp).1
      · exact fun q => hCf (q ▸ ho p hp)
/-- a clause's name -/
theorem cmp_name {x : Str} {px : Pos} {c : Option PySem.Expr} {elt : PySem.Expr} {scope : Scope} {cl : List (Str × Addr)} {s₂ : Shared} {fp wr : List Addr} {J : Nat → List Value → Led → Prop} {i : Nat} {v : Value} (hkind : scope.kind = .function) (hx : scope.names.lookup x = some .local)
    (T : CmpTurn prog w A h₀ L m env c elt scope cl s₂ fp wr J i (fun m' => m' x = some v)) {C : Addr} {oC : Obj} {D : Addr} {m' : Str → Option Value} {ys : List Value} {news₁ : Led} {h : Heap} {tk : Nat} {own : Led} {E' : Value → Shared → Prop}
    (hJ : J i ys news₁) (hy : ys.length ≤ i) (hoC : NsObj oC m') (F : Fr h₀ L h m) (N : News h₀ L h ((C, oC) :: (D, lst ys) :: (news₁ ++ own))) (off : ∀ p ∈ news₁, p.1 ≠ C ∧ p.1 ≠ D ∧ p.1 ∉ wr) (ho : ∀ p ∈ own, p.1 ∈ fp) (hCD : (@Ne Nat C D)) (hCf : C ∉ fp) (hDf : D ∉ fp) (hwO : ∀ b ∈ wr, ∃ o, (b, o) ∈ own) :
    wpAny (model prog w) A (assign (.Name x px) (compEnvC scope cl C env) v) (fun _ s₃ => tstC prog w A c (compEnvC scope cl C env) (fun ok s₄ => if ok = true then
        wpAny (model prog w) A (eval elt (compEnvC scope cl C env)) (fun y s₅ => CmpEnd h₀ L m s₂ wr own C D (J (i + 1) (ys ++ [y])) ys s₅) E' s₄
        else CmpEnd h₀ L m s₂ wr own C D (J (i + 1) ys) ys s₄) E' s₃) E' { s₂ with heap := h, toks := tk } := by
  have zC := N (C, oC) List.mem_cons_self
  refine wpAny_assign_Name (wpAny_storeName_local (lookup_relabel_local hx) (hoC.ns zC.1) (fun h₃ hn₃ hs₃ => ?_) (by simp [compEnvC, relabel, hkind]))
  obtain ⟨o₃, he₃, ho₃⟩ := ns_obj hn₃
  exact T C o₃ D _ ys news₁ h₃ _ own E' hJ hy ho₃ (by simp) (F.change hs₃ zC.2.1 zC.2.2) (cmp_news (wr := wr) (own := own) (fp := fp) N (fun c o hc e => hs₃.extBut c o hc e) he₃ off ho hCD hCf) off ho hCD hCf hDf hwO
/-- a clause's two names -/
theorem cmp_pair {a b : Str} {pa pb tp : Pos} {kk : Nat} {c : Option PySem.Expr} {elt : PySem.Expr} {scope : Scope} {cl : List (Str × Addr)} {s₂ : Shared} {fp wr : List Addr} {J : Nat → List Value → Led → Prop} {i : Nat} {x y : Value} (hh : A.handled = none) (hkind : scope.kind = .function) (hxa : scope.names.lookup a = some .local) (hxb : scope.names.lookup b = some .local) (hab : ¬ a = b)
    (T : CmpTurn prog w A h₀ L m env c elt scope cl s₂ fp wr J i (fun m' => m' a = some x ∧ m' b = some y)) {C : Addr} {oC : Obj} {D Tu : Addr} {m' : Str → Option Value} {ys : List Value} {news₁ : Led} {h : Heap} {tk : Nat} {own : Led} {E' : Value → Shared → Prop}
    (ht : h.IsTuple Tu #[x, y])
    (hJ : J i ys news₁) (hy : ys.length ≤ i) (hoC : NsObj oC m') (F : Fr h₀ L h m) (N : News h₀ L h ((C, oC) :: (D, lst ys) :: (news₁ ++ own))) (off : ∀ p ∈ news₁, p.1 ≠ C ∧ p.1 ≠ D ∧ p.1 ∉ wr) (ho : ∀ p ∈ own, p.1 ∈ fp) (hCD : (@Ne Nat C D)) (hCf : C ∉ fp) (hDf : D ∉ fp) (hwO : ∀ b ∈ wr, ∃ o, (b, o) ∈ own) :
    wpAny (model prog w) A (assign (.Tuple [.Name a pa, .Name b pb] kk tp) (compEnvC scope cl C env) (.ref Tu)) (fun _ s₃ => tstC prog w A c (compEnvC scope cl C env) (fun ok s₄ => if ok = true then
        wpAny (model prog w) A (eval elt (compEnvC scope cl C env)) (fun y s₅ => CmpEnd h₀ L m s₂ wr own C D (J (i + 1) (ys ++ [y])) ys s₅) E' s₄
        else CmpEnd h₀ L m s₂ wr own C D (J (i + 1) ys) ys s₄) E' s₃) E' { s₂ with heap := h, toks := tk } := by
  have zC := N (C, oC) List.mem_cons_self
  refine kcp_assign hh ht (lookup_relabel_local hxa) (lookup_relabel_local hxb) (by simp [compEnvC, relabel, hkind]) (hoC.ns zC.1) fun h₃ tk₃ hn₃ hk₃ => ?_
  obtain ⟨o₃, he₃, ho₃⟩ := ns_obj hn₃
  refine T C o₃ D _ ys news₁ h₃ tk₃ own E' hJ hy ho₃ ⟨by rw [if_neg hab]; simp, by simp⟩ ⟨F.ns.at' fun o e => hk₃ _ o (Ne.symm zC.2.1) e, fun b o e => hk₃ b o (fun q => ?_) (F.keep b o e), F.above⟩ (cmp_news (wr := wr) (own := own) (fp := fp) N hk₃ he₃ off ho hCD hCf) off ho hCD hCf hDf hwO
  have q : b = C := q
  rw [q, zC.2.2] at e; cases e
end
section
variable {prog : Program} {w : World} {A : Around} {s₁ : Shared} {h₀ : Heap} {L : Addr} {m : Str → Option Value} {env : Env} {c : Option PySem.Expr} {elt : PySem.Expr} {scope : Scope} {cl : List (Str × Addr)} {FinS : Shared → List Value → Led → Prop} {news : Led}
theorem src_bytes {x : Str} {px : Pos} {b : Array UInt8} {t : Tok} {ks : List Int} (J : Nat → List Value → Led → Prop) (hh : A.handled = none) (hk : KBw.bInts b = ks) (hz : ks.length ≤ 4096) (F : Fr h₀ L s₁.heap m) (N : News h₀ L s₁.heap news) (hkind : scope.kind = .function) (hx : scope.names.lookup x = some .local) (hJ : J 0 [] news)
    (turn : ∀ s₂ i k t I, ks[i]? = some k → 0 ≤ k → k < 256 → (∃ g, s₂ = { s₁ with heap := g }) → (∀ p ∈ news, p.1 < I) → CmpTurn prog w A h₀ L m env c elt scope cl s₂ [I] [I] J i (fun m' => m' x = some (.int k t)))
    (fin : ∀ g ys news', J ks.length ys news' → FinS { s₁ with heap := g } ys news') : CmpSrc prog w A h₀ L m env (.Name x px) c elt scope cl FinS (.bytes b t) s₁ := by
  subst hk
  intro E
  refine KBw.pyIter_bytes ?_
  refine ⟨s₁.heap.objs.size, [s₁.heap.objs.size], [s₁.heap.objs.size], b.size, _, _, _, news, J, rfl, KTurns.ofWalks (KBw.walks hh s₁.heap.objs.size b t) (fun i v s Q E st q => ?_), fun s Q E st q => KBw.pyIter_self st q, ?_, ⟨_, Heap.get?_push_size _ rfl, rfl, rfl⟩, ?_, F.push _, fun p hp => ⟨Heap.get?_push_of_some _ (N p hp).1, (N p hp).2⟩, ?_, ?_, ?_, ?_, hJ, ?_, ?_⟩
  · exact wpAny_pure q
  · rw [KBw.ints_length] at hz; rw [sizeLine_eq]; omega
  · intro a ha
    rw [List.mem_singleton.mp ha]
    show s₁.heap.objs.size < (s₁.heap.push _).objs.size
    rw [Heap.size_push]; exact Nat.lt_succ_self _
  · exact fun hm => absurd F.ns.lt ((List.mem_singleton.mp hm) ▸ Nat.lt_irrefl _)
  · intro a ha
    rw [List.mem_singleton.mp ha]; exact next_is_new F
  · exact fun p hp hm => absurd (Heap.lt_size (N p hp).1) ((List.mem_singleton.mp hm) ▸ Nat.lt_irrefl _)
  · rintro i h ⟨o, ho, _⟩ b hb
    rw [List.mem_singleton.mp hb]; exact ⟨o, ho⟩
  · rintro i v C oC D m' ys news₁ h tk own E' hi ⟨cc, u, hc, rfl⟩ hJ' hy hoC F' N' off ho hCD hCf hDf hwO
    have hi2 := KBw.ints_get hc
    have hin := KBw.ints_in (b := b) (List.mem_of_getElem? hi2)
    exact cmp_name hkind hx (turn _ i _ u s₁.heap.objs.size hi2 hin.1 hin.2 ⟨_, rfl⟩ fun p hp => Heap.lt_size (N p hp).1) hJ' hy hoC F' N' off ho hCD hCf hDf hwO
  · intro ys news' hj
    rw [← KBw.ints_length] at hj
    exact fin _ ys news' hj
theorem src_list {x : Str} {px : Pos} {ax : Addr} {vs : List Value} {n : Nat} (J : Nat → List Value → Led → Prop) (hh : A.handled = none) (hm : (ax, W.listOf vs.toArray n) ∈ news) (hz : vs.length ≤ 4096) (F : Fr h₀ L s₁.heap m) (N : News h₀ L s₁.heap news) (hkind : scope.kind = .function) (hx : scope.names.lookup x = some .local) (hJ : J 0 [] news)
    (turn : ∀ s₂ i v I, vs[i]? = some v → (∃ g, s₂ = { s₁ with heap := g }) → (∀ p ∈ news, p.1 < I) → CmpTurn prog w A h₀ L m env c elt scope cl s₂ [I, ax] [I] J i (fun m' => m' x = some v))
    (fin : ∀ g ys news', J vs.length ys news' → FinS { s₁ with heap := g } ys news') : CmpSrc prog w A h₀ L m env (.Name x px) c elt scope cl FinS (.ref ax) s₁ := by
  intro E
  have hl : s₁.heap.IsList ax vs.toArray := ⟨_, (N _ hm).1, rfl, n, rfl⟩
  have hlt : ax < s₁.heap.objs.size := Heap.lt_size (N _ hm).1
  refine wpAny_pyIter_list hl ?_
  refine ⟨s₁.heap.objs.size, [s₁.heap.objs.size, ax], [s₁.heap.objs.size], vs.length, _, _, _, news, J, rfl, KTurns.ofWalks (Walks.list hh s₁.heap.objs.size ax (Nat.ne_of_lt hlt) vs.toArray) (fun i v s Q E st q => letGo_listiter st.1 q), fun s Q E st q => wpAny_pyIter_listiter st.1 q, ?_, ⟨⟨_, Heap.get?_push_size _ rfl, rfl, rfl⟩, hl.push _⟩, ?_, F.push _, fun p hp => ⟨Heap.get?_push_of_some _ (N p hp).1, (N p hp).2⟩, ?_, ?_, ?_, ?_, hJ, ?_, ?_⟩
  · rw [sizeLine_eq]; omega
  · intro a ha
    show a < (s₁.heap.push _).objs.size
    rw [Heap.size_push]
    rcases List.mem_cons.mp ha with rfl | ha
    · exact Nat.lt_succ_self _
    · rw [List.mem_singleton.mp ha]; exact Nat.lt_succ_of_lt hlt
  · intro hI
    rcases List.mem_cons.mp hI with e | hI
    · exact absurd F.ns.lt (e ▸ Nat.lt_irrefl _)
    · exact (N _ hm).2.1 (List.mem_singleton.mp hI).symm
  · intro a ha
    rw [List.mem_singleton.mp ha]; exact next_is_new F
  · exact fun p hp hI => absurd (Heap.lt_size (N p hp).1) ((List.mem_singleton.mp hI) ▸ Nat.lt_irrefl _)
  · rintro i h ⟨⟨o, ho, _⟩, _⟩ b hb
    rw [List.mem_singleton.mp hb]; exact ⟨o, ho⟩
  · rintro i v C oC D m' ys news₁ h tk own E' hi hv hJ' hy hoC F' N' off ho hCD hCf hDf hwO
    have hv' : vs.toArray[i]? = some v := hv
    exact cmp_name hkind hx (turn _ i v s₁.heap.objs.size (by simpa using hv') ⟨_, rfl⟩ fun p hp => Heap.lt_size (N p hp).1) hJ' hy hoC F' N' off ho hCD hCf hDf hwO
  · exact fun ys news' hj => fin _ ys news' hj
/-- a list whose items are pairs that stand where they stood -/
theorem src_pairs {a b : Str} {pa pb tp : Pos} {kk : Nat} {ax : Addr} {vs : List Value} {n : Nat} (J : Nat → List Value → Led → Prop) (Is : Nat → Value → Value → Prop) (hh : A.handled = none) (hm : (ax, W.listOf vs.toArray n) ∈ news) (hz : vs.length ≤ 4096) (F : Fr h₀ L s₁.heap m) (N : News h₀ L s₁.heap news) (hkind : scope.kind = .function) (hxa : scope.names.lookup a = some .local) (hxb : scope.names.lookup b = some .local) (hab : ¬ a = b) (hJ : J 0 [] news)
    (items : ∀ i v ys news₁ h, vs[i]? = some v → J i ys news₁ → Fr h₀ L h m → News h₀ L h news₁ → ∃ T x y, v = .ref T ∧ h.IsTuple T #[x, y] ∧ Is i x y)
    (turn : ∀ s₂ i x y I, Is i x y → i < vs.length → (∃ g, s₂ = { s₁ with heap := g }) → (∀ p ∈ news, p.1 < I) → CmpTurn prog w A h₀ L m env c elt scope cl s₂ [I, ax] [I] J i (fun m' => m' a = some x ∧ m' b = some y))
    (fin : ∀ g ys news', J vs.length ys news' → FinS { s₁ with heap := g } ys news') : CmpSrc prog w A h₀ L m env (.Tuple [.Name a pa, .Name b pb] kk tp) c elt scope cl FinS (.ref ax) s₁ := by
  intro E
  have hl : s₁.heap.IsList ax vs.toArray := ⟨_, (N _ hm).1, rfl, n, rfl⟩
  have hlt : ax < s₁.heap.objs.size := Heap.lt_size (N _ hm).1
  refine wpAny_pyIter_list hl ?_
  refine ⟨s₁.heap.objs.size, [s₁.heap.objs.size, ax], [s₁.heap.objs.size], vs.length, _, _, _, news, J, rfl, KTurns.ofWalks (Walks.list hh s₁.heap.objs.size ax (Nat.ne_of_lt hlt) vs.toArray) (fun i v s Q E st q => letGo_listiter st.1 q), fun s Q E st q => wpAny_pyIter_listiter st.1 q, ?_, ⟨⟨_, Heap.get?_push_size _ rfl, rfl, rfl⟩, hl.push _⟩, ?_, F.push _, fun p hp => ⟨Heap.get?_push_of_some _ (N p hp).1, (N p hp).2⟩, ?_, ?_, ?_, ?_, hJ, ?_, ?_⟩
  · rw [sizeLine_eq]; omega
  · intro a ha
    show a < (s₁.heap.push _).objs.size
    rw [Heap.size_push]
    rcases List.mem_cons.mp ha with rfl | ha
    · exact Nat.lt_succ_self _
    · rw [List.mem_singleton.mp ha]; exact Nat.lt_succ_of_lt hlt
  · intro hI
    rcases List.mem_cons.mp hI with e | hI
    · exact absurd F.ns.lt (e ▸ Nat.lt_irrefl _)
    · exact (N _ hm).2.1 (List.mem_singleton.mp hI).symm
  · intro a ha
    rw [List.mem_singleton.mp ha]; exact next_is_new F
  · exact fun p hp hI => absurd (Heap.lt_size (N p hp).1) ((List.mem_singleton.mp hI) ▸ Nat.lt_irrefl _)
  · rintro i h ⟨⟨o, ho, _⟩, _⟩ b hb
    rw [List.mem_singleton.mp hb]; exact ⟨o, ho⟩
  · rintro i v C oC D m' ys news₁ h tk own E' hi hv hJ' hy hoC F' N' off ho hCD hCf hDf hwO
    have hv' : vs.toArray[i]? = some v := hv
    obtain ⟨T, x, y, rfl, ht, hi⟩ := items i v ys news₁ h (by simpa using hv') hJ' F' fun p hp => N' p (List.mem_cons_of_mem _ (List.mem_cons_of_mem _ (List.mem_append_left _ hp)))
    exact cmp_pair hh hkind hxa hxb hab (turn _ i x y s₁.heap.objs.size hi (by assumption) ⟨_, rfl⟩ fun p hp => Heap.lt_size (N p hp).1) ht hJ' hy hoC F' N' off ho hCD hCf hDf hwO
  · exact fun ys news' hj => fin _ ys news' hj
/-- what zip hands back -/
def ZipIs (h₀ : Heap) (L : Addr) (h : Heap) (z I l1 l2 : Addr) (xs ys : List Value) (news : Led) : Prop :=
  z = I + 4 ∧ IsZip h (I + 4) (I + 2) (I + 3) .none ∧ IsPair h (I + 2) (.ref I) (.ref (I + 1)) ∧ IsPair h (I + 3) .none .none ∧ h.IsListIter I l1 0 ∧ h.IsListIter (I + 1) l2 0 ∧ h.IsList l1 xs.toArray ∧ h.IsList l2 ys.toArray ∧ l1 < I ∧ l2 < I ∧ L < I ∧ (∀ p ∈ news, p.1 < I) ∧ h.objs.size = I + 5 ∧ (∀ b, I ≤ b → h₀.get? b = none) ∧ l1 ≠ L ∧ l2 ≠ L
theorem call_zip {l1 l2 : Addr} {xs ys : List Value} {n1 n2 : Nat} {E : Value → Shared → Prop} {Q : Value → Shared → Prop} (F : Fr h₀ L s₁.heap m) (N : News h₀ L s₁.heap news) (hm1 : (l1, W.listOf xs.toArray n1) ∈ news) (hm2 : (l2, W.listOf ys.toArray n2) ∈ news)
    (h : ∀ z I h', Fr h₀ L h' m → News h₀ L h' news → ZipIs h₀ L h' z I l1 l2 xs ys news → Q (.ref z) { s₁ with heap := h' }) : wpAny (model prog w) A (call (.type "zip") [.ref l1, .ref l2]) Q E s₁ := by
  have hl1 : s₁.heap.IsList l1 xs.toArray := ⟨_, (N _ hm1).1, rfl, n1, rfl⟩
  have hl2 : s₁.heap.IsList l2 ys.toArray := ⟨_, (N _ hm2).1, rfl, n2, rfl⟩
  refine call_zip_2 hl1 hl2 fun h' hz hTI hTO hi1 hi2 hsz hk => ?_
  exact h _ s₁.heap.objs.size h' (F.keeps hk) (N.grown hk) ⟨rfl, hz, hTI, hTO, hi1, hi2, hl1.at fun o e => hk _ o e, hl2.at fun o e => hk _ o e, Heap.lt_size (N _ hm1).1, Heap.lt_size (N _ hm2).1, F.ns.lt, fun p hp => Heap.lt_size (N p hp).1, hsz, fun b hb => ktu_new F hb, (N _ hm1).2.1, (N _ hm2).2.1⟩
theorem zip_fp {I l1 l2 b : Addr} (h : b ∈ [I + 4, I + 2, I + 3, I, I + 1, l1, l2]) : b = l1 ∨ b = l2 ∨ (I ≤ b ∧ b < I + 5) := by
  simp only [List.mem_cons, List.not_mem_nil, or_false] at h
  rcases h with rfl | rfl | rfl | rfl | rfl | rfl | rfl
  · exact .inr (.inr ⟨Nat.le_add_right _ _, Nat.lt_succ_self _⟩)
  · exact .inr (.inr ⟨Nat.le_add_right _ _, Nat.add_lt_add_left (by decide) _⟩)
  · exact .inr (.inr ⟨Nat.le_add_right _ _, Nat.add_lt_add_left (by decide) _⟩)
  · exact .inr (.inr ⟨Nat.le_refl _, Nat.lt_add_of_pos_right (by decide)⟩)
  · exact .inr (.inr ⟨Nat.le_add_right _ _, Nat.add_lt_add_left (by decide) _⟩)
  · exact .inl rfl
  · exact .inr (.inl rfl)
theorem src_zip {a b : Str} {pa pb tp : Pos} {kk : Nat} {z I l1 l2 : Addr} {xs zs : List Value} (J : Nat → List Value → Led → Prop) (hh : A.handled = none) (Z : ZipIs h₀ L s₁.heap z I l1 l2 xs zs news) (hz : xs.length ≤ 4096) (F : Fr h₀ L s₁.heap m) (N : News h₀ L s₁.heap news) (hkind : scope.kind = .function) (hxa : scope.names.lookup a = some .local) (hxb : scope.names.lookup b = some .local) (hab : ¬ a = b) (hJ : J 0 [] news)
    (turn : ∀ s₂ i x y, xs[i]? = some x → zs[i]? = some y → (∃ g, s₂ = { s₁ with heap := g }) → CmpTurn prog w A h₀ L m env c elt scope cl s₂ [I + 4, I + 2, I + 3, I, I + 1, l1, l2] [I + 4, I + 3, I, I + 1] J i (fun m' => m' a = some x ∧ m' b = some y))
    (fin : ∀ g ys news', J (min xs.length zs.length) ys news' → FinS { s₁ with heap := g } ys news') : CmpSrc prog w A h₀ L m env (.Tuple [.Name a pa, .Name b pb] kk tp) c elt scope cl FinS (.ref z) s₁ := by
  intro E
  obtain ⟨rfl, hz1, hTI, hTO, hi1, hi2, hl1, hl2, lt1, lt2, ltL, ltN, hsize, hnew, nL1, nL2⟩ := Z
  refine wpAny_pyIter_zip hz1 ?_
  refine ⟨I + 4, [I + 4, I + 2, I + 3, I, I + 1, l1, l2], [I + 4, I + 3, I, I + 1], min xs.toArray.size zs.toArray.size, _, _, _, news, J, rfl, KTurns.ofWalksU (WalksT.zip2 hh _ _ _ _ _ _ _ (ktu_apart _ _ _ lt1 lt2) xs.toArray zs.toArray).toU, fun s Q E st q => wpAny_pyIter_zip st.1 q, ?_, ⟨hz1, hTI, ⟨_, _, hTO⟩, hi1, hi2, hl1, hl2⟩, ?_, F, N, ?_, ?_, ?_, ?_, hJ, ?_, ?_⟩
  · simp only [List.size_toArray]; rw [sizeLine_eq]; omega
  · intro b hb
    rw [hsize]
    rcases zip_fp hb with rfl | rfl | hb
    · exact Nat.lt_of_lt_of_le lt1 (Nat.le_add_right _ _)
    · exact Nat.lt_of_lt_of_le lt2 (Nat.le_add_right _ _)
    · exact hb.2
  · intro hb
    rcases zip_fp hb with rfl | rfl | hb
    · exact nL1 rfl
    · exact nL2 rfl
    · exact Nat.lt_irrefl _ (Nat.lt_of_lt_of_le ltL hb.1)
  · intro b hb
    refine hnew b ?_
    simp only [List.mem_cons, List.not_mem_nil, or_false] at hb
    rcases hb with rfl | rfl | rfl | rfl
    · exact Nat.le_add_right _ _
    · exact Nat.le_add_right _ _
    · exact Nat.le_refl _
    · exact Nat.le_add_right _ _
  · intro p hp hb
    have : I ≤ p.1 := by
      simp only [List.mem_cons, List.not_mem_nil, or_false] at hb
      rcases hb with e | e | e | e <;> rw [e]
      · exact Nat.le_add_right _ _
      · exact Nat.le_add_right _ _
      · exact Nat.le_refl _
      · exact Nat.le_add_right _ _
    exact Nat.lt_irrefl _ (Nat.lt_of_lt_of_le (ltN p hp) this)
  · rintro i h ⟨ho, _, ⟨_, _, ho'⟩, ⟨o1, ho1, _⟩, ⟨o2, ho2, _⟩, _⟩ c hc
    simp only [List.mem_cons, List.not_mem_nil, or_false] at hc
    rcases hc with rfl | rfl | rfl | rfl
    · exact ⟨_, ho⟩
    · exact ⟨_, ho'⟩
    · exact ⟨o1, ho1⟩
    · exact ⟨o2, ho2⟩
  · rintro i v C oC D m' ys news₁ h tk own E' hi ⟨T, vals, rfl, ⟨x, y, hx, hy', rfl⟩, hT⟩ hJ' hy hoC F' N' off ho hCD hCf hDf hwO
    exact cmp_pair hh hkind hxa hxb hab (turn _ i x y (by simpa using hx) (by simpa using hy') ⟨_, rfl⟩) hT hJ' hy hoC F' N' off ho hCD hCf hDf hwO
  · intro ys news' hj
    rw [List.size_toArray, List.size_toArray] at hj
    exact fin _ ys news' hj
end
section
variable {prog : Program} {w : World} {A : Around} {E : Value → Shared → Prop} {s : Shared} {h₀ : Heap} {L : Addr} {m : Str → Option Value} {env : Env}
theorem cmp_eval0 {elt target iter : PySem.Expr} {scope : Scope} {cl : List (Str × Addr)} {pos : Pos} {Q : Value → Shared → Prop} (F₀ : Fr h₀ L s.heap m)
    (hclos : closureFor scope env = pure cl) (hcell : ∀ y ∈ scope.names, y.2 ≠ .cell) (hkind : scope.kind = .function) (hnames : ∀ y ∈ scope.names, y.2 = .local → scope.names.lookup y.1 = some .local)
    (h : wpAny (model prog w) A (eval iter env) (CmpSrc prog w A h₀ L m env target none elt scope cl (fun s₂ => FinE h₀ L m s₂ Q)) E s)
    (hs : ∀ x, foldedSetIterable iter env x = pure x := by intro _; rfl) :
    wpAny (model prog w) A (eval (.ListComp elt [⟨target, iter, [], 0⟩] scope pos) env) Q E s := cmp_eval (c := none) F₀ hclos hcell hkind hnames h hs
theorem cmp_eval1 {elt target iter c : PySem.Expr} {scope : Scope} {cl : List (Str × Addr)} {pos : Pos} {Q : Value → Shared → Prop} (F₀ : Fr h₀ L s.heap m)
    (hclos : closureFor scope env = pure cl) (hcell : ∀ y ∈ scope.names, y.2 ≠ .cell) (hkind : scope.kind = .function) (hnames : ∀ y ∈ scope.names, y.2 = .local → scope.names.lookup y.1 = some .local)
    (h : wpAny (model prog w) A (eval iter env) (CmpSrc prog w A h₀ L m env target (some c) elt scope cl (fun s₂ => FinE h₀ L m s₂ Q)) E s)
    (hs : ∀ x, foldedSetIterable iter env x = pure x := by intro _; rfl) :
    wpAny (model prog w) A (eval (.ListComp elt [⟨target, iter, [c], 0⟩] scope pos) env) Q E s := cmp_eval (c := some c) F₀ hclos hcell hkind hnames h hs
theorem cmp_assign0 {elt target iter : PySem.Expr} {y : Str} {py : Pos} {scope : Scope} {cl : List (Str × Addr)} {pos spos : Pos} {Q : Flow → Shared → Prop} (F₀ : Fr h₀ L s.heap m) (hLe : env.locals = L)
    (hsw : swapsWith (.ListComp elt [⟨target, iter, [], 0⟩] scope pos) (some (.Name y py)) spos.line env = pure true)
    (hclos : closureFor scope env = pure cl) (hcell : ∀ z ∈ scope.names, z.2 ≠ .cell) (hkind : scope.kind = .function)
    (hnames : ∀ z ∈ scope.names, z.2 = .local → scope.names.lookup z.1 = some .local)
    (hy : env.kindOf y = some .local) (hp : (env.scope.kind == .class || (env.scope.kind == .module && env.locals != env.globals)) = false)
    (h : wpAny (model prog w) A (eval iter env) (CmpSrc prog w A h₀ L m env target none elt scope cl (fun s₂ => FinA h₀ L m s₂ y Q)) E s)
    (hs : ∀ x, foldedSetIterable iter env x = pure x := by intro _; rfl) :
    wpAny (model prog w) A (exec (.Assign [.Name y py] (.ListComp elt [⟨target, iter, [], 0⟩] scope pos) spos) env) Q E s := cmp_assign (c := none) F₀ hLe hsw hclos hcell hkind hnames hy hp h hs
theorem cmp_assign1 {elt target iter c : PySem.Expr} {y : Str} {py : Pos} {scope : Scope} {cl : List (Str × Addr)} {pos spos : Pos} {Q : Flow → Shared → Prop} (F₀ : Fr h₀ L s.heap m) (hLe : env.locals = L)
    (hsw : swapsWith (.ListComp elt [⟨target, iter, [c], 0⟩] scope pos) (some (.Name y py)) spos.line env = pure true)
    (hclos : closureFor scope env = pure cl) (hcell : ∀ z ∈ scope.names, z.2 ≠ .cell) (hkind : scope.kind = .function)
    (hnames : ∀ z ∈ scope.names, z.2 = .local → scope.names.lookup z.1 = some .local)
    (hy : env.kindOf y = some .local) (hp : (env.scope.kind == .class || (env.scope.kind == .module && env.locals != env.globals)) = false)
    (h : wpAny (model prog w) A (eval iter env) (CmpSrc prog w A h₀ L m env target (some c) elt scope cl (fun s₂ => FinA h₀ L m s₂ y Q)) E s)
    (hs : ∀ x, foldedSetIterable iter env x = pure x := by intro _; rfl) :
    wpAny (model prog w) A (exec (.Assign [.Name y py] (.ListComp elt [⟨target, iter, [c], 0⟩] scope pos) spos) env) Q E s := cmp_assign (c := some c) F₀ hLe hsw hclos hcell hkind hnames hy hp h hs
/-- the turn of a comprehension that makes nothing -/
theorem CmpEnd.intro {s₂ : Shared} {wr : List Addr} {own : Led} {C D : Addr} {J : Led → Prop} {ys : List Value} {h' : Heap} {tk : Nat} {oC : Obj} {m'' : Str → Option Value} {all : Led} (news' : Led) (F : Fr h₀ L h' m) (hoC : NsObj oC m'') (N : News h₀ L h' all) (sub : ∀ p ∈ (C, oC) :: (D, lst ys) :: (news' ++ own), p ∈ all) (off : ∀ p ∈ news', p.1 ≠ C ∧ p.1 ≠ D ∧ p.1 ∉ wr) (hJ : J news') :
    CmpEnd h₀ L m s₂ wr own C D J ys { s₂ with heap := h', toks := tk } := ⟨h', tk, oC, m'', news', rfl, F, hoC, fun p hp => N p (sub p hp), off, hJ⟩
theorem CmpTurn.none {elt : PySem.Expr} {scope : Scope} {cl : List (Str × Addr)} {s₂ : Shared} {fp wr : List Addr} {J : Nat → List Value → Led → Prop} {i : Nat} {Look : (Str → Option Value) → Prop}
    (h : ∀ C oC D m' ys news₁ h tk own (E' : Value → Shared → Prop), J i ys news₁ → ys.length ≤ i → NsObj oC m' → Look m' → Fr h₀ L h m → News h₀ L h ((C, oC) :: (D, lst ys) :: (news₁ ++ own)) → (∀ p ∈ news₁, p.1 ≠ C ∧ p.1 ≠ D ∧ p.1 ∉ wr) → (∀ p ∈ own, p.1 ∈ fp) → (@Ne Nat C D) → C ∉ fp → D ∉ fp → (∀ b ∈ wr, ∃ o, (b, o) ∈ own) →
      wpAny (model prog w) A (eval elt (compEnvC scope cl C env)) (fun y s₅ => CmpEnd h₀ L m s₂ wr own C D (J (i + 1) (ys ++ [y])) ys s₅) E' { s₂ with heap := h, toks := tk }) : CmpTurn prog w A h₀ L m env none elt scope cl s₂ fp wr J i Look := by
  intro C oC D m' ys news₁ h' tk own E' a1 a2 a3 a4 a5 a6 a7 a8 a9 a10 a11 a12
  exact h C oC D m' ys news₁ h' tk own E' a1 a2 a3 a4 a5 a6 a7 a8 a9 a10 a11 a12
theorem CmpTurn.test {c elt : PySem.Expr} {scope : Scope} {cl : List (Str × Addr)} {s₂ : Shared} {fp wr : List Addr} {J : Nat → List Value → Led → Prop} {i : Nat} {Look : (Str → Option Value) → Prop}
    (h : ∀ C oC D m' ys news₁ h tk own (E' : Value → Shared → Prop), J i ys news₁ → ys.length ≤ i → NsObj oC m' → Look m' → Fr h₀ L h m → News h₀ L h ((C, oC) :: (D, lst ys) :: (news₁ ++ own)) → (∀ p ∈ news₁, p.1 ≠ C ∧ p.1 ≠ D ∧ p.1 ∉ wr) → (∀ p ∈ own, p.1 ∈ fp) → (@Ne Nat C D) → C ∉ fp → D ∉ fp → (∀ b ∈ wr, ∃ o, (b, o) ∈ own) →
      wpAny (model prog w) A (isTrue c (compEnvC scope cl C env) (eval c (compEnvC scope cl C env))) (fun ok s₄ => if ok = true then
        wpAny (model prog w) A (eval elt (compEnvC scope cl C env)) (fun y s₅ => CmpEnd h₀ L m s₂ wr own C D (J (i + 1) (ys ++ [y])) ys s₅) E' s₄
        else CmpEnd h₀ L m s₂ wr own C D (J (i + 1) ys) ys s₄) E' { s₂ with heap := h, toks := tk }) : CmpTurn prog w A h₀ L m env (some c) elt scope cl s₂ fp wr J i Look := h
end
section
variable {prog : Program} {w : World} {A : Around} {s₁ : Shared} {h₀ : Heap} {L : Addr} {m : Str → Option Value} {env : Env} {c : Option PySem.Expr} {elt : PySem.Expr} {scope : Scope} {cl : List (Str × Addr)} {FinS : Shared → List Value → Led → Prop} {news : Led}
theorem src_bytesK {x : Str} {px : Pos} {b : Array UInt8} {t : Tok} {ks : List Int} (J : Led → List Int → Nat → List Value → Led → Prop) (hh : A.handled = none) (hk : KBw.bInts b = ks) (hz : ks.length ≤ 4096) (F : Fr h₀ L s₁.heap m) (N : News h₀ L s₁.heap news) (hkind : scope.kind = .function) (hx : scope.names.lookup x = some .local) (hJ : J news ks 0 [] news)
    (turn : ∀ s₂ i k t I, ks[i]? = some k → 0 ≤ k → k < 256 → (∃ g, s₂ = { s₁ with heap := g }) → (∀ p ∈ news, p.1 < I) → CmpTurn prog w A h₀ L m env c elt scope cl s₂ [I] [I] (J news ks) i (fun m' => m' x = some (.int k t)))
    (fin : ∀ g ys news', J news ks ks.length ys news' → FinS { s₁ with heap := g } ys news') : CmpSrc prog w A h₀ L m env (.Name x px) c elt scope cl FinS (.bytes b t) s₁ := src_bytes (J news ks) hh hk hz F N hkind hx hJ turn fin
theorem src_listK {x : Str} {px : Pos} {ax : Addr} {vs : List Value} {n : Nat} (J : Led → List Value → Nat → List Value → Led → Prop) (hh : A.handled = none) (F : Fr h₀ L s₁.heap m) (N : News h₀ L s₁.heap news) (hm : (ax, W.listOf vs.toArray n) ∈ news) (hz : vs.length ≤ 4096) (hkind : scope.kind = .function) (hx : scope.names.lookup x = some .local) (hJ : J news vs 0 [] news)
    (turn : ∀ s₂ i v I, vs[i]? = some v → (∃ g, s₂ = { s₁ with heap := g }) → (∀ p ∈ news, p.1 < I) → CmpTurn prog w A h₀ L m env c elt scope cl s₂ [I, ax] [I] (J news vs) i (fun m' => m' x = some v))
    (fin : ∀ g ys news', J news vs vs.length ys news' → FinS { s₁ with heap := g } ys news') : CmpSrc prog w A h₀ L m env (.Name x px) c elt scope cl FinS (.ref ax) s₁ := src_list (J news vs) hh hm hz F N hkind hx hJ turn fin
end
theorem CmpEnd.mk2 {h₀ : Heap} {L : Addr} {m : Str → Option Value} {s₂ : Shared} {wr : List Addr} {own : Led} {C D : Addr} {J : Led → Prop} {ys : List Value} {h' : Heap} {tk : Nat} {oC : Obj} {m'' : Str → Option Value} {all : Led} {news' : Led} (hJ : J news') (off : ∀ p ∈ news', p.1 ≠ C ∧ p.1 ≠ D ∧ p.1 ∉ wr) (hoC : NsObj oC m'') (F : Fr h₀ L h' m) (N : News h₀ L h' all) (sub : ∀ p ∈ (C, oC) :: (D, lst ys) :: (news' ++ own), p ∈ all) :
    CmpEnd h₀ L m s₂ wr own C D J ys { s₂ with heap := h', toks := tk } := ⟨h', tk, oC, m'', news', rfl, F, hoC, fun p hp => N p (sub p hp), off, hJ⟩
end Pb93
end
section
open PySem PySem.W PyProof.Rows PySem.Spec PySem.Calls
namespace Pb93
open Builtin
section
variable {b c : Array UInt8} {t u : Tok} {k : Int}
theorem indexi_eq : asIndex (.int k u) = pure k := by kernel_rfl!
theorem cont_ints (h0 : 0 ≤ k) (h1 : k < 256) : b.contains k.toNat.toUInt8 = (KBw.bInts b).contains k := by
  have e : ((k.toNat.toUInt8.toNat : Nat) : Int) = k := byte_back h0 h1
  rw [Bool.eq_iff_iff, Array.contains_iff_mem, List.contains_iff_mem]
  unfold KBw.bInts
  rw [List.mem_map]
  constructor
  · intro h
    exact ⟨_, by simpa using h, e⟩
  · rintro ⟨c, hc, e2⟩
    have : c = k.toNat.toUInt8 := byte_inj.mp (by rw [e2, e])
    rw [← this]; simpa using hc
end
section
variable {prog : Program} {w : World} {A : Around} {E : Value → Shared → Prop} {s : Shared} {b c : Array UInt8} {t u : Tok} {k : Int} {h₀ : Heap} {L : Addr} {m : Str → Option Value} {news : Led}
theorem contains_bi {Q : Fin → Shared → Prop} (h0 : 0 ≤ k) (h1 : k < 256) (h : Q (.done (.ret (.bool ((KBw.bInts b).contains k)))) s) : wpAny (model prog w) A («bytes.__contains__» ⟨[.bytes b t, .int k u], []⟩) Q E s := by
  show wpAny _ _ (Bytes.containsIn "bytes.__contains__" (.bytes b t) (.int k u) >>= fun r => ret (.bool r)) _ _ _
  refine wpAny_bind ?_
  unfold Bytes.containsIn
  refine wpAny_bind (wpAny_attempt ?_)
  refine wpAny_of_eq indexi_eq ?_
  refine wpAny_bind (wpAny_of_eq KBy.buffer_eq ?_)
  dsimp only
  rw [if_neg (by simp; omega), cont_ints h0 h1]
  exact wpAny_pure (wpAny_pure h)
theorem notin_int {Q : Value → Shared → Prop} (h0 : 0 ≤ k) (h1 : k < 256) (h : Q (.bool (!(KBw.bInts b).contains k)) s) : wpAny (model prog w) A (compareOp .NotIn (.int k u) (.bytes b t)) Q E s := by
  show wpAny _ _ (do return .bool (!(← contains (.bytes b t) (.int k u)))) Q E s
  refine wpAny_bind (wpAny_contains_slot (typeIs_bytes _ _ _) FB.slot_bytes_contains (wpAny_call_entry FB.slot_bytes_contains (typeIs_bytes _ _ _) FB.entry_bytes_contains ?_ (FB.args_bytes_contains_2 _ _)))
  exact contains_bi h0 h1 ⟨_, rfl, wpAny_truthy_bool (wpAny_pure h)⟩
theorem in_bytes {Q : Value → Shared → Prop} (hh : A.handled = none) (F : Fr h₀ L s.heap m) (N : News h₀ L s.heap news)
    (h : ∀ h' tk, Fr h₀ L h' m → News h₀ L h' news → Q (.bool (Bytes.find? b c 0 b.size).isSome) { s with heap := h', toks := tk }) : wpAny (model prog w) A (compareOp .In (.bytes c u) (.bytes b t)) Q E s := by
  show wpAny _ _ (do return .bool (← contains (.bytes b t) (.bytes c u))) Q E s
  refine wpAny_bind (wpAny_contains_slot (typeIs_bytes _ _ _) FB.slot_bytes_contains (wpAny_call_entry FB.slot_bytes_contains (typeIs_bytes _ _ _) FB.entry_bytes_contains ?_ (FB.args_bytes_contains_2 _ _)))
  refine contains_bb (by exact hh) F N fun h' tk F' N' => ?_
  exact ⟨_, rfl, wpAny_truthy_bool (wpAny_pure (h h' tk F' N'))⟩
end
theorem find_one : ∀ (l : List UInt8) (x : UInt8), ((List.range l.length).find? fun i => decide (l[i]? = some x)) = l.findIdx? (· == x)
  | [], _ => rfl
  | a :: l, x => by
    have e : ∀ r : List Nat, ((r.map Nat.succ).find? fun i => decide ((a :: l)[i]? = some x)) = (r.find? fun i => decide (l[i]? = some x)).map Nat.succ := fun r => by
      rw [List.find?_map]
      rfl
    rw [List.length_cons, List.range_succ_eq_map, List.find?_cons, e, find_one l x, List.findIdx?_cons]
    by_cases h : a = x
    · subst h; simp
    · have h1 : decide ((a :: l)[0]? = some x) = false := decide_eq_false (by simpa using h)
      have h2 : (a == x) = false := beq_eq_false_iff_ne.mpr h
      rw [h1, h2]; rfl
theorem ext_one (b : Array UInt8) (x : UInt8) (i : Nat) : (b.extract i (i + 1) == #[x]) = decide (b.toList[i]? = some x) := by
  rw [Bool.eq_iff_iff, decide_eq_true_eq, beq_iff_eq, ← Array.toList_inj, Array.toList_extract, List.extract_eq_take_drop, show i + 1 - i = 1 by omega]
  show List.take 1 (List.drop i b.toList) = [x] ↔ _
  by_cases h : i < b.toList.length
  · rw [List.drop_eq_getElem_cons h, List.getElem?_eq_getElem h]
    simp
  · rw [List.drop_eq_nil_of_le (Nat.not_lt.mp h), List.getElem?_eq_none (Nat.not_lt.mp h)]
    simp
theorem idx_ints (b : Array UInt8) (x : UInt8) : b.toList.findIdx? (· == x) = (KBw.bInts b).findIdx? (· == (x.toNat : Int)) := by
  unfold KBw.bInts
  rw [List.findIdx?_map]
  congr 1
  funext c
  rw [Bool.eq_iff_iff, beq_iff_eq]
  show _ ↔ ((c.toNat : Int) == (x.toNat : Int)) = true
  rw [beq_iff_eq, byte_inj]
theorem find_is (b : Array UInt8) (x : UInt8) : Bytes.find? b #[x] 0 b.size = (KBw.bInts b).findIdx? (· == (x.toNat : Int)) := by
  unfold Bytes.find?
  rw [← idx_ints, ← find_one, Array.length_toList]
  have : (List.map (fun x => x + 0) (List.range (b.size + 1 - (0 + (#[x] : Array UInt8).size)))) = List.range b.size := by
    rw [show (#[x] : Array UInt8).size = 1 from rfl, show b.size + 1 - (0 + 1) = b.size by omega]
    simp
  rw [this]
  congr 1
  funext i
  exact ext_one b x i
section
variable {prog : Program} {w : World} {A : Around} {E : Value → Shared → Prop} {s : Shared} {b : Array UInt8} {t u : Tok} {ks : List Int} {n : Nat}
theorem find_run {Q : Fin → Shared → Prop} {x : UInt8} (hi : (KBw.bInts b).findIdx? (· == (x.toNat : Int)) = some n) (h : ∀ t' k, Q (.done (.ret (.int n t'))) { s with toks := k }) : wpAny (model prog w) A («bytes.find» ⟨[.bytes b t, .bytes #[x] u], []⟩) Q E s := by
  show wpAny _ _ (Bytes.searchArgs .bytes "find" _ >>= _) _ _ _
  rw [search_eq]
  refine wpAny_bind (wpAny_pure ?_)
  dsimp only
  have hn : n < (KBw.bInts b).length := by
    obtain ⟨h, _⟩ := List.findIdx?_eq_some_iff_getElem.mp hi; exact h
  rw [KBw.ints_length] at hn
  rw [win]
  dsimp only
  rw [if_neg (by rw [show (#[x] : Array UInt8).size = 1 from rfl]; omega)]
  dsimp only [Option.bind]
  rw [if_neg Bool.false_ne_true]
  rw [show Int.toNat 0 = 0 from rfl, show Int.toNat (b.size : Int) = b.size from rfl, find_is, hi]
  exact wpAny_bind (wpAny_mkInt (wpAny_pure (h _ _)))
theorem index_run {Q : Fin → Shared → Prop} {x : UInt8} (hi : (KBw.bInts b).findIdx? (· == (x.toNat : Int)) = some n) (h : ∀ t' k, Q (.done (.ret (.int n t'))) { s with toks := k }) : wpAny (model prog w) A («bytes.index» ⟨[.bytes b t, .bytes #[x] u], []⟩) Q E s := by
  show wpAny _ _ (Bytes.searchArgs .bytes "index" _ >>= _) _ _ _
  rw [search_eq2]
  refine wpAny_bind (wpAny_pure ?_)
  dsimp only
  have hn : n < (KBw.bInts b).length := by
    obtain ⟨h, _⟩ := List.findIdx?_eq_some_iff_getElem.mp hi; exact h
  rw [KBw.ints_length] at hn
  rw [win]
  dsimp only
  rw [if_neg (by rw [show (#[x] : Array UInt8).size = 1 from rfl]; omega)]
  dsimp only [Option.bind]
  rw [if_neg Bool.false_ne_true]
  rw [show Int.toNat 0 = 0 from rfl, show Int.toNat (b.size : Int) = b.size from rfl, find_is, hi]
  exact wpAny_bind (wpAny_mkInt (wpAny_pure (h _ _)))
theorem call_find {Q : Value → Shared → Prop} {x : UInt8} {x' : Int} (hx : (x.toNat : Int) = x') (hk : KBw.bInts b = ks) (hi : ks.findIdx? (· == x') = some n) (h : ∀ t' k, Q (.int n t') { s with toks := k }) : wpAny (model prog w) A (call (.builtin "bytes.find") [.bytes b t, .bytes #[x] u]) Q E s := by
  subst hx hk
  exact call_meets (S := fun _ R s => ∀ t' k, R (.ok (.ret (.int n t'))) { s with toks := k }) slot_find (typeIs_bytes _ _ _) entry_find (args_find _ _) (.of_wp fun prog w A R s hS => find_run hi fun t' k => ⟨_, rfl, hS t' k⟩) h
theorem call_index {Q : Value → Shared → Prop} {x : UInt8} {x' : Int} (hx : (x.toNat : Int) = x') (hk : KBw.bInts b = ks) (hi : ks.findIdx? (· == x') = some n) (h : ∀ t' k, Q (.int n t') { s with toks := k }) : wpAny (model prog w) A (call (.builtin "bytes.index") [.bytes b t, .bytes #[x] u]) Q E s := by
  subst hx hk
  exact call_meets (S := fun _ R s => ∀ t' k, R (.ok (.ret (.int n t'))) { s with toks := k }) slot_index (typeIs_bytes _ _ _) entry_index (args_index _ _) (.of_wp fun prog w A R s hS => index_run hi fun t' k => ⟨_, rfl, hS t' k⟩) h
end
end Pb93
end
section
open PySem PySem.W PyProof.Rows PySem.Spec PySem.Calls
namespace Pb93
section
variable {prog : Program} {w : World} {A : Around} {E : Value → Shared → Prop} {s : Shared} {env : Env} {h₀ : Heap} {body : List Stmt} {Q : Flow → Shared → Prop} {m : Str → Option Value} {news : Led}
/-- a for over a list of the ledger, by what holds between its turns (the ledger may grow) -/
theorem turns_list {x : Str} {px : Pos} {ax : Addr} {vs : List Value} {n : Nat} (J : Nat → (Str → Option Value) → Led → Prop) (hh : A.handled = none) (F : Fr h₀ env.locals s.heap m) (N : News h₀ env.locals s.heap news) (hm : (ax, W.listOf vs.toArray n) ∈ news) (hx : env.kindOf x = some .local) (hp : (env.scope.kind == .class || (env.scope.kind == .module && env.locals != env.globals)) = false) (hJ : J 0 m news)
    (turn : ∀ i v m₁ news₁ h tk own I s₂, vs[i]? = some v → J i m₁ news₁ → (∀ p ∈ own, p.1 ∈ [I, ax]) → (∃ o, (I, o) ∈ own) → (∀ p ∈ news₁, p.1 ∉ [I]) → (∀ p ∈ news, p.1 < I) → (∃ g tk', s₂ = { s with heap := g, toks := tk' }) → Fr h₀ env.locals h (fun y => if y = x then some v else m₁ y) → News h₀ env.locals h (news₁ ++ own) →
      wpAny (model prog w) A (execs body env) (LoopStepV h₀ env.locals [I] own (J (i + 1)) s₂ (fun v s' => Q (.ret v) s') fun s' => Q .next s') E { s₂ with heap := h, toks := tk })
    (done : ∀ m₁ news₁ h tk, J vs.length m₁ news₁ → Fr h₀ env.locals h m₁ → News h₀ env.locals h news₁ → Q .next { s with heap := h, toks := tk }) :
    wpAny (model prog w) A (pyIter (.ref ax)) (fun it s₂ => TurnsAt prog w A h₀ env (.Name x px) body Q E it s₂) E s := by
  have hl : s.heap.IsList ax vs.toArray := ⟨_, (N _ hm).1, rfl, n, rfl⟩
  have hlt : ax < s.heap.objs.size := Heap.lt_size (N _ hm).1
  refine wpAny_pyIter_list hl ?_
  refine ⟨s.heap.objs.size, [s.heap.objs.size, ax], [s.heap.objs.size], vs.length, _, _, _, m, news, J, rfl, KTurns.ofWalks (Walks.list hh s.heap.objs.size ax (Nat.ne_of_lt hlt) vs.toArray) (fun i v s Q E st q => letGo_listiter st.1 q), ?_, ?_, ?_, ⟨⟨_, Heap.get?_push_size _ rfl, rfl, rfl⟩, hl.push _⟩, F.push _, fun p hp => ⟨Heap.get?_push_of_some _ (N p hp).1, (N p hp).2⟩, hJ, ?_, ?_⟩
  · intro hI
    rcases List.mem_cons.mp hI with e | hI
    · exact absurd F.ns.lt (e ▸ Nat.lt_irrefl _)
    · exact (N _ hm).2.1 (List.mem_singleton.mp hI).symm
  · intro b hb
    rw [List.mem_singleton.mp hb]; exact next_is_new F
  · exact fun p hp hI => absurd (Heap.lt_size (N p hp).1) ((List.mem_singleton.mp hI) ▸ Nat.lt_irrefl _)
  · intro i v m₁ news₁ h₁ tk₁ own hi hv hJ' hoff hown hget hall hst F₁ N₁
    have hv' : vs.toArray[i]? = some v := hv
    refine wpAny_assign_Name (wpAny_storeName_local hx F₁.ns (fun h₃ hn₃ hs₃ => ?_) hp)
    have hL₀ : h₀.get? env.locals = none := Heap.get?_none_of_le F₁.above
    have hI : ∃ o, (s.heap.objs.size, o) ∈ own := by
      obtain ⟨⟨o, ho, _⟩, _⟩ := hst
      exact ⟨o, hall _ List.mem_cons_self (next_is_new F) o ho⟩
    refine turn i v m₁ news₁ h₃ _ own s.heap.objs.size _ (by simpa using hv') hJ' hown hI hoff (fun p hp => Heap.lt_size (N p hp).1) ⟨_, _, rfl⟩ ⟨hn₃, fun b o e => hs₃.extBut b o (fun q => by rw [q, hL₀] at e; cases e) (F₁.keep b o e), F₁.above⟩ fun p hp => ?_
    have z := N₁ p (by rcases List.mem_append.mp hp with q | q; exact List.mem_append_right _ q; exact List.mem_append_left _ q)
    exact ⟨hs₃.extBut _ _ z.2.1 z.1, z.2⟩
  · intro h' tk m' news' F' N' _ hj
    exact done m' news' h' tk hj F' N'
/-- a for over zip of two lists of the ledger -/
theorem turns_zip {a b : Str} {pa pb tp : Pos} {kk : Nat} {z I l1 l2 : Addr} {xs zs : List Value} (J : Nat → (Str → Option Value) → Led → Prop) (hh : A.handled = none) (Z : ZipIs h₀ env.locals s.heap z I l1 l2 xs zs news) (F : Fr h₀ env.locals s.heap m) (N : News h₀ env.locals s.heap news) (hxa : env.kindOf a = some .local) (hxb : env.kindOf b = some .local) (hp : (env.scope.kind == .class || (env.scope.kind == .module && env.locals != env.globals)) = false) (hJ : J 0 m news)
    (turn : ∀ i x y m₁ news₁ h tk own s₂, xs[i]? = some x → zs[i]? = some y → J i m₁ news₁ → (∀ p ∈ own, p.1 ∈ [I + 4, I + 2, I + 3, I, I + 1, l1, l2]) → (∀ p ∈ news₁, p.1 ∉ [I + 4, I + 3, I, I + 1]) → (∃ g tk', s₂ = { s with heap := g, toks := tk' }) → Fr h₀ env.locals h (fun w => if w = b then some y else if w = a then some x else m₁ w) → News h₀ env.locals h (news₁ ++ own) →
      wpAny (model prog w) A (execs body env) (LoopStepV h₀ env.locals [I + 4, I + 3, I, I + 1] own (J (i + 1)) s₂ (fun v s' => Q (.ret v) s') fun s' => Q .next s') E { s₂ with heap := h, toks := tk })
    (done : ∀ m₁ news₁ h tk, J (min xs.length zs.length) m₁ news₁ → Fr h₀ env.locals h m₁ → News h₀ env.locals h news₁ → Q .next { s with heap := h, toks := tk }) :
    wpAny (model prog w) A (pyIter (.ref z)) (fun it s₂ => TurnsAt prog w A h₀ env (.Tuple [.Name a pa, .Name b pb] kk tp) body Q E it s₂) E s := by
  obtain ⟨rfl, hz1, hTI, hTO, hi1, hi2, hl1, hl2, lt1, lt2, ltL, ltN, hsize, hnew, nL1, nL2⟩ := Z
  refine wpAny_pyIter_zip hz1 ?_
  refine ⟨I + 4, [I + 4, I + 2, I + 3, I, I + 1, l1, l2], [I + 4, I + 3, I, I + 1], min xs.toArray.size zs.toArray.size, _, _, _, m, news, J, rfl, KTurns.ofWalksU (WalksT.zip2 hh _ _ _ _ _ _ _ (ktu_apart _ _ _ lt1 lt2) xs.toArray zs.toArray).toU, ?_, ?_, ?_, ⟨hz1, hTI, ⟨_, _, hTO⟩, hi1, hi2, hl1, hl2⟩, F, N, hJ, ?_, ?_⟩
  · intro hb
    rcases zip_fp hb with e | e | hb
    · exact nL1 e.symm
    · exact nL2 e.symm
    · exact Nat.lt_irrefl _ (Nat.lt_of_lt_of_le ltL hb.1)
  · intro b hb
    refine hnew b ?_
    simp only [List.mem_cons, List.not_mem_nil, or_false] at hb
    rcases hb with rfl | rfl | rfl | rfl
    · exact Nat.le_add_right _ _
    · exact Nat.le_add_right _ _
    · exact Nat.le_refl _
    · exact Nat.le_add_right _ _
  · intro p hp hb
    have : I ≤ p.1 := by
      simp only [List.mem_cons, List.not_mem_nil, or_false] at hb
      rcases hb with e | e | e | e <;> rw [e]
      · exact Nat.le_add_right _ _
      · exact Nat.le_add_right _ _
      · exact Nat.le_refl _
      · exact Nat.le_add_right _ _
    exact Nat.lt_irrefl _ (Nat.lt_of_lt_of_le (ltN p hp) this)
  · rintro i v m₁ news₁ h₁ tk₁ own hi ⟨T, vals, rfl, ⟨x, y, hx, hy, rfl⟩, hT⟩ hJ' hoff hown hget hall hst F₁ N₁
    have hL₀ : h₀.get? env.locals = none := Heap.get?_none_of_le F₁.above
    refine kcp_assign hh hT hxa hxb hp F₁.ns fun h₃ tk₃ hn₃ hk₃ => ?_
    refine turn i x y m₁ news₁ h₃ tk₃ own _ (by simpa using hx) (by simpa using hy) hJ' hown hoff ⟨_, _, rfl⟩ ⟨hn₃, fun c o e => hk₃ c o (fun q => by rw [q, hL₀] at e; cases e) (F₁.keep c o e), F₁.above⟩ fun p hp => ?_
    have z := N₁ p (by rcases List.mem_append.mp hp with q | q; exact List.mem_append_right _ q; exact List.mem_append_left _ q)
    exact ⟨hk₃ _ _ z.2.1 z.1, z.2⟩
  · intro h' tk m' news' F' N' _ hj
    rw [List.size_toArray, List.size_toArray] at hj
    exact done m' news' h' tk hj F' N'
/-- where a turn of such a loop leaves its state -/
theorem turn_end {L : Addr} {wr : List Addr} {own : Led} {Jn : (Str → Option Value) → Led → Prop} {s₁ : Shared} {h' : Heap} {tk : Nat} {m₂ : Str → Option Value} {news₂ all : Led} (hJ : Jn m₂ news₂) (F : Fr h₀ L h' m₂) (N : News h₀ L h' all) (off : ∀ p ∈ news₂, p.1 ∉ wr) (sub : ∀ p ∈ news₂, p ∈ all) (ho : ∀ p ∈ own, p ∈ all) : LoopStepU h₀ L wr own Jn s₁ .next { s₁ with heap := h', toks := tk } :=
  .intro F (fun p hp => by
    rcases List.mem_append.mp hp with q | q
    · exact N p (ho p q)
    · exact N p (sub p q)) off hJ
end
end Pb93
end
section
open PySem PySem.W PyProof.Rows PySem.Spec PySem.Calls
namespace Pb93
/-- Con of the clean stacks -/
def ConK (w : World) (f : Addr) (vs : List Value) (led : Led) (dn un' : Nat) (Post : Value → Led → Prop) : Prop :=
  ∀ (mean : ExcName → Option Value) (mg mb : Str → Option Value) (dp un : Nat) (gd : Option (List Code)) (cn : Str) (cs : Scope) (a : Addr) (ccd : Value) (cl : List (Str × Addr)) (outer : List Env) (A₀ : Around) (base h₀ : Heap) (L : Addr) (m : Str → Option Value) (s : Shared) (Q E : Value → Shared → Prop),
    Below A₀ base outer h₀ → Fr h₀ L s.heap m → (K w.params).In h₀ → News h₀ L s.heap led → Tp mean mg mb h₀ → cs.kind = .function → dp + dn < recursionLimit → un + un' < cLine →
    (∀ r new h' tk', Kept led s.heap h' → Fresh led s.heap h' new → Post r new → Q r { s with heap := h', toks := tk' }) →
    wpS (model pw w) (ktrTop dp un gd cn cs L a ccd cl outer) (call (.ref f) vs) Q E s
theorem con_enterK {w : World} {f : Addr} {vs : List Value} {led : Led} {dn un' : Nat} {Post : Value → Led → Prop} {i : Nat} {nm : Str} {c : Addr} {pm : Value} {params : Arguments} {body : List Stmt} {scope : Scope} (binds : List (Str × Value))
    (hp : part i = (params, body, scope))
    (ho : (K w.params).lookup f = some ⟨.type "function", none, .func (fnOf nm nm (part i).1 (part i).2.1 (part i).2.2 .none .none .none pm none (.ref c) .none), #[]⟩)
    (hcd : codeIn (K w.params) (.ref c) nm = true)
    (hbind : bindArgs (fnOf nm nm params body scope .none .none .none pm none (.ref c) .none) ⟨vs, []⟩ = pure binds)
    (hloc : (binds.all fun x => decide (scope.names.lookup x.1 = some .local)) = true)
    (h : ∀ (mean : ExcName → Option Value) (mg mb : Str → Option Value) (dp un : Nat) (gd : Option (List Code)) (cn : Str) (cs : Scope) (a : Addr) (ccd : Value) (cl : List (Str × Addr)) (outer : List Env) (base : Heap) (L : Addr) (s : Shared),
      dp + dn < recursionLimit → un + un' < cLine →
      ∀ g L' h₁, Fr g L' h₁ (fun y => binds.reverse.lookup y) → News g L' h₁ led → Below (ktrTop dp un gd cn cs L a ccd cl outer) base (envX cn cs L a ccd cl :: outer) g → (K w.params).In g → Tp mean mg mb g →
      wpS (model pw w) ((ktrTop dp un gd cn cs L a ccd cl outer).deeper (envOf nm scope L' f (.ref c))) (execs body (envOf nm scope L' f (.ref c)))
        (fun fl s' => LeaveC g s Post (match fl with | .ret v => v | _ => .none) s')
        (fun _ _ => False)
        { s with heap := h₁, toks := s.toks + binds.length })
    (hdn : 0 < dn := by decide) (hco : scope.isCoroutine = false := by rfl) (hgen : scope.isGenerator = false := by rfl) (hk : scope.kind = .function := by rfl) (hcell : ∀ x ∈ scope.names, x.2 ≠ .cell := by decide) :
    ConK w f vs led dn un' Post := by
  intro mean mg mb dp un gd cn cs a ccd cl outer A₀ base h₀ L m s Q E B F X N T hkc hd hu hret
  rw [hp] at ho
  refine wpS_call ?_
  obtain ⟨_, BG, st, lv⟩ := groundX (A := ktrTop dp un gd cn cs L a ccd cl outer) (env := envX cn cs L a ccd cl) (R := fun r s' => match r with | .ok (.ret v) => Q v s' | .ok _ => False | .error e => E e s') B F N rfl rfl hkc
  have hide : ∀ b o, s.heap.get? b = some o → b ∉ led.map (·.1) → (hideAll s.heap (led.map (·.1))).get? b = some o := fun b o e n => hideAll_get _ e n
  refine codeS_call_function (by show dp < recursionLimit; omega) ((X.keeps F.keep) _ _ ho) rfl hco hgen rfl (codeRec_of (X.keeps F.keep) hcd) (BindsTo.of_eq hbind _ _ _ _ ?_)
  refine wpAny_newFunctionEnv hcell (locs hloc) (fun h₁ hns hsb => ⟨(T.nolimit.keeps F.keep).fresh _ hsb, codeS_func ?_⟩) hk
  have hk₁ : ∀ b o, s.heap.get? b = some o → h₁.get? b = some o := fun b o e => hsb.extBut b o (Nat.ne_of_lt (Heap.lt_size e)) (Heap.get?_push_of_some _ e)
  refine wpS_mono (h mean mg mb dp un gd cn cs a ccd cl outer base L s hd hu _ s.heap.objs.size h₁ ⟨hns, fun b o e => hk₁ b o (of_hideAll _ e), Nat.le_of_eq (hideAll_size _ _)⟩
    (fun p hp => ⟨hk₁ _ _ (N p hp).1, Nat.ne_of_lt (Heap.lt_size (N p hp).1), hideAll_none _ (List.mem_map_of_mem hp)⟩) BG (X.keeps st) (T.keeps st)) (fun fl s' hl => lv _ _ ?_) fun _ _ z => z
  obtain ⟨L₂, m₂, new, h', tk', rfl, F₂, N₂, P⟩ := hl
  refine ⟨L₂, m₂, new, F₂, N₂, fun _ _ => hret _ new h' tk' (fun b x hb e => F₂.keep b x (hide b x e hb)) (fun p hp => ⟨(N₂ p hp).1, fun x e => ?_⟩) P⟩
  by_cases hq : p.1 ∈ led.map (·.1)
  · exact hq
  · have := (N₂ p hp).2.2
    rw [hide p.1 x e hq] at this
    cases this
theorem con_useK {w : World} {f : Addr} {vs : List Value} {led : Led} {dn un' : Nat} {Post : Value → Led → Prop} (C : ConK w f vs led dn un' Post)
    {mean : ExcName → Option Value} {mg mb : Str → Option Value} {dp un : Nat} {gd : Option (List Code)} {cn : Str} {cs : Scope} {a : Addr} {ccd : Value} {cl : List (Str × Addr)} {outer : List Env} {A₀ : Around} {base h₀ : Heap} {L : Addr} {m : Str → Option Value} {s : Shared} {Q E : Value → Shared → Prop} {all rest : Led}
    (B : Below A₀ base outer h₀) (F : Fr h₀ L s.heap m) (X : (K w.params).In h₀) (N : News h₀ L s.heap all) (T : Tp mean mg mb h₀) (hk : cs.kind = .function) (hd : dp + dn < recursionLimit) (hu : un + un' < cLine)
    (s1 : ∀ p ∈ led, p ∈ all) (s2 : ∀ p ∈ rest, p ∈ all) (ap : ApartL led rest)
    (ret : ∀ r new h' tk', Fr h₀ L h' m → News h₀ L h' (new ++ rest) → Fresh led s.heap h' new → Post r new → Q r { s with heap := h', toks := tk' }) :
    wpS (model pw w) (ktrTop dp un gd cn cs L a ccd cl outer) (call (.ref f) vs) Q E s := by
  refine C mean mg mb dp un gd cn cs a ccd cl outer A₀ base h₀ L m s Q E B F X (fun p hp => N p (s1 p hp)) T hk hd hu ?_
  intro r new h' tk' hK hF hP
  have out : ∀ b x, s.heap.get? b = some x → (b = L ∨ (∃ o, h₀.get? b = some o) ∨ b ∉ led.map (·.1)) → b ∉ led.map (·.1) := by
    intro b x e hb hm
    obtain ⟨p, hp, rfl⟩ := List.mem_map.mp hm
    have := N p (s1 p hp)
    rcases hb with hb | ⟨o, hb⟩ | hb
    · exact this.2.1 hb
    · rw [this.2.2] at hb; cases hb
    · exact hb hm
  have F' : Fr h₀ L h' m := ⟨F.ns.at' fun o e => hK L o (out L o e (.inl rfl)) e, fun b o e => hK b o (out b o (F.keep b o e) (.inr (.inl ⟨o, e⟩))) (F.keep b o e), F.above⟩
  refine ret r new h' tk' F' (fun p hp => ?_) hF hP
  rcases List.mem_append.mp hp with hp | hp
  · refine ⟨(hF p hp).1, fun q => ?_, ?_⟩
    · obtain ⟨oL, _, _, e, _⟩ := F.ns
      have hm := (hF p hp).2 oL (by rw [q]; exact e)
      obtain ⟨p', hp', e'⟩ := List.mem_map.mp hm
      exact (N p' (s1 p' hp')).2.1 (e'.trans q)
    · cases q : h₀.get? p.1 with
      | none => rfl
      | some o =>
        have hm := (hF p hp).2 o (F.keep _ _ q)
        obtain ⟨p', hp', e'⟩ := List.mem_map.mp hm
        have := (N p' (s1 p' hp')).2.2
        rw [e', q] at this; cases this
  · exact ⟨hK _ _ (ap p hp) (N p (s2 p hp)).1, (N p (s2 p hp)).2⟩
theorem con_enterCK {w : World} {f : Addr} {vs : List Value} {led : Led} {dn un' : Nat} {Post : Value → Led → Prop} {i : Nat} {nm : Str} {c : Addr} {pm : Value} {params : Arguments} {body : List Stmt} {scope : Scope} (binds : List (Str × Value))
    (hp : part i = (params, body, scope))
    (ho : (K w.params).lookup f = some ⟨.type "function", none, .func (fnOf nm nm (part i).1 (part i).2.1 (part i).2.2 .none .none .none pm none (.ref c) .none), #[]⟩)
    (hcd : codeIn (K w.params) (.ref c) nm = true)
    (hbind : bindArgs (fnOf nm nm params body scope .none .none .none pm none (.ref c) .none) ⟨vs, []⟩ = pure binds)
    (hkind : (binds.all fun y => scope.names.lookup y.1 == some .local || scope.names.lookup y.1 == some .cell) = true)
    (hnd : ((cellsFrom 0 scope.names []).map (·.1)).Nodup)
    (h : ∀ (mean : ExcName → Option Value) (mg mb : Str → Option Value) (dp un : Nat) (gd : Option (List Code)) (cn : Str) (cs : Scope) (a : Addr) (ccd : Value) (cl : List (Str × Addr)) (outer : List Env) (base : Heap) (L : Addr) (s : Shared),
      dp + dn < recursionLimit → un + un' < cLine →
      ∀ g L' h₁ tk cells, Fr g L' h₁ (bindL (envOfC nm scope L' f (.ref c)).kindOf binds fun _ => none) → News g L' h₁ (cells ++ led) →
      CellsAre (bindC (envOfC nm scope L' f (.ref c)).kindOf binds fun _ => none) (cellsFrom (L' + 1) scope.names []) cells → Below (ktrTop dp un gd cn cs L a ccd cl outer) base (envX cn cs L a ccd cl :: outer) g → (K w.params).In g → Tp mean mg mb g → (∀ p ∈ led, p.1 < L') →
      wpS (model pw w) ((ktrTop dp un gd cn cs L a ccd cl outer).deeper (envOfC nm scope L' f (.ref c))) (execs body (envOfC nm scope L' f (.ref c)))
        (fun fl s' => LeaveC g s Post (match fl with | .ret v => v | _ => .none) s')
        (fun _ _ => False)
        { s with heap := h₁, toks := tk })
    (hdn : 0 < dn := by decide) (hco : scope.isCoroutine = false := by rfl) (hgen : scope.isGenerator = false := by rfl) (hk : scope.kind = .function := by rfl) :
    ConK w f vs led dn un' Post := by
  intro mean mg mb dp un gd cn cs a ccd cl outer A₀ base h₀ L m s Q E B F X N T hkc hd hu hret
  rw [hp] at ho
  refine wpS_call ?_
  obtain ⟨_, BG, st, lv⟩ := groundX (A := ktrTop dp un gd cn cs L a ccd cl outer) (env := envX cn cs L a ccd cl) (R := fun r s' => match r with | .ok (.ret v) => Q v s' | .ok _ => False | .error e => E e s') B F N rfl rfl hkc
  refine codeS_call_function (by show dp < recursionLimit; omega) ((X.keeps F.keep) _ _ ho) rfl hco hgen rfl (codeRec_of (X.keeps F.keep) hcd) (BindsTo.of_eq hbind _ _ _ _ ?_)
  refine wpAny_newFunctionEnv_cells hk (kindsX hkind _) fun env' he s' x => ?_
  subst he
  refine ⟨(T.nolimit.keeps F.keep).keeps x.toInCall.keep, codeS_func ?_⟩
  obtain ⟨h₁, tk, rfl, _⟩ := x.done
  have hide : ∀ b o, s.heap.get? b = some o → b ∉ led.map (·.1) → (hideAll s.heap (led.map (·.1))).get? b = some o := fun b o e n => hideAll_get _ e n
  have up := x.toInCall.keep
  obtain ⟨cells, NC, Y⟩ := Cl.news (h₀ := s.heap) (Nat.le_refl _) fun n c hm => ⟨x.cell n c (lookup_of_mem_nodup (cellsFrom_names scope.names 0 (s.heap.objs.size + 1) [] [] rfl ▸ hnd) hm), x.above n c hm⟩
  have NA : News (hideAll s.heap (led.map (·.1))) s.heap.objs.size h₁ (cells ++ led) := by
    intro p hp
    rcases List.mem_append.mp hp with hp | hp
    · refine ⟨(NC p hp).1, (NC p hp).2.1, ?_⟩
      cases q : (hideAll s.heap (led.map (·.1))).get? p.1 with
      | none => rfl
      | some o =>
        have z := of_hideAll _ q
        rw [(NC p hp).2.2] at z
        exact absurd z (by simp)
    · exact ⟨up _ _ (N p hp).1, Nat.ne_of_lt (Heap.lt_size (N p hp).1), hideAll_none _ (List.mem_map_of_mem hp)⟩
  refine wpS_mono (h mean mg mb dp un gd cn cs a ccd cl outer base L s hd hu _ s.heap.objs.size h₁ tk cells ⟨x.toInCall.ns, fun b o e => up b o (of_hideAll _ e), Nat.le_of_eq (hideAll_size _ _)⟩ NA Y BG (X.keeps st) (T.keeps st) fun p hp => Heap.lt_size (N p hp).1) (fun fl s' hl => lv _ _ ?_) fun _ _ z => z
  obtain ⟨L₂, m₂, new, h', tk', rfl, F₂, N₂, P⟩ := hl
  refine ⟨L₂, m₂, new, F₂, N₂, fun _ _ => hret _ new h' tk' (fun b x hb e => F₂.keep b x (hide b x e hb)) (fun p hp => ⟨(N₂ p hp).1, fun x e => ?_⟩) P⟩
  by_cases hq : p.1 ∈ led.map (·.1)
  · exact hq
  · have := (N₂ p hp).2.2
    rw [hide p.1 x e hq] at this
    cases this
end Pb93
end
section
open PySem PySem.W PyProof.Rows PySem.Spec PySem.Calls
namespace Pb93
open Sem (wp)
section
variable {prog : Program} {w : World} {A : Around} {E : Value → Shared → Prop} {s : Shared} {env : Env} {Q : Flow → Shared → Prop}
theorem wpS_execs_nil (h : Q .next s) : wpS (model prog w) A (execs [] env) Q E s := wpS_of (wpAny_execs_nil h)
theorem wpS_execs_cons {st : Stmt} {rest : List Stmt} (h : wpS (model prog w) A (exec st env) (fun f s' => match f with | .next => wpS (model prog w) A (execs rest env) Q E s' | f => Q f s') E s) : wpS (model prog w) A (execs (st :: rest) env) Q E s := by
  rw [execs_cons]
  refine wpS_bind (wpS_mono h (fun f s' h' => ?_) fun _ _ z => z)
  cases f with
  | next => exact h'
  | _ => exact wpS_pure h'
theorem wpS_If {test : Expr} {body orelse : List Stmt} {pos : Pos}
    (h : wpS (model prog w) A (isTrue test env (eval test env)) (fun b s₂ => if b = true then wpS (model prog w) A (execs body env) Q E s₂ else wpS (model prog w) A (execs orelse env) Q E s₂) E s) : wpS (model prog w) A (exec (.If test body orelse pos) env) Q E s := by
  rw [exec_If]
  refine wpS_bind (wpS_of (wpAny_standAt (wpS_bind (wpS_mono h (fun b s' h' => ?_) fun _ _ z => z))))
  cases b with
  | true => simpa using h'
  | false => simpa using h'
theorem wpS_Return {e : Expr} {pos : Pos} (h : wpS (model prog w) A (eval e env) (fun v => Q (.ret v)) E s) : wpS (model prog w) A (exec (.Return (some e) pos) env) Q E s := by
  rw [exec_Return_some]
  exact wpS_bind (wpS_of (wpAny_standAt (wpS_bind (wpS_mono h (fun v s' h' => wpS_pure h') fun _ _ z => z))))
theorem wpS_run {c : Code} (hc : codeS (model prog w) A c (fun r s' => match r with | .ok f => Q f s' | .error e => E e s') s) : wpS (model prog w) A (run c none) Q E s := fun Γ p hΓ hk hb => by
  rw [Sem.wp_run]
  refine hc _ p rfl (hΓ.enter c none p (by intro x; cases x)) fun x hx => ?_
  rcases List.mem_cons.mp hx with rfl | hx
  · exact hk
  · exact hb x hx
theorem wpS_While {test : Expr} {body : List Stmt} {pos : Pos} (I : Nat → Shared → Prop)
    (turn : ∀ n s, I n s → wpS (model prog w) A (isTrue test env (eval test env)) (fun b s₂ =>
      if b = true then wpS (model prog w) A (execs body env) (fun f s₃ => match f with
          | .next | .cont => ∃ m, m < n ∧ I m s₃
          | .brk => Q .next s₃
          | .ret v => Q (.ret v) s₃) (fun _ _ => False) s₂
      else Q .next s₂) (fun _ _ => False) s)
    (n : Nat) (h : I n s) : wpS (model prog w) A (exec (.While test body [] pos) env) Q E s := by
  rw [exec_While]
  refine wpS_bind (wpS_of (wpAny_standAt ?_))
  unfold runOwn
  refine wpS_onRaise (wpS_run (codeS_loop rfl trivial I (fun n s hI => ?_) n h))
  show wpS _ A ((whileTurn test body [] env).onRaise (fun x => do noteFrame x env; theTreesLotGoes x)) _ _ s
  refine wpS_onRaise ?_
  unfold whileTurn
  refine wpS_bind (wpS_mono (turn n s hI) (fun b s₂ h₂ => ?_) fun _ _ z => z)
  cases b with
  | false =>
    simp only [Bool.false_eq_true, if_false] at h₂ ⊢
    exact wpS_bind (wpS_execs_nil (wpS_pure h₂))
  | true =>
    simp only [if_true] at h₂ ⊢
    refine wpS_bind (wpS_mono h₂ (fun f s₃ h₃ => ?_) fun _ _ z => z)
    cases f with
    | next => exact wpS_pure ⟨rfl, h₃⟩
    | cont => exact wpS_pure ⟨rfl, h₃⟩
    | brk => exact wpS_pure h₃
    | ret v => exact wpS_pure h₃
end
end Pb93
end
section
open PySem PySem.W PyProof.Rows PySem.Spec PySem.Calls
namespace Pb93
open Sem (wp)
open Builtin.Bytes
theorem ba_no_bytes : typeLookup (.type "bytearray") "__bytes__" = pure none := by rw [typeLookup_type, builtinLookup_eq_fast]; kernel_rfl
theorem ba_no_index : typeLookup (.type "bytearray") "__index__" = pure none := by rw [typeLookup_type, builtinLookup_eq_fast]; kernel_rfl
theorem ba_buffer : typeLookup (.type "bytearray") "__buffer__" = pure (some (.builtin "bytearray.__buffer__")) := by rw [typeLookup_type, builtinLookup_eq_fast]; kernel_rfl
section
variable {prog : Program} {w : World} {A : Around} {E : Value → Shared → Prop} {s : Shared}
theorem ba_release : typeLookup (.type "bytearray") "__release_buffer__" = pure (some (.builtin "bytearray.__release_buffer__")) := by rw [typeLookup_type, builtinLookup_eq_fast]; kernel_rfl
theorem ba_sub : isSubtype (.type "bytearray") (.type "bytearray") = pure true := by rw [isSubtype_type]; kernel_rfl
theorem own_ba {D : Addr} {b : Array UInt8} {n id : String} {Q : Bool → Shared → Prop} (hD : s.heap.get? D = some (arrO b)) (hl : typeLookup (.type "bytearray") n = pure (some (.builtin id))) (h1 : (!id.endsWith ("." ++ n)) = false) (h2 : id.dropRight (n.length + 1) = "bytearray") (h : Q true s) :
    wpAny (model prog w) A (slotIsOwn (.ref D) n) Q E s := by
  have hT : s.TypeIs (.ref D) "bytearray" := ⟨_, hD, rfl⟩
  unfold slotIsOwn
  refine wpAny_bind (wpAny_specialOf hT hl ?_)
  refine bm_if_false h1 ?_
  rw [h2]
  exact wpAny_isInstance hT ba_sub h
theorem buffer_ba {D : Addr} {b : Array UInt8} {id : String} {Q : Option (Array UInt8) → Shared → Prop} (hD : s.heap.get? D = some (arrO b)) (h : Q (some b) s) : wpAny (model prog w) A (buffer? id (.ref D) true) Q E s := by
  have hT : s.TypeIs (.ref D) "bytearray" := ⟨_, hD, rfl⟩
  unfold buffer?
  refine wpAny_bind (wpAny_specialOf hT ba_buffer ?_)
  refine wpAny_bind (own_ba hD ba_buffer (by decide +kernel) (by decide +kernel) ?_)
  refine bm_if_false rfl ?_
  refine wpAny_bind (wpAny_specialOf hT ba_buffer ?_)
  refine wpAny_bind (m := ownRelease (.ref D)) (wpAny_bind (own_ba hD ba_release (by decide +kernel) (by decide +kernel) (wpAny_pure ?_)))
  refine bm_if_false rfl ?_
  unfold payload payload?
  refine wpAny_bind (wpAny_bind (wpAny_bind (wpAny_load hD ?_)))
  exact wpAny_pure (wpAny_pure (wpAny_pure h))
theorem bytes_new {D : Addr} {b : Array UInt8} {Q : Value → Shared → Prop} (hD : s.heap.get? D = some (arrO b)) (hz : b.size ≤ sizeLine) (hQ : ∀ t k, Q (.bytes b t) { s with toks := k }) :
    codeAny (model prog w) A (.call (.builtin "bytes.__new__") ⟨[.type "bytes", .ref D], []⟩) (wants Q E) s := by
  refine codeAny_of_tree ?_
  show wpAny _ A.in1 (do checkBuiltinCall "bytes.__new__" ⟨[.type "bytes", .ref D], []⟩; again (.builtin "bytes.__new__" ⟨[.type "bytes", .ref D], []⟩)) _ _ s
  refine wpAny_bind (wpAny_of_eq (F.bm_newCall _) (wpAny_pure ⟨plainId_quiet F.bm_plain _, codeAny_builtin F.bm_entry ?_⟩))
  rw [Around.under_plainId F.bm_plain _]
  have hT : s.TypeIs (.ref D) "bytearray" := ⟨_, hD, rfl⟩
  unfold Builtin.«bytes.__new__»
  refine wpAny_bind (wpAny_of_eq (a := true) rfl ?_)
  refine bm_if_false rfl ?_
  refine wpAny_bind (wpAny_of_eq F.bm_sub ?_)
  refine bm_if_false rfl ?_
  refine wpAny_bind (wpAny_of_eq (F.bm_bind _) ?_)
  refine wpAny_bind (wpAny_of_eq (a := ()) rfl ?_)
  refine wpAny_bind (wpAny_of_eq (a := ()) rfl ?_)
  refine bm_if_false rfl ?_
  refine wpAny_bind (wpAny_specialOf hT ba_no_bytes ?_)
  refine wpAny_bind (wpAny_bind ?_)
  show wpAny _ _ (load D >>= _) _ _ _
  refine wpAny_bind (wpAny_load hD ?_)
  refine wpAny_pure (wpAny_pure ?_)
  refine bm_if_false rfl ?_
  refine wpAny_bind (wpAny_specialOf hT ba_no_index ?_)
  refine bm_if_true rfl ?_
  refine wpAny_bind ?_
  refine buffer_ba hD ?_
  refine wpAny_bind (wpAny_rule ?_)
  refine wpAny_bind (wpAny_mkBytes ?_ hz)
  show wpAny _ _ (if (Value.type "bytes" == Value.type "bytes") = true then _ else _) _ _ _
  refine bm_if_true (by decide) ?_
  first
    | exact wpAny_pure (hQ _ _)
    | exact wpAny_bind (wpAny_pure (wpAny_pure (hQ _ _)))
theorem bytes_of_ba {D : Addr} {b : Array UInt8} {Q : Value → Shared → Prop} (hD : s.heap.get? D = some (arrO b)) (hz : b.size ≤ sizeLine) (hQ : ∀ t k, Q (.bytes b t) { s with toks := k }) : wpAny (model prog w) A (call (.type "bytes") [.ref D]) Q E s := by
  refine callType_codes (Q₁ := fun obj s₁ => s₁.TypeIs obj "bytes" ∧ Q obj s₁) F.bm_called (F.bm_typeCall _) F.entry_object_init (bytes_new hD hz fun t k => ⟨PySem.W.typeIs_bytes _ _ _, hQ t k⟩) fun obj s₁ h₁ => ?_
  exact ⟨h₁.1, F.args_object_init_2 obj _, object_init_meets F.bm_called.init.lookup F.bm_called.made (by decide) prog w A.in1 _ s₁ ⟨h₁.1, rfl, h₁.2⟩⟩
end
end Pb93
end
section
open PySem PySem.W PyProof.Rows PySem.Spec PySem.Calls
namespace Pb93
open Sem (wp)
open Builtin.Bytes
section
variable {prog : Program} {w : World} {A : Around} {E : Value → Shared → Prop} {s : Shared}
theorem ba_mro : mroOf (.type "bytearray") = pure [.type "bytearray", .type "object"] := by rw [mroOf_type]; kernel_rfl
theorem ba_new : typeLookup (.type "bytearray") "__new__" = pure (some (.builtin "bytearray.__new__")) := by rw [typeLookup_type, builtinLookup_eq_fast]; kernel_rfl
theorem slot_init : Slot "bytearray" "__init__" "bytearray.__init__" :=
  .of (owner := "bytearray") (n := "__init__") (by rw [typeLookup_type, builtinLookup_eq_fast]; kernel_rfl) (by decide +kernel) (by decide +kernel) (by decide +kernel)
    (by first | exact .inl (by decide +kernel) | exact .inr (by decide +kernel)) (by rw [isSubtype_type]; kernel_rfl)
theorem ba_called : TypeCalled "bytearray" "bytearray.__new__" "bytearray.__init__" :=
  ⟨by decide +kernel, by decide +kernel, ⟨_, _, ba_mro⟩, madeBy_type ba_mro ba_new (by decide +kernel), by decide +kernel, by rw [isSubtype_type]; kernel_rfl, slot_init⟩
theorem ba_typeCall : checkTypeCall "bytearray" ⟨[], []⟩ = pure () := by kernel_rfl
theorem entry_init : entryFor table "bytearray.__init__" = some Builtin.«bytearray.__init__» := by first | exact entryFor_of_fast (by kernel_rfl) | exact entryFor_of_tree (by kernel_rfl)
theorem args_init (a : Value) : argsOk "bytearray.__init__" ⟨[a], []⟩ := by kernel_rfl
theorem bind_init : bindOptional "bytearray.__init__" "bytearray" ["source", "encoding", "errors"] [] [] = pure [none, none, none] := by kernel_rfl
/-- the init of an empty bytearray -/
theorem init_ba {D : Addr} {Q : Value → Shared → Prop} (hD : s.heap.get? D = some (arrO #[])) (h : ∀ h', Heap.SameBut D s.heap h' → h'.get? D = some (arrO #[]) → Q .none { s with heap := h' }) :
    wpS (model prog w) A (call (.builtin "bytearray.__init__") [.ref D]) Q E s := by
  refine callS_entry (T := "") (name := "") slot_init ⟨_, hD, rfl⟩ (by exact ⟨by decide +kernel, by decide +kernel⟩) entry_init (args_init _) ?_
  unfold Builtin.«bytearray.__init__»
  refine wpS_bind (m := ownRelease (.ref D)) (wpS_of (wpAny_bind (own_ba hD ba_release (by decide +kernel) (by decide +kernel) (wpAny_pure ?_))))
  refine wpS_ifn rfl ?_
  dsimp only
  rw [bind_init]
  refine wpS_bind (wpS_pure ?_)
  dsimp only
  refine wpS_bind (wpS_of (wpAny_of_eq (a := ()) rfl ?_))
  refine wpS_bind (wpS_of (wpAny_of_eq (a := ()) rfl ?_))
  refine wpS_bind (wpS_bind (m := exported (.ref D)) (wpS_exported ?_))
  refine wpS_bind (m := exportsOf (.ref D)) (wpS_of ?_)
  show wpAny _ _ (load D >>= _) _ _ _
  refine wpAny_bind (wpAny_load hD ?_)
  refine wpAny_pure (wpS_pure ?_)
  refine wpS_ifn rfl ?_
  refine wpS_bind (wpS_of ?_)
  show wpAny _ _ (updateBytearray D (fun _ => #[])) _ _ _
  unfold updateBytearray
  refine wpAny_bind (wpAny_load hD ?_)
  show wpAny _ _ (update D (Obj.mapBytearray (fun _ => #[])) >>= fun _ => lookBehind D) _ _ _
  refine wpAny_bind (wpAny_update hD ?_)
  have h2 : (s.heap.update D (Obj.mapBytearray (fun _ => #[]))).get? D = some (arrO #[]) := Heap.get?_update_self (Obj.mapBytearray (fun _ => #[])) hD rfl
  refine wpAny_lookBehind h2 (by rfl) ?_
  refine wpS_bind (wpS_pure ?_)
  exact wpS_pure ⟨.none, rfl, h _ (Heap.SameBut.update ..) h2⟩
end
end Pb93
end
section
open PySem PySem.W PyProof.Rows PySem.Spec PySem.Calls
namespace Pb93
open Sem (wp)
open Builtin.Bytes
section
variable {prog : Program} {w : World} {A : Around} {E : Value → Shared → Prop} {s : Shared}
theorem entry_banew : entryFor table "bytearray.__new__" = some Builtin.«list.__new__» :=
  entryFor_alias (id' := "list.__new__") (by kernel_rfl) (by first | rfl | decide +kernel) (by decide +kernel) (by kernel_rfl)
theorem plain_banew : plainId "bytearray.__new__" = true := by decide +kernel
theorem check_banew : checkBuiltinCall "bytearray.__new__" ⟨[.type "bytearray"], []⟩ = pure () := by kernel_rfl
set_option maxRecDepth 1000000 in
set_option maxHeartbeats 4000000 in
theorem owner_banew : ("bytearray.__new__".splitOn ".__new__").headD "" = "bytearray" := by simp +decide [String.splitOn, String.splitOnAux]
theorem banew_code {R : Result → Shared → Prop} (h : R (.ok (.ret (.ref s.heap.objs.size))) { s with heap := s.heap.push (arrO #[]) }) :
    codeAny (model prog w) A (.call (.builtin "bytearray.__new__") ⟨[.type "bytearray"], []⟩) R s := by
  refine codeAny_of_tree ?_
  show wpAny _ A.in1 (do checkBuiltinCall "bytearray.__new__" ⟨[.type "bytearray"], []⟩; again (.builtin "bytearray.__new__" ⟨[.type "bytearray"], []⟩)) _ _ s
  refine wpAny_bind (wpAny_of_eq check_banew (wpAny_pure ⟨plainId_quiet plain_banew _, codeAny_builtin_stack entry_banew rfl fun p st => ?_⟩))
  rw [Around.under_plainId plain_banew _]
  have hsub := ba_sub
  have hown := owner_banew
  obtain ⟨hp, g, d, tk, os⟩ := s
  simp only [hown]
  wp_walk
  exact h
theorem wpS_holding {α : Type} {M : Model} {vs : List Value} {m : Sem α} {Q : α → Shared → Prop} (h : wpS M A m Q E s) : wpS M A (holding vs m) Q E s := fun Γ p a b c => by rw [Sem.wp_holding]; exact h Γ p a b c
/-- bytearray() -/
theorem call_bytearray {Q : Value → Shared → Prop} (h : ∀ h', (∀ b o, s.heap.get? b = some o → h'.get? b = some o) → h'.get? s.heap.objs.size = some (arrO #[]) → Q (.ref s.heap.objs.size) { s with heap := h' }) : wpS (model prog w) A (call (.type "bytearray") []) Q E s := by
  refine wpS_call (codeS_of_tree trivial ?_)
  show wpS _ _ (callAny (.type "bytearray") _) _ _ _
  refine wpS_pure ⟨Code.quiet_builtin _ (by decide +kernel), codeS_builtin (by exact ⟨by decide +kernel, by decide +kernel⟩) F.entry_type_call ?_⟩
  rw [Around.under_plain (weight_type_call_type "bytearray" [] []) rfl]
  unfold Builtin.«type.__call__»
  dsimp only
  refine wpS_ifn (by decide) ?_
  refine wpS_ifn ba_called.canCreate ?_
  refine wpS_bind (wpS_of (wpAny_of_eq ba_typeCall ?_))
  refine wpS_bind (wpS_of (wpAny_of_eq ba_mro ?_))
  refine wpS_ifn rfl ?_
  refine wpS_bind (wpS_of (wpAny_of_eq ba_called.made ?_))
  dsimp only
  refine wpS_bind (wpS_pure ?_)
  refine wpS_bind (wpS_of (wpAny_holding (wpAny_call (banew_code ?_))))
  have hD : (s.heap.push (arrO #[])).get? s.heap.objs.size = some (arrO #[]) := Heap.get?_push_size _ rfl
  refine wpS_bind (wpS_of (wpAny_isInstance (s := { s with heap := s.heap.push (arrO #[]) }) ⟨_, hD, rfl⟩ ba_sub ?_))
  refine wpS_ifn rfl ?_
  refine wpS_bind (wpS_holding ?_)
  unfold callSpecial?
  refine wpS_bind (wpS_of (wpAny_specialOf (s := { s with heap := s.heap.push (arrO #[]) }) ⟨_, hD, rfl⟩ slot_init.lookup ?_))
  refine wpS_holding ?_
  refine wpS_bind (wpS_of (wpAny_of_eq (slot_init.bind _) ?_))
  refine wpS_bind (init_ba (s := { s with heap := s.heap.push (arrO #[]) }) hD fun h' hs h2 => ?_)
  refine wpS_pure ?_
  refine wpS_ifn (by decide) ?_
  refine wpS_pure (h h' (fun b o e => ?_) h2)
  exact hs.extBut b o (Nat.ne_of_lt (Heap.lt_size e)) (Heap.get?_push_of_some _ e)
end
end Pb93
end
section
open PySem PySem.W PyProof.Rows PySem.Spec PySem.Calls
namespace Pb93
open Sem (wp)
section
variable {M : Model} {A : Around} {E : Value → Shared → Prop} {s : Shared} {env : Env}
theorem wpS_keep {α : Type} {vs : List Value} {m : Sem α} {Q : α → Shared → Prop} (h : wpS M A m Q E s) : wpS M A (m.keep vs) Q E s := fun Γ p a b c => by rw [Sem.wp_keep]; exact h Γ p a b c
theorem tailS {t : Sem Value} {Q : Value → Shared → Prop} (h : wpS M A t Q E s) : wpS M A (t >>= fun r => holding [r] point >>= fun _ => pure r) Q E s :=
  wpS_bind (wpS_mono h (fun r s₂ hr => wpS_of (wpAny_bind (wpAny_holding (wpAny_point (wpAny_pure hr))))) fun _ _ x => x)
theorem callWithS_machine {pos : Pos} {f : Value} {first : List Value} {args : List (Bool × Sem Value)} {Q : Value → Shared → Prop} (hf : keeperOf f = pure .machine) (hp : args.any (·.1) = false)
    (h : wpAny M A (evalArgs f true args []) (fun a s₁ => wpS M A (call f (first ++ a.pos) a.kw) Q E s₁) E s) : wpS M A (callWith pos f first args []) Q E s := by
  unfold callWith
  refine wpS_bind (wpS_of (wpAny_holding (wpAny_mono h (fun a s₁ h₁ => wpS_bind (wpS_of (wpAny_standAt ?_))) fun _ _ x => x)))
  simp only [hp, List.any_nil, Bool.or_false, hf]
  refine wpS_bind (wpS_pure ?_)
  exact tailS h₁
theorem callWithS_def {pos : Pos} {a : Addr} {o : Obj} {fd : FuncData} {first : List Value} {args : List (Bool × Sem Value)} {Q : Value → Shared → Prop} (hp : args.any (·.1) = false)
    (h : wpAny M A (evalArgs (.ref a) true args []) (fun x s₁ => (s₁.heap.get? a = some o ∧ o.data = .func fd) ∧ wpS M A (call (.ref a) (first ++ x.pos) x.kw) Q E s₁) E s) : wpS M A (callWith pos (.ref a) first args []) Q E s := by
  unfold callWith
  refine wpS_bind (wpS_of (wpAny_holding (wpAny_mono h (fun x s₁ h₁ => wpS_bind (wpS_of (wpAny_standAt ?_))) fun _ _ x => x)))
  simp only [hp, List.any_nil, Bool.or_false]
  refine wpS_bind (m := keeperOf (.ref a)) (wpS_of ?_)
  unfold keeperOf
  refine wpAny_bind (wpAny_load h₁.1.1 ?_)
  rw [h₁.1.2]
  refine wpAny_pure ?_
  split
  all_goals first
    | exact tailS h₁.2
    | exact tailS (by unfold callMarked; exact wpS_keep h₁.2)
    | (split <;> first | exact tailS h₁.2 | exact tailS (by unfold callMarked; exact wpS_keep h₁.2))
   
theorem wpS_Expr {e : Expr} {pos : Pos} {Q : Flow → Shared → Prop} (h : wpS M A (eval e env) (fun v s' => v = .none ∧ Q .next s') E s)
    (hi : interactive env = false := by rfl) (hs : swapsWith e none pos.line env = pure false := by rfl) : wpS M A (exec (.Expr e pos) env) Q E s := by
  rw [exec_Expr env e pos hi hs]
  refine wpS_bind (wpS_of (wpAny_standAt (wpS_bind (wpS_mono h (fun v s' h' => ?_) fun _ _ x => x))))
  obtain ⟨rfl, h'⟩ := h'
  rw [dropValue_plain (by intro a q; cases q)]
  exact wpS_pure h'
theorem MethodCallS {o : Expr} {name : Str} {apos pos : Pos} {args : List Expr} {pl : Sem Bool} {Q : Value → Shared → Prop}
    (h : wpAny M A (eval o env) (fun ov s₁ => wpAny M A (getMethod ov name pl) (fun fx s₂ => wpS M A (callWith pos fx.1 fx.2 (backTo pos (starEach args env)) []) Q E s₂) E s₁) E s)
    (he : eval (.Call (.Attribute o name apos) args [] pos) env = (do
      let ov ← eval o env
      standAt apos.atName
      let (f, first) ← holding [ov] (getMethod ov name pl)
      callWith pos f first (backTo pos (starEach args env)) []) := by rfl) :
    wpS M A (eval (.Call (.Attribute o name apos) args [] pos) env) Q E s := by
  rw [he]
  refine wpS_bind (wpS_of (wpAny_mono h (fun ov s₁ h₁ => wpS_bind (wpS_of (wpAny_standAt (wpS_bind (wpS_of (wpAny_holding (wpAny_mono h₁ (fun fx s₂ h₂ => ?_) fun _ _ x => x))))))) fun _ _ x => x))
  exact h₂
end
end Pb93
end
section
open PySem PySem.W PyProof.Rows PySem.Spec PySem.Calls
namespace Pb93
open Sem (wp)
section
variable {M : Model} {A : Around} {E : Value → Shared → Prop} {s : Shared} {env : Env}
theorem CallS {func : Expr} {args : List Expr} {pos : Pos} {Q : Value → Shared → Prop}
    (h : wpAny M A (eval func env) (fun f s₁ => wpS M A (callWith pos f [] (backTo pos (starEach args env)) []) Q E s₁) E s)
    (he : eval (.Call func args [] pos) env = (do callWith pos (← eval func env) [] (backTo pos (starEach args env)) (backToKw pos (keywordEach [] env))) := by rfl) :
    wpS M A (eval (.Call func args [] pos) env) Q E s := by
  rw [he]; exact wpS_bind (wpS_of h)
theorem Assign_swappedS {elts : List Expr} {k : Nat} {tpos pos : Pos} {value : Expr} {names : List Str} {Q : Flow → Shared → Prop}
    (h : wpS M A (eval value env) (fun v s₁ => wpAny M A (unpackItems v names.length none) (fun items s₂ =>
      wpAny M A (assignInOrder (names.reverse.map fun n => bindName env n) items.reverse) (fun _ => Q .next) E s₂) E s₁) E s)
    (hs : swapsWithSole [.Tuple elts k tpos] value pos.line env = pure false := by rfl)
    (hw : swappedStores [.Tuple elts k tpos] value env = pure (some names) := by rfl) :
    wpS M A (exec (.Assign [.Tuple elts k tpos] value pos) env) Q E s := by
  rw [arm_exec_Assign]
  refine wpS_bind (wpS_of (wpAny_standAt ?_))
  rw [hs]
  refine wpS_bind (wpS_pure ?_)
  rw [if_neg (by decide)]
  refine wpS_bind (wpS_mono h (fun v s₁ h₁ => ?_) fun _ _ x => x)
  rw [hw]
  refine wpS_bind (wpS_pure ?_)
  refine wpS_of ?_
  show wpAny M A (do rule "assign.swapped-stores"; let items ← unpackItems v names.length none; assignInOrder (names.reverse.map fun n => bindName env n) items.reverse; pure .next) Q E s₁
  exact wpAny_bind (wpAny_rule (wpAny_bind (wpAny_mono h₁ (fun items s₂ h₂ => wpAny_bind (wpAny_mono h₂ (fun _ _ x => wpAny_pure x) fun _ _ x => x)) fun _ _ x => x)))
theorem spliced_consS {t : Sem Value} {rest : List (Bool × Sem Value)} {Q : List Value → Shared → Prop} (h : wpS M A t (fun v s₁ => wpAny M A (spliced rest) (fun vs s₂ => Q (v :: vs) s₂) E s₁) E s) : wpS M A (spliced ((false, t) :: rest)) Q E s := by
  rw [spliced]
  refine wpS_bind (wpS_mono h (fun v s₁ h₁ => ?_) fun _ _ x => x)
  simp only [Bool.false_eq_true, if_false]
  exact wpS_of (wpAny_bind (wpAny_pure (wpAny_bind (wpAny_holding (wpAny_mono h₁ (fun vs s₂ h₂ => wpAny_pure h₂) fun _ _ x => x)))))
theorem TupleS {elts : List Expr} {k : Nat} {pos : Pos} {Q : Value → Shared → Prop} (h : wpS M A (spliced (backTo pos (starEach elts env))) (fun vs s₁ => wpAny M A (newTuple vs) Q E s₁) E s) : wpS M A (eval (.Tuple elts k pos) env) Q E s := by
  rw [arm_eval_Tuple]
  exact wpS_bind (wpS_of (wpAny_standAt (wpS_bind (wpS_mono h (fun vs s₁ h₁ => wpS_of h₁) fun _ _ x => x))))
end
end Pb93
end
section
open PySem PySem.W PyProof.Rows PySem.Spec PySem.Calls
namespace Pb93
open Sem (wp)
section
variable {M : Model} {A : Around} {E : Value → Shared → Prop} {s : Shared} {env : Env}
theorem execs_cutS {Q : Flow → Shared → Prop} {l : List Stmt} (n : Nat) (Mid : Shared → Prop)
    (h1 : wpAny M A (execs (l.take n) env) (fun f s' => f = .next ∧ Mid s') E s) (h2 : ∀ s', Mid s' → wpS M A (execs (l.drop n) env) Q E s') : wpS M A (execs l env) Q E s := by
  have e : execs l env = ((execs (l.take n) env) >>= fun f => match f with | .next => execs (l.drop n) env | f => pure f) := by
    conv => lhs; rw [← List.take_append_drop n l]
    exact execs_append _ _ _
  rw [e]
  exact wpS_bind (wpS_of (wpAny_mono h1 (fun f s' ⟨hf, hm⟩ => by subst hf; exact h2 s' hm) fun _ _ x => x))
/-- one statement of a block, and what holds behind it -/
theorem stepS {Q : Flow → Shared → Prop} {st : Stmt} {rest : List Stmt} (Mid : Shared → Prop)
    (h1 : wpAny M A (exec st env) (fun f s' => f = .next ∧ Mid s') E s) (h2 : ∀ s', Mid s' → wpS M A (execs rest env) Q E s') : wpS M A (execs (st :: rest) env) Q E s := by
  rw [execs_cons]
  exact wpS_bind (wpS_of (wpAny_mono h1 (fun f s' ⟨hf, hm⟩ => by subst hf; exact h2 s' hm) fun _ _ x => x))
/-- a call of a def, its arguments walked -/
def CallK (M : Model) (A : Around) (a : Addr) (o : Obj) (fd : FuncData) (first : List Value) (Q E : Value → Shared → Prop) (x : Args) (s₁ : Shared) : Prop :=
  (s₁.heap.get? a = some o ∧ o.data = .func fd) ∧ wpS M A (call (.ref a) (first ++ x.pos) x.kw) Q E s₁
theorem callWithS_defK {pos : Pos} {a : Addr} (o : Obj) (fd : FuncData) {first : List Value} {args : List (Bool × Sem Value)} {Q : Value → Shared → Prop} (hp : args.any (·.1) = false)
    (h : wpAny M A (evalArgs (.ref a) true args []) (CallK M A a o fd first Q E) E s) : wpS M A (callWith pos (.ref a) first args []) Q E s := callWithS_def hp h
theorem CompareS {l r : Expr} {op : CmpOp} {pos : Pos} {Q : Value → Shared → Prop}
    (h : wpS M A (eval l env) (fun a s₁ => wpAny M A (eval r env) (fun b s₂ => wpAny M A (compareOp op a b) Q E s₂) E s₁) E s)
    (hm : behindInMarks op r = false := by with_unfolding_all rfl) :
    wpS M A (eval (.Compare l [op] [r] pos) env) Q E s := fun Γ p hΓ hk hb => by
  simp only [eval_Compare1, markedBehindIn_of_false hm, Sem.wp_bind', Sem.wp_holding, Sem.wp_cmd_standAt, Sem.wp_operate]
  exact Sem.wp_mono M Γ _ (fun a p₁ s₁ h₁ => Sem.wp_mono M Γ _ (fun b _ s₂ h₂ => h₂ Γ _ hΓ) (fun _ _ _ h' => h') _ _ (h₁ Γ p₁ hΓ))
    (fun _ _ _ h' => h') _ _ (h Γ p hΓ hk hb)
theorem BoolOp_andS {e₁ e₂ : Expr} {pos : Pos} {Q : Value → Shared → Prop}
    (h : wpS M A (eval e₁ env) (fun v s₁ => wpAny M A (truthy v) (fun c s₂ => if c then wpAny M A (eval e₂ env) Q E s₂ else Q v s₂) E s₁) E s) :
    wpS M A (eval (.BoolOp .And [e₁, e₂] pos) env) Q E s := by
  show wpS M A (do
    let v ← eval e₁ env
    standAt pos
    let c ← holding [v] (truthy v)
    match BoolOp.And, c with
    | .And, false | .Or, true => pure v
    | _, _ => eval e₂ env) Q E s
  refine wpS_bind (wpS_mono h (fun v s₁ h₁ => wpS_of (wpAny_bind (wpAny_standAt (wpAny_bind (wpAny_holding (wpAny_mono h₁ (fun c s₂ h₂ => ?_) fun _ _ x => x)))))) fun _ _ x => x)
  cases c with
  | false => exact wpAny_pure h₂
  | true => exact h₂
end
end Pb93
end
section
open PySem PySem.W PyProof.Rows PySem.Spec PySem.Calls
namespace Pb93
theorem type_append : typeOf (.builtin "bytearray.append") = pure (.type "method_descriptor") := by show builtinType _ = _; rw [builtinType_eq_fast]; kernel_rfl
theorem plain_ba : PlainAttrs "bytearray" := ⟨⟨"bytearray.__getattribute__", by rw [typeLookup_type, builtinLookup_eq_fast]; kernel_rfl, by decide +kernel⟩, by rw [typeLookup_type, builtinLookup_eq_fast]; kernel_rfl⟩
theorem getMethod_append {prog : Program} {w : World} {A : Around} {E : Value → Shared → Prop} {s : Shared} {h₀ : Heap} {L D : Addr} {news : Led} {b : Array UInt8} {pl : Sem Bool} {Q : Value × List Value → Shared → Prop} (N : News h₀ L s.heap news) (hm : (D, arrO b) ∈ news) (h : Q (.builtin "bytearray.append", [.ref D]) s) : wpAny (model prog w) A (getMethod (.ref D) "append" pl) Q E s :=
  getMethod_builtin (T := "bytearray") ⟨_, (N _ hm).1, rfl⟩ plain_ba slot_append type_append (fun a e => by cases e; exact ⟨_, (N _ hm).1, rfl⟩) h
theorem evalArgsB {M : Model} {A : Around} {E : Value → Shared → Prop} {s : Shared} {env : Env} {f : Value} {pos : Pos} {e : Expr} {rest : List Expr} {Q : Args → Shared → Prop} (h : wpAny M A (spliced (backTo pos (starEach (e :: rest) env))) (fun vs s' => Q ⟨vs, []⟩ s') E s)
    (he : starEach (e :: rest) env = (false, eval e env) :: starEach rest env := by rfl) : wpAny M A (evalArgs f true (backTo pos (starEach (e :: rest) env)) []) Q E s := by
  rw [he] at h ⊢
  exact Calls.evalArgs_plain h
theorem append_BA {prog : Program} {w : World} {A : Around} {E : Value → Shared → Prop} {s : Shared} {h₀ : Heap} {L D : Addr} {m : Str → Option Value} {f : List Int} {k : Int} {t : Tok} {Q : Value → Shared → Prop} (F : Fr h₀ L s.heap m) (N : News h₀ L s.heap [(D, arrO (byteArr f))]) (h0 : 0 ≤ k) (h1 : k < 256) (hz : f.length ≤ 10000)
    (h : ∀ h', Fr h₀ L h' m → News h₀ L h' [(D, arrO (byteArr (f ++ [k])))] → Q .none { s with heap := h' }) : wpS (model prog w) A (call (.builtin "bytearray.append") [.ref D, .int k t]) Q E s := by
  have z := N _ List.mem_cons_self
  refine append_byte z.1 h0 h1 (by rw [byteArr_size, sizeLine_eq]; omega) fun h' hs h2 => h h' (F.change hs z.2.1 z.2.2) fun p hp => ?_
  rw [List.mem_singleton.mp hp]
  refine ⟨?_, z.2⟩
  rw [h2]
  congr 2
  unfold byteArr
  simp
end Pb93
end
section
open PySem PySem.W PyProof.Rows PySem.Spec PySem.Calls
namespace Pb93
theorem words_C_within_1 : True := by
  k_with_none
  k_with "getMethod bytes" => (k_here; first | (with_reducible refine meth_ends ?_) | (with_reducible refine meth_starts ?_))
  k_with "call builtin:bytes.endswith" => (k_here; first | (refine call_ends (x := 10) (x' := 10) rfl (by kba_ints) ?_) | (refine call_ends (x := 13) (x' := 13) rfl (by kba_ints) ?_))
  k_with "call builtin:bytes.startswith" => (k_here; first | (refine call_starts (x := 45) (x' := 45) rfl (by kba_ints) ?_) | (refine call_starts (x := 33) (x' := 33) rfl (by kba_ints) ?_))
  trivial
def alnumB (n : Int) : Bool := decide ((48 ≤ n ∧ n ≤ 57) ∨ (65 ≤ n ∧ n ≤ 90) ∨ (97 ≤ n ∧ n ≤ 122))
theorem alnum_t {n : Int} (h : (48 ≤ n ∧ n ≤ 57) ∨ (65 ≤ n ∧ n ≤ 90) ∨ (97 ≤ n ∧ n ≤ 122)) : Value.bool true = .bool (alnumB n) := by unfold alnumB; rw [decide_eq_true h]
theorem alnum_f {n : Int} (h : ¬((48 ≤ n ∧ n ≤ 57) ∨ (65 ≤ n ∧ n ≤ 90) ∨ (97 ≤ n ∧ n ≤ 122))) : Value.bool false = .bool (alnumB n) := by unfold alnumB; rw [decide_eq_false h]
set_option maxHeartbeats 4000000 in
theorem within_con (w : World) (n : Int) (t : Tok) : Con w 95 [.ref 57, .int n t] [] 40 200 (fun r _ => r = .bool (alnumB n)) := by
  refine con_enter (i := 7) (nm := "matching_within") (c := 94) [("pairs", .ref 57), ("sign", .int n t)] (by conv => lhs; whnf) (by k_is) (by k_is) rfl rfl ?_
  intro mean mg mb dp un gd cn cs a ccd cl outer base L s hd hu g L' h₁ F' N' B' X' T'
  k_fold
  k_with "exec For Tuple Name cons nil" => ((rename Fr _ _ _ _ => lF'); (with_unfolding_all refine' For_turns lF' ?_); k_whole)
  k_steps
  all_goals (refine LeaveC.intro (by k_asm) (by k_asm) [] (fun _ h => nomatch h) ?_)
  all_goals first | exact alnum_t (by omega) | exact alnum_f (by omega)
end Pb93
end
section
open PySem PySem.W PyProof.Rows PySem.Spec PySem.Calls
namespace Pb93
def chS (k : Int) : Str := ⟨#[k.toNat]⟩
def textS (ks : List Int) : Str := Txt.join (Str.ofString "") (ks.map chS)
def TJ (news : Led) (ks : List Int) (i : Nat) (ys : List Value) (nw : Led) : Prop := nw = news ∧ StrsAre ys ((ks.take i).map chS)
theorem strs_snoc {vs : List Value} {zs : List Str} {z : Str} {t : Tok} (q : StrsAre vs zs) : StrsAre (vs ++ [.str z t]) (zs ++ [z]) := by
  induction q with
  | nil => exact .cons z t .nil
  | cons c u q ih => exact .cons c u ih
theorem TJ_start {news : Led} {ks : List Int} : TJ news ks 0 [] news := ⟨rfl, by rw [List.take_zero]; exact .nil⟩
theorem TJ_step {news : Led} {ks : List Int} {i : Nat} {k : Int} {ys : List Value} {nw : Led} {t : Tok} (h : TJ news ks i ys nw) (e : ks[i]? = some k) : TJ news ks (i + 1) (ys ++ [.str (chS k) t]) nw := by
  refine ⟨h.1, ?_⟩
  rw [List.take_add_one, e]
  show StrsAre _ (((ks.take i) ++ [k]).map chS)
  rw [List.map_append]
  exact strs_snoc h.2
theorem chS_len (ks : List Int) : ((ks.map chS).map (·.length)).sum = ks.length := by
  induction ks with
  | nil => rfl
  | cons k ks ih => rw [List.map_cons, List.map_cons, List.sum_cons, ih, List.length_cons]; show 1 + _ = _; omega
section
variable {prog : Program} {w : World} {A : Around} {E : Value → Shared → Prop} {s : Shared} {h₀ : Heap} {L : Addr} {m : Str → Option Value} {news : Led} {D : Addr} {ys : List Value} {n : Nat} {ks : List Int} {t : Tok}
theorem join_text {Q : Value → Shared → Prop} (N : News h₀ L s.heap news) (hm : (D, W.listOf ys.toArray n) ∈ news) (hz : ks.length ≤ 4096) (hS : StrsAre ys (ks.map chS)) (h : ∀ t' k, Q (.str (textS ks) t') { s with toks := k }) : wpAny (model prog w) A (call (.builtin "str.join") [.str (Str.ofString "") t, .ref D]) Q E s := by
  refine join_listW (ys := ks.map chS) ⟨_, (N _ hm).1, rfl, n, rfl⟩ (by simpa using hS) (by decide) ?_ h
  rw [chS_len, List.length_map]; omega
end
theorem TJ_end {news : Led} {ks : List Int} {ys : List Value} {nw : Led} (h : TJ news ks ks.length ys nw) : StrsAre ys (ks.map chS) := by
  have := h.2
  rw [List.take_length] at this; exact this
theorem words_C_text_1 : True := by
  k_with_none
  k_with "eval ListComp" => (k_here; (with_reducible show wpAny _ _ (eval (PySem.Expr.ListComp _ [PySem.Comprehension.mk _ _ [] _] _ _) _) _ _ _); k_dflt (refine cmp_eval0 (F₀ := by k_asm) (by with_unfolding_all rfl) (by decide) (by rfl) (by decide) ?_))
  k_with "exec Assign cons ListComp" => (k_here; (with_reducible show wpAny _ _ (exec (PySem.Stmt.Assign _ (PySem.Expr.ListComp _ [PySem.Comprehension.mk _ _ [] _] _ _) _) _) _ _ _); k_dflt (refine cmp_assign0 (F₀ := by k_asm) (by rfl) (by with_unfolding_all rfl) (by with_unfolding_all rfl) (by decide) (by rfl) (by decide) (by rfl) (by rfl) ?_))
  k_with "eval ListComp" => (k_here; (with_reducible show wpAny _ _ (eval (PySem.Expr.ListComp _ [PySem.Comprehension.mk _ _ [_] _] _ _) _) _ _ _); k_dflt (refine cmp_eval1 (F₀ := by k_asm) (by with_unfolding_all rfl) (by decide) (by rfl) (by decide) ?_))
  k_with "exec Assign cons ListComp" => (k_here; (with_reducible show wpAny _ _ (exec (PySem.Stmt.Assign _ (PySem.Expr.ListComp _ [PySem.Comprehension.mk _ _ [_] _] _ _) _) _) _ _ _); k_dflt (refine cmp_assign1 (F₀ := by k_asm) (by rfl) (by with_unfolding_all rfl) (by with_unfolding_all rfl) (by decide) (by rfl) (by decide) (by rfl) (by rfl) ?_))
  k_with "CmpSrc" => (k_here; k_dflt (refine src_bytesK TJ (by exact rfl) (by kba_ints) (by with_reducible assumption) (by k_asm) (by k_asm) (by rfl) (by rfl) (by exact TJ_start) ?_ ?_; (focus (intro kS ki kk kt kI kE kLo kHi kG kNlt; refine CmpTurn.none ?_; intro kC koC kD km kys knw kh ktk kown kE' kJ kLe kNs kLook kF kN kOff kOwn kNe kCf kDf kIo; ((have kJ1 := kJ.1); subst kJ1); (try dsimp only [List.nil_append, List.cons_append] at kN))); (rotate_left 1); (focus (intro kg kys knw kJ; ((have kJ1 := kJ.1); subst kJ1))); (rotate_left 1)))
  k_with "CmpEnd" => (k_here; refine CmpEnd.mk2 (by first | exact TJ_step (by with_reducible assumption) (by with_reducible assumption)) (by with_reducible assumption) (by with_reducible assumption) (by k_asm) (by k_asm) (by (first | exact fun p hp => hp | (intro p hp; (try simp only [List.mem_cons, List.mem_append, List.not_mem_nil, or_false, false_or] at hp ⊢); (first | exact hp | (rcases hp with hp | hp | hp <;> simp [hp]) | (rcases hp with hp | hp | hp | hp <;> simp [hp]) | simp_all)))))
  k_with "call builtin:str.join" => (k_here; (refine join_text (by k_asm) (by k_mem) (by with_reducible assumption) (by exact TJ_end (by with_reducible assumption)) ?_); intro kt ktk)
  trivial
set_option maxHeartbeats 4000000 in
theorem text_con (w : World) (b : Array UInt8) (t : Tok) (ks : List Int) (hks : KBw.bInts b = ks) (hz : ks.length ≤ 4096) : Con w 52 [.bytes b t] [] 60 240 (fun r _ => ∃ t', r = .str (textS ks) t') := by
  refine con_enter (i := 3) (nm := "text_of") (c := 51) [("octets", .bytes b t)] (by conv => lhs; whnf) (by k_is) (by k_is) rfl rfl ?_
  intro mean mg mb dp un gd cn cs a ccd cl outer base L s hd hu g L' h₁ F' N' B' X' T'
  k_fold
  k_steps
  show LeaveC g s _ _ _
  exact LeaveC.intro (by k_asm) (by k_asm) [] (fun _ h => nomatch h) ⟨_, rfl⟩
set_option maxHeartbeats 4000000 in
theorem ltext_con (w : World) (b : Array UInt8) (t : Tok) (ks : List Int) (hks : KBw.bInts b = ks) (hz : ks.length ≤ 4096) : Con w 155 [.bytes b t] [] 60 240 (fun r _ => ∃ t', r = .str (textS ks) t') := by
  refine con_enter (i := 18) (nm := "_law_text") (c := 154) [("octets", .bytes b t)] (by conv => lhs; whnf) (by k_is) (by k_is) rfl rfl ?_
  intro mean mg mb dp un gd cn cs a ccd cl outer base L s hd hu g L' h₁ F' N' B' X' T'
  k_fold
  k_steps
  show LeaveC g s _ _ _
  exact LeaveC.intro (by k_asm) (by k_asm) [] (fun _ h => nomatch h) ⟨_, rfl⟩
end Pb93
end
section
open PySem PySem.W PyProof.Rows PySem.Spec PySem.Calls
namespace Pb93
section
variable {prog : Program} {w : World} {A : Around} {E : Value → Shared → Prop} {s : Shared} {env : Env} {h₀ : Heap} {x : Str} {body : List Stmt} {Q : Flow → Shared → Prop} {b : Array UInt8} {tb : Tok} {ks : List Int} {m₀ : Str → Option Value} {news : Led}
/-- a search through a bytes: what the signs so far are; the frame's other names stay -/
def SJ (x : Str) (good : Int → Prop) (news : Led) (m₀ : Str → Option Value) (ks : List Int) (i : Nat) (m : Str → Option Value) (nx : Led) : Prop := nx = news ∧ (∀ v ∈ ks.take i, good v) ∧ ∀ z, z ≠ x → m z = m₀ z
theorem iter_search (good : Int → Prop) (hk : KBw.bInts b = ks) (hh : A.handled = none) (F : Fr h₀ env.locals s.heap m₀) (N : News h₀ env.locals s.heap news)
    (turn : ∀ i k t h tk own, ks[i]? = some k → 0 ≤ k → k < 256 → (∀ v ∈ ks.take i, good v) → OwnOff own (news.map (·.1)) → Fr h₀ env.locals h (fun y => if y = x then some (.int k t) else m₀ y) → News h₀ env.locals h (news ++ own) →
      wpAny (model prog w) A (execs body env) (InvPostN h₀ env.locals (SJ x good news m₀ ks (i + 1)) own (news.map (·.1)) { s with heap := h, toks := tk } Q) E { s with heap := h, toks := tk })
    (done : ∀ u h tk, (∀ v ∈ ks, good v) → Fr h₀ env.locals h (fun y => if y = x then u else m₀ y) → News h₀ env.locals h news → Q .next { s with heap := h, toks := tk }) :
    wpAny (model prog w) A (pyIter (.bytes b tb)) (fun it s₂ => LoopAtV prog w A h₀ env x body Q E it s₂) E s := by
  refine KBmo.iter_bytesN (news := news) (SJ x good news m₀ ks) hk hh F N ⟨rfl, by simp, fun _ _ => rfl⟩ ?_ ?_
  · intro i k t m₁ news₁ h tk own he hlo hhi hoff hJ F' N'
    obtain ⟨rfl, hg, hm⟩ := hJ
    exact turn i k t h tk own he hlo hhi hg hoff (fr_same F' fun y => by by_cases q : y = x <;> simp [q, hm]) N'
  · intro m₁ news₁ h tk hJ F' N'
    obtain ⟨rfl, hg, hm⟩ := hJ
    rw [List.take_length] at hg
    exact done (m₁ x) h tk hg (fr_same F' fun y => by by_cases q : y = x <;> simp [q, hm]) N'
theorem search_end {L : Addr} {good : Int → Prop} {i : Nat} {k : Int} {c : Option Value} {h' : Heap} {tk' : Nat} {own all : Led} (hg : good k) (he : ks[i]? = some k) (hJ : ∀ v ∈ ks.take i, good v) (F : Fr h₀ L h' (fun y => if y = x then c else m₀ y)) (N : News h₀ L h' all) (sub : ∀ p ∈ news, p ∈ all) (ho : ∀ p ∈ own, p ∈ all) :
    InvEndN h₀ L (SJ x good news m₀ ks (i + 1)) own (news.map (·.1)) s { s with heap := h', toks := tk' } := by
  refine InvEndN.intro F N (nx := news) ⟨rfl, fun v hv => ?_, fun z hz => if_neg hz⟩ rfl sub ho
  rw [List.take_add_one, he] at hv
  rcases List.mem_append.mp hv with hv | hv
  · exact hJ v hv
  · have : v = k := by simpa using hv
    rw [this]; exact hg
end
end Pb93
end
section
open PySem PySem.W PyProof.Rows PySem.Spec PySem.Calls
namespace Pb93
theorem classes_map {w : World} {h : Heap} (X : (K w.params).In h) : ∃ f, h.MapOf (bytesKind pw w) 53 f ∧ f [97, 108, 110, 117, 109] = some (.ref 57) := by
  have ho : h.get? 53 = some (o53 w.params) := X 53 _ (by k_is)
  refine ⟨_, ⟨_, _, _, ho, ⟨rfl, rfl, rfl⟩, rfl, ?_, fun k => rfl⟩, by rfl⟩
  intro e he
  simp only [List.mem_toArray, List.mem_cons, List.not_mem_nil, or_false] at he
  rcases he with rfl | rfl | rfl | rfl | rfl | rfl | rfl | rfl | rfl | rfl | rfl | rfl
  all_goals exact ⟨_, bytesKind_is _ _ _ _, rfl⟩
section
variable {w : World} {A : Around} {E : Value → Shared → Prop} {s : Shared} {h₀ : Heap} {L : Addr} {m : Str → Option Value}
theorem class_alnum {value slice : PySem.Expr} {t : Tok} {Q : Value → Shared → Prop} (X : (K w.params).In h₀) (F : Fr h₀ L s.heap m) (h : Q (.ref 57) { s with toks := s.toks + 1 })
    (hs : subscripted slice false (.ref 53) (.bytes #[97, 108, 110, 117, 109] t) = operate [.ref 53, .bytes #[97, 108, 110, 117, 109] t] (getItem (.ref 53) (.bytes #[97, 108, 110, 117, 109] t)) := by with_unfolding_all rfl) :
    wpAny (model pw w) A (subscriptTail value slice (.ref 53) (.bytes #[97, 108, 110, 117, 109] t)) Q E s := by
  obtain ⟨f, hm, hf⟩ := classes_map (X.keeps F.keep)
  exact tail_any hm.typeIs slot_dict_getitem.lookup (wpAny_getItem_of (k := [97, 108, 110, 117, 109]) (bytesKind_is _ _ _ _) hm hf h) hs
end
theorem words_C_name_1 : True := by
  k_with_none
  k_with "getMethod bytes" => (k_here; first | (with_reducible refine meth_ends ?_) | (with_reducible refine meth_starts ?_))
  k_with "call builtin:bytes.endswith" => (k_here; first | (refine call_ends (x := 10) (x' := 10) rfl (by kba_ints) ?_) | (refine call_ends (x := 13) (x' := 13) rfl (by kba_ints) ?_))
  k_with "call builtin:bytes.startswith" => (k_here; first | (refine call_starts (x := 45) (x' := 45) rfl (by kba_ints) ?_) | (refine call_starts (x := 33) (x' := 33) rfl (by kba_ints) ?_))
  k_with "subscriptTail" => (k_here; (with_reducible show wpAny _ _ (subscriptTail _ _ (Value.ref 53) (Value.bytes _ _)) _ _ _); k_dflt (refine class_alnum (by k_asm) (by k_asm) ?_))
  k_with "call ref" => (k_here; (with_reducible show wpAny _ _ (call (.ref 95) _) _ _ _); k_dflt ((refine' con_useP (within_con _ _ _) ?B ?F ?X ?N ?T ?k ?hd ?hu ?_; skip; (case B => k_asm); (case F => k_asm); (case X => k_asm); (case N => k_asm); (case T => k_asm); (case k => exact rfl); (case hd => (dsimp only [ktrTop]; omega)); (case hu => (dsimp only [ktrTop]; omega)); (rintro _ _ kh ktk kF kN kE; subst kE; all_goals (try dsimp only [List.nil_append, List.cons_append] at kN)))))
  k_with "call ref" => (k_here; (with_reducible show wpAny _ _ (call (.ref 52) _) _ _ _); k_dflt ((refine' con_useP (text_con _ _ _ _ ?hb ?hz) ?B ?F ?X ?N ?T ?k ?hd ?hu ?_; (case hb => kba_ints); (case hz => omega); (case B => k_asm); (case F => k_asm); (case X => k_asm); (case N => k_asm); (case T => k_asm); (case k => exact rfl); (case hd => (dsimp only [ktrTop]; omega)); (case hu => (dsimp only [ktrTop]; omega)); (rintro _ _ kh ktk kF kN ⟨kt, kE⟩; subst kE; all_goals (try dsimp only [List.nil_append, List.cons_append] at kN)))))
  trivial
def sgnB (n : Int) : Bool := decide (n = 45 ∨ n = 46 ∨ n = 95) || alnumB n
def nameB (ks : List Int) : Bool := !ks.isEmpty && decide (ks.head? ≠ some 45) && ks.all sgnB
def nameP (ks : List Int) : Option (List Int) := if nameB ks = true then some ks else none
theorem sgn_in {k : Int} (h : ([45, 46, 95].any fun x => x == k) = true) : sgnB k = true := by
  unfold sgnB
  simp only [List.any_cons, List.any_nil, Bool.or_false, Bool.or_eq_true, beq_iff_eq] at h
  rw [Bool.or_eq_true, decide_eq_true_eq]; left; omega
theorem sgn_al {k : Int} (h : alnumB k = true) : sgnB k = true := by unfold sgnB; rw [h, Bool.or_true]
def nameV (x : Option (List Int)) (r : Value) : Prop := match x with
  | none => r = .none
  | some l => ∃ t, r = .str (textS l) t
section
variable {b : Array UInt8} {ks : List Int}
theorem empty_of (hk : KBw.bInts b = ks) (h : (b.toList == (#[] : Array UInt8).toList) = true) : ks = [] := by
  have h : b.toList = [] := by simpa using h
  rw [← hk]; unfold KBw.bInts; rw [h]; rfl
theorem full_of (hk : KBw.bInts b = ks) (h : (b.toList == (#[] : Array UInt8).toList) = false) : ks ≠ [] := by
  intro q
  rw [← hk] at q
  unfold KBw.bInts at q
  have : b.toList = [] := by simpa using q
  rw [this] at h; cases h
theorem name_no (h : nameB ks = false) : nameV (nameP ks) .none := by unfold nameP; rw [h]; rfl
theorem name_empty (hk : KBw.bInts b = ks) (h : (b.toList == (#[] : Array UInt8).toList) = true) : nameV (nameP ks) .none := name_no (by rw [empty_of hk h]; rfl)
theorem name_dash (h : ks.head? = some 45) : nameV (nameP ks) .none := name_no (by unfold nameB; rw [decide_eq_false (fun q => q h), Bool.and_false]; rfl)
theorem name_bad {k : Int} (hm : k ∈ ks) (h : sgnB k = false) : nameV (nameP ks) .none := name_no (by
  unfold nameB
  rw [Bool.and_eq_false_iff]; right
  rw [List.all_eq_false]
  exact ⟨k, hm, by rw [h]; exact Bool.false_ne_true⟩)
theorem sgn_no {k : Int} (h : alnumB k = false) (h2 : ([45, 46, 95].any fun x => x == k) = false) : sgnB k = false := by
  unfold sgnB
  rw [h, Bool.or_false, decide_eq_false_iff_not]
  intro q
  have : ([45, 46, 95].any fun x => x == k) = true := by
    simp only [List.any_cons, List.any_nil, Bool.or_false, Bool.or_eq_true, beq_iff_eq]; omega
  rw [this] at h2; cases h2
theorem name_ok {t : Tok} (hk : KBw.bInts b = ks) (h1 : (b.toList == (#[] : Array UInt8).toList) = false) (h2 : ¬ ks.head? = some 45) (h3 : ∀ v ∈ ks, sgnB v = true) : nameV (nameP ks) (.str (textS ks) t) := by
  have : nameB ks = true := by
    unfold nameB
    rw [decide_eq_true h2, List.all_eq_true.mpr h3]
    have := full_of hk h1
    cases ks with
    | nil => exact absurd rfl this
    | cons => rfl
  unfold nameP; rw [this]; exact ⟨t, rfl⟩
end
theorem words_C_name_2 : True := by
  k_with "eval ListComp" => (k_here; (with_reducible show wpAny _ _ (eval (PySem.Expr.ListComp _ [PySem.Comprehension.mk _ _ [] _] _ _) _) _ _ _); k_dflt (refine cmp_eval0 (F₀ := by k_asm) (by with_unfolding_all rfl) (by decide) (by rfl) (by decide) ?_))
  k_with "exec Assign cons ListComp" => (k_here; (with_reducible show wpAny _ _ (exec (PySem.Stmt.Assign _ (PySem.Expr.ListComp _ [PySem.Comprehension.mk _ _ [] _] _ _) _) _) _ _ _); k_dflt (refine cmp_assign0 (F₀ := by k_asm) (by rfl) (by with_unfolding_all rfl) (by with_unfolding_all rfl) (by decide) (by rfl) (by decide) (by rfl) (by rfl) ?_))
  k_with "eval ListComp" => (k_here; (with_reducible show wpAny _ _ (eval (PySem.Expr.ListComp _ [PySem.Comprehension.mk _ _ [_] _] _ _) _) _ _ _); k_dflt (refine cmp_eval1 (F₀ := by k_asm) (by with_unfolding_all rfl) (by decide) (by rfl) (by decide) ?_))
  k_with "exec Assign cons ListComp" => (k_here; (with_reducible show wpAny _ _ (exec (PySem.Stmt.Assign _ (PySem.Expr.ListComp _ [PySem.Comprehension.mk _ _ [_] _] _ _) _) _) _ _ _); k_dflt (refine cmp_assign1 (F₀ := by k_asm) (by rfl) (by with_unfolding_all rfl) (by with_unfolding_all rfl) (by decide) (by rfl) (by decide) (by rfl) (by rfl) ?_))
  k_with "pyIter bytes" => (k_here; k_dflt (refine iter_search (fun v => sgnB v = true) (by kba_ints) (by exact rfl) (by k_asm) (by k_asm) ?_ ?_; (focus (intro ki kk kt kh ktk kown kE kLo kHi kG kOff kF kN; (try dsimp only [List.nil_append, List.cons_append] at kN))); (rotate_left 1); (focus (intro ku kh ktk kG kF kN)); (rotate_left 1)))
  k_with "InvEndN" => (k_here; (refine search_end (by first | exact sgn_in (by with_reducible assumption) | exact sgn_al (by with_reducible assumption)) (by with_reducible assumption) (by with_reducible assumption) (by k_asm) (by k_asm) (fun p hp => by first | (exact nomatch hp) | (simp only [List.mem_cons, List.mem_append] at hp ⊢; first | exact hp | simp_all)) (fun p hp => by first | exact hp | (simp only [List.mem_cons, List.mem_append] at hp ⊢; simp_all))))
  trivial
set_option maxHeartbeats 4000000 in
theorem name_con (w : World) (b : Array UInt8) (t : Tok) (ks : List Int) (hks : KBw.bInts b = ks) (hz : ks.length ≤ 4000) : Con w 129 [.bytes b t] [] 120 300 (fun r _ => nameV (nameP ks) r) := by
  refine con_enter (i := 13) (nm := "attribute_name") (c := 128) [("octets", .bytes b t)] (by conv => lhs; whnf) (by k_is) (by k_is) rfl rfl ?_
  intro mean mg mb dp un gd cn cs a ccd cl outer base L s hd hu g L' h₁ F' N' B' X' T'
  k_fold
  k_steps
  all_goals (
    show LeaveC g s _ _ _
    refine LeaveC.intro (by k_asm) (by k_asm) [] (fun _ h => nomatch h) ?_)
  all_goals first
    | exact name_empty hks (by with_reducible assumption)
    | exact name_dash (by with_reducible assumption)
    | exact name_bad (List.mem_of_getElem? (by with_reducible assumption)) (sgn_no (by with_reducible assumption) (by with_reducible assumption))
    | exact name_ok hks (by with_reducible assumption) (by with_reducible assumption) (by with_reducible assumption)
end Pb93
end
section
open PySem PySem.W PyProof.Rows PySem.Spec PySem.Calls
namespace Pb93
theorem words_C_lname_1 : True := by
  k_with_none
  k_with "getMethod bytes" => (k_here; first | (with_reducible refine meth_ends ?_) | (with_reducible refine meth_starts ?_))
  k_with "call builtin:bytes.endswith" => (k_here; first | (refine call_ends (x := 10) (x' := 10) rfl (by kba_ints) ?_) | (refine call_ends (x := 13) (x' := 13) rfl (by kba_ints) ?_))
  k_with "call builtin:bytes.startswith" => (k_here; first | (refine call_starts (x := 45) (x' := 45) rfl (by kba_ints) ?_) | (refine call_starts (x := 33) (x' := 33) rfl (by kba_ints) ?_))
  k_with "call ref" => (k_here; (with_reducible show wpAny _ _ (call (.ref 155) _) _ _ _); k_dflt ((refine' con_useP (ltext_con _ _ _ _ ?hb ?hz) ?B ?F ?X ?N ?T ?k ?hd ?hu ?_; (case hb => kba_ints); (case hz => omega); (case B => k_asm); (case F => k_asm); (case X => k_asm); (case N => k_asm); (case T => k_asm); (case k => exact rfl); (case hd => (dsimp only [ktrTop]; omega)); (case hu => (dsimp only [ktrTop]; omega)); (rintro _ _ kh ktk kF kN ⟨kt, kE⟩; subst kE; all_goals (try dsimp only [List.nil_append, List.cons_append] at kN)))))
  trivial
def goodL : List Int := "abcdefghijklmnopqrstuvwxyzABCDEFGHIJKLMNOPQRSTUVWXYZ0123456789_.-".toList.map fun c => (c.toNat : Int)
def BJ (news : Led) (ks : List Int) (i : Nat) (ys : List Value) (nw : Led) : Prop := nw = news ∧ IntsAre ys ((ks.take i).filter fun k => !sgnB k)
theorem BJ_start {news : Led} {ks : List Int} : BJ news ks 0 [] news := ⟨rfl, by rw [List.take_zero]; exact .nil⟩
theorem pos_of {b : Array UInt8} {ks : List Int} (hk : KBw.bInts b = ks) (h : (b.toList == (#[] : Array UInt8).toList) = false) : (0 : Int) < (ks.length : Int) := by
  have := full_of hk h
  have := List.length_pos_iff.mpr this
  omega
theorem words_C_lname_2 : True := by
  k_with "subscriptTail" => (k_here; (with_reducible show wpAny _ _ (subscriptTail _ _ (Value.bytes _ _) (Value.int 0 _)) _ _ _); (refine KBw.item_K (by kba_ints) (by kba_size) (by decide) (by exact pos_of (by with_reducible assumption) (by with_reducible assumption)) ?_))
  trivial
theorem BJ_end {news : Led} {ks : List Int} {ys : List Value} {nw : Led} (h : BJ news ks ks.length ys nw) : IntsAre ys (ks.filter fun k => !sgnB k) := by
  have := h.2
  rw [List.take_length] at this; exact this
theorem good_small : ∀ n : Nat, n < 256 → (goodL.contains (n : Int)) = sgnB (n : Int) := by decide +kernel
theorem good_is {k : Int} (h0 : 0 ≤ k) (h1 : k < 256) : goodL.contains k = sgnB k := by
  have := good_small k.toNat (by omega)
  rwa [show ((k.toNat : Nat) : Int) = k by omega] at this
theorem notin_good {prog : Program} {w : World} {A : Around} {E : Value → Shared → Prop} {s : Shared} {b : Array UInt8} {t u : Tok} {k : Int} {Q : Value → Shared → Prop} (h0 : 0 ≤ k) (h1 : k < 256) (hb : KBw.bInts b = goodL) (h : Q (.bool (!sgnB k)) s) : wpAny (model prog w) A (compareOp .NotIn (.int k u) (.bytes b t)) Q E s := by
  refine notin_int h0 h1 ?_
  rw [hb, good_is h0 h1]; exact h
theorem words_C_lname_3 : True := by
  k_with "compareOp NotIn int bytes" => (k_here; k_dflt (refine notin_good (by with_reducible assumption) (by with_reducible assumption) (by decide +kernel) ?_))
  trivial
theorem ints_snoc {vs : List Value} {zs : List Int} {z : Int} {t : Tok} (q : IntsAre vs zs) : IntsAre (vs ++ [.int z t]) (zs ++ [z]) := by
  induction q with
  | nil => exact .cons z t .nil
  | cons c u q ih => exact .cons c u ih
theorem BJ_take {news : Led} {ks : List Int} {i : Nat} {k : Int} {ys : List Value} {nw : Led} {t : Tok} (e : ks[i]? = some k) (hs : sgnB k = false) (h : BJ news ks i ys nw) : BJ news ks (i + 1) (ys ++ [.int k t]) nw := by
  refine ⟨h.1, ?_⟩
  rw [List.take_add_one, e]
  show IntsAre _ (List.filter _ (_ ++ [k]))
  rw [List.filter_append, List.filter_cons_of_pos (p := fun k => !sgnB k) (by rw [hs]; rfl)]
  exact ints_snoc h.2
theorem BJ_skip {news : Led} {ks : List Int} {i : Nat} {k : Int} {ys : List Value} {nw : Led} (e : ks[i]? = some k) (hs : sgnB k = true) (h : BJ news ks i ys nw) : BJ news ks (i + 1) ys nw := by
  refine ⟨h.1, ?_⟩
  rw [List.take_add_one, e]
  show IntsAre _ (List.filter _ (_ ++ [k]))
  rw [List.filter_append, List.filter_cons_of_neg (p := fun k => !sgnB k) (by rw [hs]; exact Bool.false_ne_true)]
  simpa using h.2
theorem lname_dash {b : Array UInt8} {ks : List Int} (hk : KBw.bInts b = ks) (h1 : (b.toList == (#[] : Array UInt8).toList) = false) (h2 : ks.getD (Int.toNat 0) 0 = 45) : nameV (nameP ks) .none := by
  have := full_of hk h1
  cases ks with
  | nil => exact absurd rfl this
  | cons k r => exact name_dash (by rw [show k = 45 from h2]; rfl)
theorem lname_bad {ks : List Int} (h : decide (ks.filter (fun k => !sgnB k) = []) = false) : nameV (nameP ks) .none := by
  have h := of_decide_eq_false h
  obtain ⟨k, hk⟩ := List.exists_mem_of_ne_nil _ h
  rw [List.mem_filter] at hk
  exact name_bad hk.1 (by simpa using hk.2)
theorem lname_ok {b : Array UInt8} {ks : List Int} {t : Tok} (hk : KBw.bInts b = ks) (h1 : (b.toList == (#[] : Array UInt8).toList) = false) (h2 : ks.getD (Int.toNat 0) 0 ≠ 45) (h : decide (ks.filter (fun k => !sgnB k) = []) = true) : nameV (nameP ks) (.str (textS ks) t) := by
  have h := of_decide_eq_true h
  refine name_ok hk h1 (fun q => ?_) fun v hv => ?_
  · cases ks with
    | nil => cases q
    | cons k r => injection q with q; exact h2 q
  · rw [List.filter_eq_nil_iff] at h
    have := h v hv
    simpa using this
theorem words_C_lname_4 : True := by
  k_with "CmpEnd" => (k_here; refine CmpEnd.mk2 (by first | exact BJ_take (by with_reducible assumption) (by with_reducible assumption) (by with_reducible assumption) | exact BJ_skip (by with_reducible assumption) (by with_reducible assumption) (by with_reducible assumption)) (by with_reducible assumption) (by with_reducible assumption) (by k_asm) (by k_asm) (by (first | exact fun p hp => hp | (intro p hp; (try simp only [List.mem_cons, List.mem_append, List.not_mem_nil, or_false, false_or] at hp ⊢); (first | exact hp | (rcases hp with hp | hp | hp <;> simp [hp]) | (rcases hp with hp | hp | hp | hp <;> simp [hp]) | simp_all)))))
  k_with "eval ListComp" => (k_here; (with_reducible show wpAny _ _ (eval (PySem.Expr.ListComp _ [PySem.Comprehension.mk _ _ [] _] _ _) _) _ _ _); k_dflt (refine cmp_eval0 (F₀ := by k_asm) (by with_unfolding_all rfl) (by decide) (by rfl) (by decide) ?_))
  k_with "exec Assign cons ListComp" => (k_here; (with_reducible show wpAny _ _ (exec (PySem.Stmt.Assign _ (PySem.Expr.ListComp _ [PySem.Comprehension.mk _ _ [] _] _ _) _) _) _ _ _); k_dflt (refine cmp_assign0 (F₀ := by k_asm) (by rfl) (by with_unfolding_all rfl) (by with_unfolding_all rfl) (by decide) (by rfl) (by decide) (by rfl) (by rfl) ?_))
  k_with "eval ListComp" => (k_here; (with_reducible show wpAny _ _ (eval (PySem.Expr.ListComp _ [PySem.Comprehension.mk _ _ [_] _] _ _) _) _ _ _); k_dflt (refine cmp_eval1 (F₀ := by k_asm) (by with_unfolding_all rfl) (by decide) (by rfl) (by decide) ?_))
  k_with "exec Assign cons ListComp" => (k_here; (with_reducible show wpAny _ _ (exec (PySem.Stmt.Assign _ (PySem.Expr.ListComp _ [PySem.Comprehension.mk _ _ [_] _] _ _) _) _) _ _ _); k_dflt (refine cmp_assign1 (F₀ := by k_asm) (by rfl) (by with_unfolding_all rfl) (by with_unfolding_all rfl) (by decide) (by rfl) (by decide) (by rfl) (by rfl) ?_))
  k_with "CmpSrc" => (k_here; k_dflt (refine src_bytesK BJ (by exact rfl) (by kba_ints) (by omega) (by k_asm) (by k_asm) (by rfl) (by rfl) (by exact BJ_start) ?_ ?_; (focus (intro kS ki kk kt kI kE kLo kHi kG kNlt; refine CmpTurn.test ?_; intro kC koC kD km kys knw kh ktk kown kE' kJ kLe kNs kLook kF kN kOff kOwn kNe kCf kDf kIo; ((have kJ1 := kJ.1); subst kJ1); (try dsimp only [List.nil_append, List.cons_append] at kN))); (rotate_left 1); (focus (intro kg kys knw kJ; ((have kJ1 := kJ.1); subst kJ1; (have kI := BJ_end kJ)))); (rotate_left 1)))
  trivial
set_option maxHeartbeats 4000000 in
theorem lname_con (w : World) (b : Array UInt8) (t : Tok) (ks : List Int) (hks : KBw.bInts b = ks) (hz : ks.length ≤ 4000) : Con w 160 [.bytes b t] [] 120 300 (fun r _ => nameV (nameP ks) r) := by
  refine con_enterC (i := 19) (nm := "_law_name") (c := 159) [("octets", .bytes b t)] (by conv => lhs; whnf) (by k_is) (by k_is) rfl rfl (by decide +kernel) ?_
  intro mean mg mb dp un gd cn cs a ccd cl outer base L s hd hu g L' h₁ tk' cells' F' N' Y' B' X' T' l1
  k_lt l1
  k_cells Y'
  try simp only [List.cons_append, List.nil_append] at N'
  try dsimp only
  change wpAny _ _ _ _ _ _
  k_fold
  k_steps
  all_goals (
    show LeaveC g s _ _ _
    refine LeaveC.intro (by k_asm) (by k_asm) [] (fun _ h => nomatch h) ?_)
  all_goals first
    | exact name_empty hks (by with_reducible assumption)
    | exact lname_dash hks (by with_reducible assumption) (by with_reducible assumption)
    | exact lname_bad (by with_reducible assumption)
    | exact lname_ok hks (by with_reducible assumption) (by with_reducible assumption) (by with_reducible assumption)
end Pb93
end
section
open PySem PySem.W PyProof.Rows PySem.Spec PySem.Calls
namespace Pb93
section
variable {prog : Program} {w : World} {A : Around} {E : Value → Shared → Prop} {s : Shared} {h₀ : Heap} {L D : Addr} {m : Str → Option Value} {news news' : Led} {vs : List Value} {x v : Value} {n : Nat} {u : Tok}
theorem get_last {value slice : PySem.Expr} {Q : Value → Shared → Prop} (N : News h₀ L s.heap news) (hm : (D, W.listOf (vs ++ [x]).toArray n) ∈ news) (h : Q x s)
    (hb : subscripted slice false (.ref D) (.int (-1) u) = operate [.ref D, .int (-1) u] (getItem (.ref D) (.int (-1) u)) := by with_unfolding_all rfl) :
    wpAny (model prog w) A (subscriptTail value slice (.ref D) (.int (-1) u)) Q E s := by
  have hl : s.heap.IsList D (vs ++ [x]).toArray := ⟨_, (N _ hm).1, rfl, n, rfl⟩
  have hs : (vs ++ [x]).toArray.size = vs.length + 1 := by simp
  refine tail_any hl.typeIs slot_list_getitem.lookup (wpAny_getItem_list_neg hl (by decide) (by rw [hs]; omega) (by decide) ?_ h) hb
  rw [hs, show ((-1 : Int) + ((vs.length + 1 : Nat) : Int)).toNat = vs.length by omega]
  simp
theorem set_last {Q : Unit → Shared → Prop} (F : Fr h₀ L s.heap m) (Nw : News h₀ L s.heap news) (U : Upd D (W.listOf (vs ++ [x]).toArray n) (W.listOf (vs ++ [v]).toArray n) news news')
    (h : ∀ h', Fr h₀ L h' m → News h₀ L h' news' → Q () { s with heap := h' }) : wpAny (model prog w) A (setItem (.ref D) (.int (-1) u) v) Q E s := by
  obtain ⟨pre, post, rfl, rfl, a, b⟩ := U.split
  have z := Nw (D, W.listOf (vs ++ [x]).toArray n) (List.mem_append.mpr (.inr (.head _)))
  have hs : (vs ++ [x]).toArray.size = vs.length + 1 := by simp
  refine ki_setBack z.1 (by decide) (by rw [hs]; omega) (by decide) (h _ (F.change (Heap.SameBut.update ..) z.2.1 z.2.2) (ki_turn _ Nw a b ?_ ?_))
  · show (vs ++ [x]).toArray.setIfInBounds _ v = _
    rw [hs, show ((-1 : Int) + ((vs.length + 1 : Nat) : Int)).toNat = vs.length by omega]
    simp
  · rw [if_pos (by simp)]
end
theorem bys_snoc {vs : List Value} {bs : List (Array UInt8)} {b : Array UInt8} {t : Tok} (q : BysAre vs bs) : BysAre (vs ++ [.bytes b t]) (bs ++ [b]) := by
  induction q with
  | nil => exact .cons b t .nil
  | cons c u q ih => exact .cons c u ih
theorem bys_last {vs : List Value} : ∀ {bs : List (Array UInt8)}, BysAre vs bs → bs ≠ [] → ∃ ws b t cs, vs = ws ++ [.bytes b t] ∧ bs = cs ++ [b] ∧ BysAre ws cs := by
  intro bs h
  induction h with
  | nil => intro q; exact absurd rfl q
  | @cons b t vs bs h ih =>
    intro _
    cases h with
    | nil => exact ⟨[], b, t, [], rfl, rfl, .nil⟩
    | cons c u h' =>
      obtain ⟨ws, b', t', cs, e1, e2, e3⟩ := ih (by simp)
      exact ⟨.bytes b t :: ws, b', t', b :: cs, by rw [e1]; rfl, by rw [e2]; rfl, .cons b t e3⟩
/-- the words of a row, as the law's own loop gathers them -/
abbrev isBl (c : Int) : Prop := c = 32 ∨ c = 9 ∨ c = 13
def wStep (st : List (List Int) × Bool) (c : Int) : List (List Int) × Bool :=
  if isBl c then (st.1, false) else if st.2 = true then (st.1.dropLast ++ [st.1.getLastD [] ++ [c]], true) else (st.1 ++ [[c]], true)
def wRun (ks : List Int) : List (List Int) × Bool := ks.foldl wStep ([], false)
theorem wRun_ne (ks : List Int) : (wRun ks).2 = true → (wRun ks).1 ≠ [] := by
  unfold wRun
  have : ∀ (l : List Int) (st : List (List Int) × Bool), (st.2 = true → st.1 ≠ []) → (l.foldl wStep st).2 = true → (l.foldl wStep st).1 ≠ [] := by
    intro l
    induction l with
    | nil => intro st h; exact h
    | cons c l ih =>
      intro st h
      rw [List.foldl_cons]
      refine ih _ fun q => ?_
      unfold wStep at q ⊢
      split at q
      · cases q
      · rename_i hb
        rw [if_neg hb]
        split <;> simp
  exact this ks _ (by simp)
def splB : List Int → List (List Int)
  | [] => [[]]
  | c :: r => if isBl c then [] :: splB r else match splB r with | h :: t => (c :: h) :: t | [] => [[c]]
theorem splB_ne : ∀ l, ∃ h t, splB l = h :: t
  | [] => ⟨_, _, rfl⟩
  | c :: r => by
    obtain ⟨h, t, e⟩ := splB_ne r
    unfold splB
    rw [e]
    split <;> exact ⟨_, _, rfl⟩
def neW (l : List Int) : Bool := !l.isEmpty
theorem wRun_fold : ∀ (l : List Int) (st : List (List Int) × Bool) (h : List Int) (t : List (List Int)), (st.2 = true → st.1 ≠ []) → splB l = h :: t →
    (l.foldl wStep st).1 = (if st.2 = true then st.1.dropLast ++ [st.1.getLastD [] ++ h] ++ t.filter neW else st.1 ++ (h :: t).filter neW)
  | [], st, h, t, hn, e => by
    cases e
    rw [List.foldl_nil]
    split
    · rename_i q
      have := hn q
      obtain ⟨r, z, e⟩ := (List.eq_nil_or_concat st.1).resolve_left this
      rw [e]
      simp [List.getLastD_eq_getLast?]
    · simp [neW]
  | c :: l, st, h, t, hn, e => by
    obtain ⟨h', t', e'⟩ := splB_ne l
    rw [List.foldl_cons]
    unfold splB at e
    by_cases hb : isBl c
    · rw [if_pos hb] at e
      injection e with e1 e2
      subst e1 e2
      have w : wStep st c = (st.1, false) := by unfold wStep; rw [if_pos hb]
      rw [w, wRun_fold l (st.1, false) h' t' (by simp) e', e']
      dsimp only
      rw [if_neg (by simp)]
      split
      · rename_i q
        have := hn q
        obtain ⟨r, z, e⟩ := (List.eq_nil_or_concat st.1).resolve_left this
        rw [e]
        simp [List.getLastD_eq_getLast?]
      · simp [neW]
    · rw [if_neg hb, e'] at e
      injection e with e1 e2
      subst e1 e2
      by_cases q : st.2 = true
      · have w : wStep st c = (st.1.dropLast ++ [st.1.getLastD [] ++ [c]], true) := by unfold wStep; rw [if_neg hb, if_pos q]
        rw [w, wRun_fold l _ h' t' (by simp) e']
        dsimp only
        rw [if_pos rfl, if_pos q]
        simp
      · have w : wStep st c = (st.1 ++ [[c]], true) := by unfold wStep; rw [if_neg hb, if_neg q]
        rw [w, wRun_fold l _ h' t' (by simp) e']
        dsimp only
        rw [if_pos rfl, if_neg q]
        simp [neW]
theorem wRun_eq (ks : List Int) : (wRun ks).1 = (splB ks).filter neW := by
  obtain ⟨h, t, e⟩ := splB_ne ks
  unfold wRun
  rw [wRun_fold ks ([], false) h t (by simp) e, e]
  simp
theorem splits_eq {bs : List (Array UInt8)} {ks : List Int} (h : Splits 32 bs (subI 13 32 (subI 9 32 ks))) : bs.map KBw.bInts = splB ks := by
  obtain ⟨b, c, hc, hk, he⟩ := h
  have hc' : c = 32 := byte_inj.mp (by rw [hc]; rfl)
  subst hc'
  have e1 : bs.map KBw.bInts = (bs.map Array.toList).map fun l => l.map fun d => (d.toNat : Int) := by rw [List.map_map]; rfl
  rw [e1, he]
  have : ∀ (l : List UInt8) (ks : List Int), (l.map fun d => (d.toNat : Int)) = subI 13 32 (subI 9 32 ks) → (spl 32 l).map (fun l => l.map fun d => (d.toNat : Int)) = splB ks := by
    intro l
    induction l with
    | nil =>
      intro ks e
      cases ks with
      | nil => rfl
      | cons k ks => simp [subI] at e
    | cons d l ih =>
      intro ks e
      cases ks with
      | nil => simp [subI] at e
      | cons k ks =>
        simp only [subI, List.map_cons, List.cons.injEq] at e
        have ih' := ih ks (by simpa [subI] using e.2)
        obtain ⟨h, t, es⟩ := spl_ne 32 l
        unfold spl splB
        have hd : d = 32 ↔ isBl k := by
          rw [← byte_inj, e.1]
          show _ = (32 : Int) ↔ k = 32 ∨ k = 9 ∨ k = 13
          by_cases q : k = 9
          · simp [q]
          · rw [if_neg q]
            by_cases q2 : k = 13
            · simp [q2]
            · rw [if_neg q2]; omega
        by_cases q : d = 32
        · rw [if_pos q, if_pos (hd.mp q), List.map_cons, ih']; rfl
        · have q2 : ¬ isBl k := fun z => q (hd.mpr z)
          rw [if_neg q, if_neg q2, ← ih', es]
          have : (d.toNat : Int) = k := by
            rw [e.1]
            unfold isBl at q2
            rw [if_neg (show ¬ k = 9 by omega), if_neg (by omega)]
          simp [this]
  exact this b.toList ks hk
end Pb93
end
section
open PySem PySem.W PyProof.Rows PySem.Spec PySem.Calls
namespace Pb93
/-- what a word's value is -/
inductive VV
  | yes | no | nil
  | txt (l : List Int)
def valV (v : VV) (x : Value) : Prop := match v with
  | .yes => x = .bool true
  | .no => x = .bool false
  | .nil => x = .none
  | .txt l => ∃ t, x = .str (textS l) t
abbrev tupO (x y : Value) : Obj := { cls := .type "tuple", data := .seq #[x, y] }
/-- a word's pair, or None -/
def PairV (d : Option (List Int × VV)) (r : Value) (new : Led) : Prop := match d with
  | none => r = .none ∧ new = []
  | some (n, v) => ∃ a t x, r = .ref a ∧ new = [(a, tupO (.str (textS n) t) x)] ∧ valV v x
def eqAt (ks : List Int) : Option Nat := ks.findIdx? (· == 61)
def mkP (n : List Int) (v : VV) : Option (List Int × VV) := (nameP n).map (·, v)
def toldP (ks : List Int) : Option (List Int × VV) :=
  if ks.head? = some 45 then mkP (ks.drop 1) .no else if ks.head? = some 33 then mkP (ks.drop 1) .nil
  else match eqAt ks with
    | some i => mkP (ks.take i) (.txt (ks.drop (i + 1)))
    | none => mkP ks .yes
def pairP (ks : List Int) : Option (List Int × VV) := match eqAt ks with
  | some i => mkP (ks.take i) (.txt (ks.drop (i + 1)))
  | none => if ks.head? = some 45 then mkP (ks.drop 1) .no else if ks.head? = some 33 then mkP (ks.drop 1) .nil else mkP ks .yes
theorem mkP_bad {n : List Int} {v : VV} (h : nameB n = false) : mkP n v = none := by unfold mkP nameP; rw [h]; rfl
theorem nameB_mem {n : List Int} {k : Int} (hm : k ∈ n) (h : sgnB k = false) : nameB n = false := by
  unfold nameB
  rw [Bool.and_eq_false_iff]; right
  rw [List.all_eq_false]
  exact ⟨k, hm, by rw [h]; exact Bool.false_ne_true⟩
theorem pair_told (ks : List Int) : pairP ks = toldP ks := by
  unfold pairP toldP
  cases he : eqAt ks with
  | none => rfl
  | some i =>
    dsimp only
    obtain ⟨hi, hx, _⟩ := List.findIdx?_eq_some_iff_getElem.mp he
    have hx : ks[i] = 61 := by simpa using hx
    cases ks with
    | nil => simp at hi
    | cons k r =>
      by_cases h1 : k = 45
      · subst h1
        rw [if_pos (show (45 :: r).head? = some 45 from rfl)]
        have i0 : i ≠ 0 := fun q => by subst q; simp at hx
        obtain ⟨j, rfl⟩ := Nat.exists_eq_succ_of_ne_zero i0
        rw [mkP_bad (v := .txt _) (show nameB (List.take (j + 1) (45 :: r)) = false from by
          rw [List.take_succ_cons]; unfold nameB; simp)]
        refine (mkP_bad (nameB_mem (k := 61) ?_ (by decide))).symm
        rw [List.getElem_cons_succ] at hx
        rw [← hx]; exact List.getElem_mem ..
      · rw [if_neg (by simpa using h1)]
        by_cases h2 : k = 33
        · subst h2
          rw [if_pos (show (33 :: r).head? = some 33 from rfl)]
          have i0 : i ≠ 0 := fun q => by subst q; simp at hx
          obtain ⟨j, rfl⟩ := Nat.exists_eq_succ_of_ne_zero i0
          rw [mkP_bad (v := .txt _) (show nameB (List.take (j + 1) (33 :: r)) = false from nameB_mem (k := 33) (by rw [List.take_succ_cons]; exact List.mem_cons_self) (by decide))]
          refine (mkP_bad (nameB_mem (k := 61) ?_ (by decide))).symm
          rw [List.getElem_cons_succ] at hx
          rw [← hx]; exact List.getElem_mem ..
        · rw [if_neg (by simpa using h2)]
theorem name_cases {x : Option (List Int)} {r : Value} (h : nameV x r) : (x = none ∧ r = .none) ∨ ∃ n t, x = some n ∧ r = .str (textS n) t := by
  cases x with
  | none => exact .inl ⟨rfl, h⟩
  | some n => obtain ⟨t, h⟩ := h; exact .inr ⟨n, t, rfl, h⟩
section
variable {prog : Program} {w : World} {A : Around} {E : Value → Shared → Prop} {s : Shared} {b : Array UInt8} {t u : Tok} {ks : List Int} {h₀ : Heap} {L : Addr} {m : Str → Option Value} {news : Led}
theorem in_eq {Q : Value → Shared → Prop} (hk : KBw.bInts b = ks) (hh : A.handled = none) (F : Fr h₀ L s.heap m) (N : News h₀ L s.heap news)
    (h : ∀ h' tk, Fr h₀ L h' m → News h₀ L h' news → Q (.bool (eqAt ks).isSome) { s with heap := h', toks := tk }) : wpAny (model prog w) A (compareOp .In (.bytes #[61] u) (.bytes b t)) Q E s := by
  subst hk
  refine in_bytes hh F N fun h' tk F' N' => ?_
  rw [find_is]
  exact h h' tk F' N'
theorem find_eq {Q : Value → Shared → Prop} (hi : (eqAt ks).isSome = true) (hk : KBw.bInts b = ks) (h : ∀ n t' k, eqAt ks = some n → n < ks.length → Q (.int (n : Nat) t') { s with toks := k }) : wpAny (model prog w) A (call (.builtin "bytes.find") [.bytes b t, .bytes #[61] u]) Q E s := by
  obtain ⟨n, hn⟩ := Option.isSome_iff_exists.mp hi
  exact call_find (x := 61) (x' := 61) rfl hk hn fun t' k => h n t' k hn (by obtain ⟨h, _⟩ := List.findIdx?_eq_some_iff_getElem.mp hn; exact h)
theorem index_eq61 {Q : Value → Shared → Prop} (hi : (eqAt ks).isSome = true) (hk : KBw.bInts b = ks) (h : ∀ n t' k, eqAt ks = some n → n < ks.length → Q (.int (n : Nat) t') { s with toks := k }) : wpAny (model prog w) A (call (.builtin "bytes.index") [.bytes b t, .bytes #[61] u]) Q E s := by
  obtain ⟨n, hn⟩ := Option.isSome_iff_exists.mp hi
  exact call_index (x := 61) (x' := 61) rfl hk hn fun t' k => h n t' k hn (by obtain ⟨h, _⟩ := List.findIdx?_eq_some_iff_getElem.mp hn; exact h)
end

theorem clip_nat (ks : List Int) (n : Nat) : List.drop (clipAt ks.length (n : Int)) ks = ks.drop n ∧ List.take (clipAt ks.length (n : Int)) ks = ks.take n := by
  have h := clipAt_cast ks.length (n : Int)
  have h4 : ¬ ((n : Int) < 0) := by omega
  simp only [h4, if_false] at h
  by_cases q : n ≤ ks.length
  · rw [show clipAt ks.length (n : Int) = n by omega]; exact ⟨rfl, rfl⟩
  · rw [show clipAt ks.length (n : Int) = ks.length by omega, List.drop_eq_nil_of_le (Nat.le_refl _), List.drop_eq_nil_of_le (by omega), List.take_of_length_le (Nat.le_refl _), List.take_of_length_le (by omega)]; exact ⟨rfl, rfl⟩
theorem clip_from (ks : List Int) (n : Nat) : List.take (ks.length - clipAt ks.length (n : Int)) (List.drop (clipAt ks.length (n : Int)) ks) = ks.drop n := by
  rw [List.take_of_length_le (by rw [List.length_drop]; exact Nat.le_refl _), (clip_nat ks n).1]
abbrev sl1 (ks : List Int) : List Int := List.take (ks.length - clipAt ks.length 1) (List.drop (clipAt ks.length 1) ks)
theorem sl1_eq (ks : List Int) : sl1 ks = ks.drop 1 := clip_from ks 1
abbrev slA (ks : List Int) (n : Nat) : List Int := List.take (ks.length - clipAt ks.length ((n : Int) + 1)) (List.drop (clipAt ks.length ((n : Int) + 1)) ks)
theorem slA_eq (ks : List Int) (n : Nat) : slA ks n = ks.drop (n + 1) := by
  have := clip_from ks (n + 1)
  rwa [Int.natCast_add] at this
abbrev slB (ks : List Int) (n : Nat) : List Int := List.take (min n ks.length) ks
theorem slB_eq (ks : List Int) (n : Nat) : slB ks n = ks.take n := by
  by_cases h : n ≤ ks.length
  · rw [slB, Nat.min_eq_left h]
  · rw [slB, Nat.min_eq_right (by omega), List.take_of_length_le (Nat.le_refl _), List.take_of_length_le (by omega)]
section
variable {ks n : List Int} {i : Nat} {d : Option (List Int × VV)} {v : VV} {D : Addr} {t : Tok} {x : Value}
theorem pv_none {w : List Int} (e : d = mkP w v) (h : nameP w = none) : PairV d .none [] := by
  rw [e]; unfold mkP; rw [h]; exact ⟨rfl, rfl⟩
theorem pv_some {w : List Int} (e : d = mkP w v) (h : nameP w = some n) (hv : valV v x) : PairV d (.ref D) [(D, tupO (.str (textS n) t) x)] := by
  rw [e]; unfold mkP; rw [h]; exact ⟨D, t, x, rfl, rfl, hv⟩
theorem t_dash (h : ks.head? = some 45) : toldP ks = mkP (sl1 ks) .no := by unfold toldP; rw [if_pos h, sl1_eq]
theorem t_bang (h0 : ¬ ks.head? = some 45) (h : ks.head? = some 33) : toldP ks = mkP (sl1 ks) .nil := by unfold toldP; rw [if_neg h0, if_pos h, sl1_eq]
theorem t_eq (h0 : ¬ ks.head? = some 45) (h1 : ¬ ks.head? = some 33) (h : eqAt ks = some i) : toldP ks = mkP (slB ks i) (.txt (slA ks i)) := by unfold toldP; rw [if_neg h0, if_neg h1, h, slB_eq, slA_eq]
theorem t_plain (h0 : ¬ ks.head? = some 45) (h1 : ¬ ks.head? = some 33) (h : (eqAt ks).isSome = false) : toldP ks = mkP ks .yes := by
  have e : eqAt ks = none := by cases q : eqAt ks with
    | none => rfl
    | some i => rw [q] at h; cases h
  unfold toldP; rw [if_neg h0, if_neg h1, e]
theorem leave_none {g : Heap} {s : Shared} {h' : Heap} {tk' : Nat} {L' : Addr} {m' : Str → Option Value} {all : Led} (F : Fr g L' h' m') (N : News g L' h' all) (P : PairV d .none []) : LeaveC g s (fun r new => PairV d r new) .none { s with heap := h', toks := tk' } := LeaveC.intro F N [] (fun _ h => nomatch h) P
theorem leave_pair {g : Heap} {s : Shared} {h' : Heap} {tk' : Nat} {L' : Addr} {m' : Str → Option Value} {all : Led} {o : Obj} (F : Fr g L' h' m') (N : News g L' h' all) (hm : (D, o) ∈ all) (P : PairV d (.ref D) [(D, o)]) : LeaveC g s (fun r new => PairV d r new) (.ref D) { s with heap := h', toks := tk' } := LeaveC.intro F N [(D, o)] (fun p hp => by rw [List.mem_singleton.mp hp]; exact hm) P
end

section
variable {ks : List Int} {i : Nat} {p : Array UInt8}
theorem hd_eq {x : UInt8} {x' : Int} (hx : (x.toNat : Int) = x') (hK : KBw.bInts p = List.take (clipAt ks.length 1) ks) : (p.toList == (#[x] : Array UInt8).toList) = decide (ks.head? = some x') := by
  have e : KBw.bInts p = ks.take 1 := by rw [hK]; exact (clip_nat ks 1).2
  have e2 : (p.toList == (#[x] : Array UInt8).toList) = decide (KBw.bInts p = [x']) := by
    rw [Bool.eq_iff_iff, beq_iff_eq, decide_eq_true_eq]
    unfold KBw.bInts
    show p.toList = [x] ↔ _
    constructor
    · intro q; rw [q, ← hx]; rfl
    · intro q
      match hb : p.toList, q with
      | [c], q =>
        simp only [List.map_cons, List.map_nil, List.cons.injEq, and_true] at q
        rw [byte_inj.mp (q.trans hx.symm)]
      | [], q => simp at q
      | _ :: _ :: _, q => simp at q
  rw [e2, e]
  cases ks with
  | nil => simp
  | cons k r => simp
theorem hd_y {x : UInt8} {x' : Int} (hx : (x.toNat : Int) = x') (hK : KBw.bInts p = List.take (clipAt ks.length 1) ks) (h : (p.toList == (#[x] : Array UInt8).toList) = true) : ks.head? = some x' := by
  rw [hd_eq hx hK] at h; exact of_decide_eq_true h
theorem hd_n {x : UInt8} {x' : Int} (hx : (x.toNat : Int) = x') (hK : KBw.bInts p = List.take (clipAt ks.length 1) ks) (h : (p.toList == (#[x] : Array UInt8).toList) = false) : ¬ ks.head? = some x' := by
  rw [hd_eq hx hK] at h; exact of_decide_eq_false h
theorem eq_none (h : (eqAt ks).isSome = false) : eqAt ks = none := by
  cases q : eqAt ks with
  | none => rfl
  | some i => rw [q] at h; cases h
theorem p_eq (h : eqAt ks = some i) : pairP ks = mkP (slB ks i) (.txt (slA ks i)) := by unfold pairP; rw [h, slB_eq, slA_eq]
theorem p_dash (e : (eqAt ks).isSome = false) (h : ks.head? = some 45) : pairP ks = mkP (sl1 ks) .no := by unfold pairP; rw [eq_none e]; dsimp only; rw [if_pos h, sl1_eq]
theorem p_bang (e : (eqAt ks).isSome = false) (h0 : ¬ ks.head? = some 45) (h : ks.head? = some 33) : pairP ks = mkP (sl1 ks) .nil := by unfold pairP; rw [eq_none e]; dsimp only; rw [if_neg h0, if_pos h, sl1_eq]
theorem p_plain (e : (eqAt ks).isSome = false) (h0 : ¬ ks.head? = some 45) (h1 : ¬ ks.head? = some 33) : pairP ks = mkP ks .yes := by unfold pairP; rw [eq_none e]; dsimp only; rw [if_neg h0, if_neg h1]
end
end Pb93
end
section
open PySem PySem.W PyProof.Rows PySem.Spec PySem.Calls
namespace Pb93
theorem words_C_told_1 : True := by
  k_with_none
  k_with "getMethod bytes" => (k_here; first | (with_reducible refine meth_ends ?_) | (with_reducible refine meth_starts ?_))
  k_with "call builtin:bytes.endswith" => (k_here; first | (refine call_ends (x := 10) (x' := 10) rfl (by kba_ints) ?_) | (refine call_ends (x := 13) (x' := 13) rfl (by kba_ints) ?_))
  k_with "call builtin:bytes.startswith" => (k_here; first | (refine call_starts (x := 45) (x' := 45) rfl (by kba_ints) ?_) | (refine call_starts (x := 33) (x' := 33) rfl (by kba_ints) ?_))
  k_with "getMethod bytes" => (k_here; with_reducible refine meth_find ?_)
  k_with "compareOp In bytes bytes" => (k_here; k_dflt (refine in_eq (by kba_ints) (by exact rfl) (by k_asm) (by k_asm) ?_; intro kh ktk kF kN))
  k_with "call builtin:bytes.find" => (k_here; k_dflt (refine find_eq (by with_reducible assumption) (by kba_ints) ?_; intro kn kt ktk kEq kLt))
  k_with "call ref" => (k_here; (with_reducible show wpAny _ _ (call (.ref 52) _) _ _ _); k_dflt ((refine' con_useP (text_con _ _ _ _ ?hb ?hz) ?B ?F ?X ?N ?T ?k ?hd ?hu ?_; (case hb => kba_ints); (case hz => ((try simp only [List.length_take, List.length_drop]); omega)); (case B => k_asm); (case F => k_asm); (case X => k_asm); (case N => k_asm); (case T => k_asm); (case k => exact rfl); (case hd => (dsimp only [ktrTop]; omega)); (case hu => (dsimp only [ktrTop]; omega)); (rintro _ _ kh ktk kF kN ⟨kt, kE⟩; subst kE; all_goals (try dsimp only [List.nil_append, List.cons_append] at kN)))))
  k_with "call ref" => (k_here; (with_reducible show wpAny _ _ (call (.ref 129) _) _ _ _); k_dflt ((refine' con_useP (name_con _ _ _ _ ?hb ?hz) ?B ?F ?X ?N ?T ?k ?hd ?hu ?_; (case hb => kba_ints); (case hz => ((try simp only [List.length_take, List.length_drop]); omega)); (case B => k_asm); (case F => k_asm); (case X => k_asm); (case N => k_asm); (case T => k_asm); (case k => exact rfl); (case hd => (dsimp only [ktrTop]; omega)); (case hu => (dsimp only [ktrTop]; omega)); (rintro kr _ kh ktk kF kN kO;  (rcases name_cases kO with ⟨kE, kR⟩ | ⟨kn, kt, kE, kR⟩ <;> subst kR);all_goals (try dsimp only [List.nil_append, List.cons_append] at kN)))))
  trivial
set_option maxHeartbeats 4000000 in
theorem told_con (w : World) (b : Array UInt8) (t : Tok) (ks : List Int) (hks : KBw.bInts b = ks) (hz : ks.length ≤ 4000) : Con w 136 [.bytes b t] [] 200 400 (fun r new => PairV (toldP ks) r new) := by
  refine con_enter (i := 14) (nm := "attribute_told") (c := 135) [("word", .bytes b t)] (by conv => lhs; whnf) (by k_is) (by k_is) rfl rfl ?_
  intro mean mg mb dp un gd cn cs a ccd cl outer base L s hd hu g L' h₁ F' N' B' X' T'
  k_fold
  k_steps
  all_goals first
    | (show LeaveC g s _ .none _; refine leave_none (by k_asm) (by k_asm) ?_)
    | (show LeaveC g s _ (.ref _) _; refine leave_pair (by k_asm) (by k_asm) (by k_mem) ?_)
  all_goals first
    | exact pv_none (t_dash (by with_reducible assumption)) (by with_reducible assumption)
    | exact pv_some (t_dash (by with_reducible assumption)) (by with_reducible assumption) rfl
    | exact pv_none (t_bang (by with_reducible assumption) (by with_reducible assumption)) (by with_reducible assumption)
    | exact pv_some (t_bang (by with_reducible assumption) (by with_reducible assumption)) (by with_reducible assumption) rfl
    | exact pv_none (t_eq (by with_reducible assumption) (by with_reducible assumption) (by with_reducible assumption)) (by with_reducible assumption)
    | exact pv_some (t_eq (by with_reducible assumption) (by with_reducible assumption) (by with_reducible assumption)) (by with_reducible assumption) ⟨_, rfl⟩
    | exact pv_none (t_plain (by with_reducible assumption) (by with_reducible assumption) (by with_reducible assumption)) (by with_reducible assumption)
    | exact pv_some (t_plain (by with_reducible assumption) (by with_reducible assumption) (by with_reducible assumption)) (by with_reducible assumption) rfl
end Pb93
end
section
open PySem PySem.W PyProof.Rows PySem.Spec PySem.Calls
namespace Pb93
theorem words_C_lpair_1 : True := by
  k_with_none
  k_with "getMethod bytes" => (k_here; first | (with_reducible refine meth_ends ?_) | (with_reducible refine meth_starts ?_))
  k_with "call builtin:bytes.endswith" => (k_here; first | (refine call_ends (x := 10) (x' := 10) rfl (by kba_ints) ?_) | (refine call_ends (x := 13) (x' := 13) rfl (by kba_ints) ?_))
  k_with "call builtin:bytes.startswith" => (k_here; first | (refine call_starts (x := 45) (x' := 45) rfl (by kba_ints) ?_) | (refine call_starts (x := 33) (x' := 33) rfl (by kba_ints) ?_))
  k_with "getMethod bytes" => (k_here; with_reducible refine meth_index ?_)
  k_with "compareOp In bytes bytes" => (k_here; k_dflt (refine in_eq (by kba_ints) (by exact rfl) (by k_asm) (by k_asm) ?_; intro kh ktk kF kN))
  k_with "call builtin:bytes.index" => (k_here; k_dflt (refine index_eq61 (by with_reducible assumption) (by kba_ints) ?_; intro kn kt ktk kEq kLt))
  k_with "call ref" => (k_here; (with_reducible show wpAny _ _ (call (.ref 155) _) _ _ _); k_dflt ((refine' con_useP (ltext_con _ _ _ _ ?hb ?hz) ?B ?F ?X ?N ?T ?k ?hd ?hu ?_; (case hb => kba_ints); (case hz => ((try simp only [List.length_take, List.length_drop]); omega)); (case B => k_asm); (case F => k_asm); (case X => k_asm); (case N => k_asm); (case T => k_asm); (case k => exact rfl); (case hd => (dsimp only [ktrTop]; omega)); (case hu => (dsimp only [ktrTop]; omega)); (rintro _ _ kh ktk kF kN ⟨kt, kE⟩; subst kE; all_goals (try dsimp only [List.nil_append, List.cons_append] at kN)))))
  k_with "call ref" => (k_here; (with_reducible show wpAny _ _ (call (.ref 160) _) _ _ _); k_dflt ((refine' con_useP (lname_con _ _ _ _ ?hb ?hz) ?B ?F ?X ?N ?T ?k ?hd ?hu ?_; (case hb => kba_ints); (case hz => ((try simp only [List.length_take, List.length_drop]); omega)); (case B => k_asm); (case F => k_asm); (case X => k_asm); (case N => k_asm); (case T => k_asm); (case k => exact rfl); (case hd => (dsimp only [ktrTop]; omega)); (case hu => (dsimp only [ktrTop]; omega)); (rintro kr _ kh ktk kF kN kO;  (rcases name_cases kO with ⟨kE, kR⟩ | ⟨kn, kt, kE, kR⟩ <;> subst kR);all_goals (try dsimp only [List.nil_append, List.cons_append] at kN)))))
  trivial
set_option maxHeartbeats 4000000 in
theorem lpair_con (w : World) (b : Array UInt8) (t : Tok) (ks : List Int) (hks : KBw.bInts b = ks) (hz : ks.length ≤ 4000) : Con w 167 [.bytes b t] [] 200 400 (fun r new => PairV (pairP ks) r new) := by
  refine con_enter (i := 20) (nm := "_law_pair") (c := 166) [("word", .bytes b t)] (by conv => lhs; whnf) (by k_is) (by k_is) rfl rfl ?_
  intro mean mg mb dp un gd cn cs a ccd cl outer base L s hd hu g L' h₁ F' N' B' X' T'
  k_fold
  k_steps
  all_goals first
    | (show LeaveC g s _ .none _; refine leave_none (by k_asm) (by k_asm) ?_)
    | (show LeaveC g s _ (.ref _) _; refine leave_pair (by k_asm) (by k_asm) (by k_mem) ?_)
  all_goals first
    | exact pv_none (p_eq (by with_reducible assumption)) (by with_reducible assumption)
    | exact pv_some (p_eq (by with_reducible assumption)) (by with_reducible assumption) ⟨_, rfl⟩
    | exact pv_none (p_dash (by with_reducible assumption) (hd_y (x := 45) (x' := 45) rfl (by with_reducible assumption) (by with_reducible assumption))) (by with_reducible assumption)
    | exact pv_some (p_dash (by with_reducible assumption) (hd_y (x := 45) (x' := 45) rfl (by with_reducible assumption) (by with_reducible assumption))) (by with_reducible assumption) rfl
    | exact pv_none (p_bang (by with_reducible assumption) (hd_n (x := 45) (x' := 45) rfl (by with_reducible assumption) (by with_reducible assumption)) (hd_y (x := 33) (x' := 33) rfl (by with_reducible assumption) (by with_reducible assumption))) (by with_reducible assumption)
    | exact pv_some (p_bang (by with_reducible assumption) (hd_n (x := 45) (x' := 45) rfl (by with_reducible assumption) (by with_reducible assumption)) (hd_y (x := 33) (x' := 33) rfl (by with_reducible assumption) (by with_reducible assumption))) (by with_reducible assumption) rfl
    | exact pv_none (p_plain (by with_reducible assumption) (hd_n (x := 45) (x' := 45) rfl (by with_reducible assumption) (by with_reducible assumption)) (hd_n (x := 33) (x' := 33) rfl (by with_reducible assumption) (by with_reducible assumption))) (by with_reducible assumption)
    | exact pv_some (p_plain (by with_reducible assumption) (hd_n (x := 45) (x' := 45) rfl (by with_reducible assumption) (by with_reducible assumption)) (hd_n (x := 33) (x' := 33) rfl (by with_reducible assumption) (by with_reducible assumption))) (by with_reducible assumption) rfl
end Pb93
end
section
open PySem PySem.W PyProof.Rows PySem.Spec PySem.Calls
namespace Pb93
/-- a tree that calls nothing and turns no object's dict -/
def Calm {α : Type} : Sem α → Prop
  | .pure _ => True
  | .raise _ => True
  | .unsupported _ => True
  | .finish _ => True
  | .rule _ k => Calm (k ())
  | .at _ k => Calm (k ())
  | .load _ _ k => ∀ o, Calm (k o)
  | .update _ _ f k => (∀ o, (f o).dict = o.dict ∧ (f o).isFreed = o.isFreed) ∧ Calm (k ())
  | .loadIfAlive _ k => ∀ o, Calm (k o)
  | .point _ k => Calm (k ())
  | .register _ _ => True
  | .alloc _ k => ∀ a, Calm (k a)
  | .fresh k => ∀ t, Calm (k t)
  | .ask k => ∀ t, Calm (k t)
  | .choose _ _ k => ∀ t, Calm (k t)
  | .os _ _ k => ∀ t, Calm (k t)
  | .call _ _ _ _ _ => False
  | .handled _ k => ∀ t, Calm (k t)
  | .genState _ k => ∀ t, Calm (k t)
  | .newGen _ k => ∀ t, Calm (k t)
  | .resume _ _ _ _ => False
  | .yield _ _ _ _ => True
  | .stack k => ∀ t, Calm (k t)
  | .fork _ _ => True
  | .thread k => ∀ t, Calm (k t)
  | .await _ _ _ _ _ => True
def KeepD (s s' : Shared) : Prop := ∀ a o, s.heap.get? a = some o → ∃ o', s'.heap.get? a = some o' ∧ o'.dict = o.dict
theorem KeepD.refl (s : Shared) : KeepD s s := fun _ o e => ⟨o, e, rfl⟩
theorem KeepD.trans {s s' s'' : Shared} (x : KeepD s s') (y : KeepD s' s'') : KeepD s s'' := fun a o e => by
  obtain ⟨o1, e1, d1⟩ := x a o e
  obtain ⟨o2, e2, d2⟩ := y a o1 e1
  exact ⟨o2, e2, d2.trans d1⟩
theorem not_freed {h : Heap} {a : Addr} {o : Obj} (e : h.get? a = some o) : o.isFreed = false := (Heap.get?_some_iff.mp e).2
theorem wp_calm {α : Type} {M : Model} {Γ : PySem.Ctx} {Q : α → Pos → Shared → Prop} {E : Value → Pos → Shared → Prop} {s₀ : Shared} : ∀ (t : Sem α) (p : Pos) (s : Shared), Calm t → KeepD s₀ s → Sem.wp M Γ t Q E p s →
    Sem.wp M Γ t (fun a p' s' => Q a p' s' ∧ KeepD s₀ s') (fun e p' s' => E e p' s' ∧ KeepD s₀ s') p s := by
  intro t
  induction t with
  | pure a => intro p s _ kd h; exact ⟨h, kd⟩
  | raise a => intro p s _ kd h; exact ⟨h, kd⟩
  | unsupported => intro p s _ _ h; exact h
  | finish => intro p s _ _ h; exact h
  | rule _ k ih => intro p s c kd h; exact ih _ _ _ c kd h
  | «at» _ k ih => intro p s c kd h; exact ih _ _ _ c kd h
  | load a _ k ih => intro p s c kd h; obtain ⟨o, ho, h⟩ := h; exact ⟨o, ho, ih _ _ _ (c o) kd h⟩
  | update a _ f k ih =>
    intro p s c kd h
    obtain ⟨ho, h⟩ := h
    refine ⟨ho, ih _ _ _ c.2 (kd.trans fun b o e => ?_) h⟩
    by_cases q : a = b
    · subst q
      exact ⟨f o, Heap.get?_update_self f e ((c.1 o).2.trans (not_freed e)), (c.1 o).1⟩
    · exact ⟨o, (Heap.get?_update_other _ f q).trans e, rfl⟩
  | loadIfAlive a k ih => intro p s c kd h; exact ih _ _ _ (c _) kd h
  | point _ k ih => intro p s c kd h; exact ih _ _ _ c kd h
  | register => intro p s _ _ h; exact h
  | alloc o k ih => intro p s c kd h; exact ih _ _ _ (c _) (kd.trans fun b o' e => ⟨o', Heap.get?_push_of_some _ e, rfl⟩) h
  | fresh k ih => intro p s c kd h; exact ih _ _ _ (c _) (kd.trans fun b o' e => ⟨o', e, rfl⟩) h
  | ask k ih => intro p s c kd h; exact ih _ _ _ (c _) kd h
  | choose _ _ k ih => intro p s c kd h; exact ⟨h.1, ih _ _ _ (c _) (kd.trans fun b o' e => ⟨o', e, rfl⟩) h.2⟩
  | os _ _ k ih => intro p s c kd h; exact ih _ _ _ (c _) (kd.trans fun b o' e => ⟨o', e, rfl⟩) h
  | call _ _ _ _ _ => intro p s c; exact c.elim
  | handled _ k ih => intro p s c kd h; exact ih _ _ _ (c _) kd h
  | genState _ k ih => intro p s c kd h; obtain ⟨st, hs, h⟩ := h; exact ⟨st, hs, ih _ _ _ (c _) kd h⟩
  | newGen _ k ih => intro p s c kd h; exact ih _ _ _ (c _) (kd.trans fun b o' e => ⟨o', e, rfl⟩) h
  | resume _ _ _ _ => intro p s c; exact c.elim
  | yield => intro p s _ _ h; exact h
  | stack k ih => intro p s c kd h; exact ih _ _ _ (c _) kd h
  | fork => intro p s _ _ h; exact h
  | thread k ih => intro p s c kd h; exact ih _ _ _ (c _) kd h
  | await => intro p s _ _ h; exact h
/-- what a calm tree is asked may lean on every object's dict standing as it stood -/
theorem wpAny_calm {α : Type} {M : Model} {A : Around} {t : Sem α} {Q Q' : α → Shared → Prop} {E : Value → Shared → Prop} {s : Shared} (c : Calm t) (h : wpAny M A t Q' E s) (k : ∀ a s', KeepD s s' → Q' a s' → Q a s') : wpAny M A t Q E s := fun Γ p hΓ =>
  Sem.wp_mono M Γ t (fun a p' s' z => k a s' z.2 z.1) (fun e p' s' z => z.1) p s (wp_calm t p s c (KeepD.refl s) (h Γ p hΓ))
theorem Calm.bind {α β : Type} {f : α → Sem β} (hf : ∀ a, Calm (f a)) : ∀ {m : Sem α}, Calm m → Calm (m.bind f) := by
  intro m
  induction m with
  | pure a => intro _; exact hf a
  | raise => intro _; trivial
  | unsupported => intro _; trivial
  | finish => intro _; trivial
  | rule _ k ih => intro c; exact ih _ c
  | «at» _ k ih => intro c; exact ih _ c
  | load _ _ k ih => intro c o; exact ih _ (c o)
  | update _ _ g k ih => intro c; exact ⟨c.1, ih _ c.2⟩
  | loadIfAlive _ k ih => intro c o; exact ih _ (c o)
  | point _ k ih => intro c; exact ih _ c
  | register => intro c; trivial
  | alloc _ k ih => intro c o; exact ih _ (c o)
  | fresh k ih => intro c o; exact ih _ (c o)
  | ask k ih => intro c o; exact ih _ (c o)
  | choose _ _ k ih => intro c o; exact ih _ (c o)
  | os _ _ k ih => intro c o; exact ih _ (c o)
  | call _ _ _ _ _ => intro c; exact c.elim
  | handled _ k ih => intro c o; exact ih _ (c o)
  | genState _ k ih => intro c o; exact ih _ (c o)
  | newGen _ k ih => intro c o; exact ih _ (c o)
  | resume _ _ _ _ => intro c; exact c.elim
  | yield => intro c; trivial
  | stack k ih => intro c o; exact ih _ (c o)
  | fork => intro c; trivial
  | thread k ih => intro c o; exact ih _ (c o)
  | await => intro c; trivial
theorem Calm.andThen {α β : Type} {m : Sem α} {f : α → Sem β} (c : Calm m) (hf : ∀ a, Calm (f a)) : Calm (m >>= f) := Calm.bind hf c
theorem calm_pure {α : Type} {a : α} : Calm (pure a : Sem α) := trivial
theorem calm_uns {α : Type} {w : String} : Calm (PySem.unsupported w : Sem α) := trivial
theorem calm_stack : Calm stack := fun _ => trivial
theorem calm_load {a : Addr} : Calm (load a) := fun _ => trivial
theorem calm_update {a : Addr} {f : Obj → Obj} (h : ∀ o, (f o).dict = o.dict ∧ (f o).isFreed = o.isFreed) : Calm (update a f) := ⟨h, trivial⟩
theorem calm_alloc {o : Obj} : Calm (alloc o) := fun _ => trivial
theorem calm_fields {v : Value} : Calm (fieldsOf v) := by
  unfold fieldsOf
  cases v <;> first | exact calm_uns | (refine calm_load.andThen fun o => ?_; cases o.data <;> first | exact calm_pure | exact calm_uns)
theorem calm_field {v : Value} {i : Nat} : Calm (field v i) := by
  unfold field
  refine calm_fields.andThen fun vs => ?_
  cases vs[i]? <;> first | exact calm_pure | exact calm_uns
theorem calm_setField {v : Value} {i : Nat} {x : Value} : Calm (setField v i x) := by
  unfold setField
  cases v <;> first | exact calm_uns | skip
  unfold updateField
  refine calm_load.andThen fun o => ?_
  cases o.data <;> first | exact calm_uns | skip
  dsimp only
  split
  · refine calm_update fun o => ?_
    obtain ⟨c, d, da, sl⟩ := o
    cases da <;> exact ⟨rfl, rfl⟩
  · exact calm_uns
theorem calm_frameEnvs : Calm frameEnvs := calm_stack.andThen fun _ => calm_pure
theorem calm_behind {env : Env} {outer : List Env} : Calm (behindIsImport env outer) := by
  unfold behindIsImport
  split
  · exact calm_pure
  · split
    · exact calm_pure
    · exact calm_field.andThen fun _ => calm_pure
theorem calm_kept {env : Env} {b : Bool} {l : List Env} : Calm (keptBack env b l) := by
  unfold keptBack
  cases l with
  | nil =>
    dsimp only
    split
    · exact calm_pure
    · exact (calm_stack.andThen fun _ => calm_pure).andThen fun _ => calm_pure
  | cons => exact calm_pure
theorem calm_ready : ∀ (l : List Env), Calm (readyFrames l)
  | [] => calm_pure
  | env :: outer => by
    unfold readyFrames
    cases env.frame with
    | none => exact calm_uns
    | some f =>
      dsimp only
      refine calm_load.andThen fun o => ?_
      split
      · exact calm_pure
      · refine calm_behind.andThen fun _ => calm_kept.andThen fun _ => (calm_update fun o => ?_).andThen fun _ => calm_ready outer
        obtain ⟨c, d, da, sl⟩ := o
        cases da <;> exact ⟨rfl, rfl⟩
theorem calm_frameObject {l : List Env} : Calm (frameObject l) := by
  cases l with
  | nil => exact calm_pure
  | cons env outer => exact (calm_ready _).andThen fun _ => calm_pure
theorem calm_frameOf {env : Env} : Calm (PySem.frameOf env) := by
  unfold PySem.frameOf
  refine calm_frameEnvs.andThen fun l => calm_frameObject.andThen fun o => ?_
  cases o <;> first | exact calm_pure | exact calm_uns
theorem calm_newObj {n : String} {vs : Array Value} : Calm (newObj (.type n) (.fields vs)) := by
  unfold newObj
  dsimp only
  have : Calm (newObjAsIs (.type n) (.fields vs)) := (fun _ => trivial)
  split
  · exact calm_uns.andThen fun _ => this
  · exact this
theorem calm_place {f : Addr} {b : Bool} : Calm (entryPlaceOf f b) := by
  unfold entryPlaceOf
  refine calm_stack.andThen fun l => ?_
  split <;> exact calm_pure
theorem calm_noteFrame {e : Value} {env : Env} : Calm (noteFrame e env) := by
  unfold noteFrame
  cases env.frame with
  | none => exact calm_uns
  | some f =>
    dsimp only
    have last : ∀ head, Calm (do
        let a ← PySem.frameOf env
        let pl ← entryPlaceOf f (head != Value.none)
        let b ← EntryCells.newEntry head a .none (rawInt f) .none pl
        setField e 1 b) := fun head => calm_frameOf.andThen fun _ => calm_place.andThen fun _ => Calm.andThen calm_newObj fun _ => calm_setField
    refine calm_field.andThen fun head => ?_
    split
    · refine calm_field.andThen fun x => ?_
      split
      · exact calm_pure
      · exact calm_setField.andThen fun _ => last head
    · exact last head
theorem calm_setFlight {e : Value} {f : Option Addr} : Calm (setFlight e f) := by
  unfold setFlight
  refine calm_field.andThen fun tb => ?_
  split
  · exact calm_setField
  · exact calm_pure
theorem calm_leaving {e : Value} {env : Env} : Calm (leaving env e) := calm_noteFrame.andThen fun _ => calm_setFlight
end Pb93
end
section
open PySem PySem.W PyProof.Rows PySem.Spec PySem.Calls
namespace Pb93
open Builtin
section
variable {w : World} {A : Around} {E : Value → Shared → Prop} {s : Shared} {x : Addr} {ox od : Obj}
theorem cls45 (P : Params) : clsIn (K P) 45 = some ⟨Str.ofString "BadPattern", [.ref 32], [.ref 45, .ref 32, .type "Exception", .type "BaseException", .type "object"], 44, Str.ofString "BadPattern", true, [], [], false, none, false⟩ := by unfold clsIn; rw [show (K P).lookup 45 = some (o45 P) from by k_is]; rfl
theorem find45_told (P : Params) : findIn (K P) (.ref 45) "told" = some none := by kernel_rfl
theorem find45_init (P : Params) : findIn (K P) (.ref 45) "__init__" = some (some (.ref 29)) := by kernel_rfl
theorem find45_set (P : Params) : findIn (K P) (.ref 45) "__setattr__" = some (some (.builtin "object.__setattr__")) := by kernel_rfl
theorem find45_ga (P : Params) : findIn (K P) (.ref 45) "__getattribute__" = some (some (.builtin "BaseException.__getattribute__")) := by kernel_rfl
theorem find45_getattr (P : Params) : findIn (K P) (.ref 45) "__getattr__" = some none := by kernel_rfl
theorem obj45_told {P : Params} {v : Value} (hv : lookIn "told" od = some (some v)) : findObj (K P) 45 (some od) "told" = some (.value v) := by
  unfold findObj
  rw [cls45, Option.bind_some, find45_told, Option.bind_some]
  dsimp only
  rw [Option.bind_some, Option.bind_some]
  dsimp only
  unfold W.ownOf
  rw [if_pos rfl]
  dsimp only
  rw [show lookIn (Str.ofString "told") od = some (some v) from hv]
  rfl
theorem sub45 {M : Model} {h : Heap} (X : (K w.params).In h) (I : InstAt h x ox 45 (some od)) : Looks M h (isInstance (.ref x) (.type "BaseException")) true :=
  I.type.andThen (looks_mroIn X (by unfold mroIn; rw [cls45]; rfl))
end
section
variable {w : World} {A : Around} {E : Value → Shared → Prop} {s : Shared} {x : Addr} {ox od : Obj}
theorem ga_check {M : Model} {nameV : Value} {Q : Unit → Shared → Prop} (X : (K w.params).In s.heap) (I : InstAt s.heap x ox 45 (some od)) (hq : Q () s) : wpAny M A (checkBuiltinCall "BaseException.__getattribute__" ⟨[.ref x, nameV], []⟩) Q E s := by
  have hk : builtinKind "BaseException.__getattribute__" = some .slot := by decide +kernel
  have hsplit : splitId "BaseException.__getattribute__" = some ("BaseException", "__getattribute__") := by decide +kernel
  exact @check_slot M _ _ s "BaseException.__getattribute__" "BaseException" "__getattribute__" (.ref x) [nameV] [] _ hk hsplit (sub45 X I) (PySem.F.args_bexc_ga _ _) hq
theorem ga_plain : plainId "BaseException.__getattribute__" = true := by decide +kernel
theorem ga_bind (self : Value) : bindSpecial (.builtin "BaseException.__getattribute__") self = pure (.builtin "BaseException.__getattribute__", [self]) := by
  have hk : builtinKind "BaseException.__getattribute__" = some .slot := by decide +kernel
  have hop : withoutEnding? "BaseException.__getattribute__" "#opaque" = none := by decide +kernel
  have hdat : withoutEnding? "BaseException.__getattribute__" "#data" = none := by decide +kernel
  simp only [bindSpecial, typeOf, builtinType, hop, hdat, hk]; rfl
theorem ga_run {tk : Tok} {v : Value} {Q : Fin → Shared → Prop} (X : (K w.params).In s.heap) (I : InstAt s.heap x ox 45 (some od)) (hv : lookIn "told" od = some (some v)) (hq : Q (.done (.ret v)) s) :
    wpAny (model pw w) A (Builtin.«object.__getattribute__» ⟨[.ref x, .str "told" tk], []⟩) Q E s := by
  obtain ⟨hh', g, d, t, os⟩ := s
  have L0 := I.type (M := model pw w)
  have L1 := looks_find (M := model pw w) X I (obj45_told hv)
  show wpAny _ _ (slotArgs "__getattribute__" 1 _ >>= _) _ _ _
  refine wpAny_bind (wpAny_pure ?_)
  refine wpAny_bind (wpAny_pure ?_)
  refine wpAny_bind (L0.at (wpAny_bind (L1.at ?_)))
  exact wpAny_pure hq
theorem get_told {v : Value} {expr : Bool} {Q : Value → Shared → Prop} (X : (K w.params).In s.heap) (I : InstAt s.heap x ox 45 (some od)) (hv : lookIn "told" od = some (some v)) (hh : handedIn v = true) (hq : Q v { s with toks := s.toks + 1 }) :
    wpAny (model pw w) A (getAttr (.ref x) "told" expr) Q E s := by
  have X0 := X
  have I0 := I
  obtain ⟨h, g, d, t, os⟩ := s
  have L0 := I.type (M := model pw w)
  have L1 := looks_findIn (M := model pw w) X (find45_ga w.params)
  have L2 := looks_findIn (M := model pw w) X (find45_getattr w.params)
  have hx2 : (onTheHeap (Value.ref 45) && Value.builtin "BaseException.__getattribute__" == Value.builtin "object.__getattribute__") = false := by decide +kernel
  unfold getAttr getAttrBy
  refine wpAny_bind (wpAny_mkText (wpAny_holding (wpAny_bind (L0.at (wpAny_bind (L1.at ?_))))))
  dsimp only
  rw [if_neg (by rw [hx2]; exact Bool.false_ne_true)]
  unfold getAttrByItsOwn
  refine wpAny_bind ?_
  show wpAny _ _ (typeLookup (.ref 45) "__getattr__") _ _ _
  refine L2.at ?_
  refine wpAny_bind (wpAny_attempt (wpAny_holding ?_))
  show wpAny _ _ (if (expr && onTheHeap (Value.builtin "BaseException.__getattribute__")) = true then _ else _) _ _ _
  rw [if_neg (by cases expr <;> decide)]
  unfold boundAndCalled
  rw [ga_bind]
  refine wpAny_bind (wpAny_pure ?_)
  refine wpAny_call (codeAny_call_builtin ga_plain PySem.F.entry_bexc_ga (ga_check X0 I0 (ga_run X0 I0 hv ?_)))
  show wpAny _ _ (handedOut v) _ _ _
  rw [handedOut_of hh]
  exact wpAny_pure hq
end

abbrev excO (t0 : Value) : Obj := { cls := .ref 45, data := .fields #[t0, .none, .none, .none, .bool false, .none] }
abbrev excD (t0 : Value) (d : Addr) : Obj := { cls := .ref 45, dict := some d, data := .fields #[t0, .none, .none, .none, .bool false, .none] }
def toldO (P : Params) (tk : Tok) (v : Value) : Obj := { cls := .type "dict", data := .dict #[⟨PyData.keyHash P "told", .str "told" tk, v⟩] 1 }
theorem look_told {P : Params} {tk : Tok} {v : Value} : lookIn "told" (toldO P tk v) = some (some v) := by rfl
theorem refuse45 {x : Value} : refuseLoop x "__setattr__" [.ref 45, .ref 32, .type "Exception", .type "BaseException", .type "object"] = pure () := by kernel_rfl
section
variable {w : World} {A : Around} {s : Shared} {x : Addr} {h₀ : Heap} {L : Addr} {m : Str → Option Value} {news : Led} {t0 : Value} {R : Result → Shared → Prop}
theorem osa_told {tk : Tok} {v : Value} (F : Fr h₀ L s.heap m) (N : News h₀ L s.heap ((x, excO t0) :: news)) (X : (K w.params).In s.heap) (hx : ∀ p ∈ news, p.1 ≠ x)
    (h : ∀ d tk2 h', Fr h₀ L h' m → News h₀ L h' ((x, excD t0 d) :: (d, toldO w.params tk2 v) :: news) → x < d → (∀ p ∈ news, p.1 < d) → R (.ok (.ret .none)) { s with heap := h', toks := s.toks + 1 }) :
    codeAny (model pw w) A (.call (.builtin "object.__setattr__") ⟨[.ref x, .str "told" tk, v], []⟩) R s := by
  have SF := PySem.F.store_object
  have hX := N (x, excO t0) List.mem_cons_self
  have I : InstAt s.heap x (excO t0) 45 none := ⟨hX.1, rfl, rfl, trivial⟩
  have hc := cls45 w.params
  have sub : Looks (model pw w) s.heap (isInstance (.ref x) (.type "object")) true := I.type.andThen (looks_mroIn X (by unfold mroIn; rw [hc]; rfl))
  refine codeAny_call_builtin SF.slot.plain SF.entry (@check_slot (model pw w) _ _ s "object.__setattr__" "object" "__setattr__" (.ref x) [.str "told" tk, v] [] _ SF.kind SF.split sub (SF.args (.ref x) (.str "told" tk) v) ?_)
  have hm : Looks (model pw w) s.heap (mroOf (.ref 45)) _ := (looks_clsIn X hc).andThen .now
  rw [osa_eq, refuse_eq]
  refine wpAny_bind (wpAny_bind (I.type.here (wpAny_bind (hm.here ?_))))
  rw [refuse45]
  refine wpAny_pure (wpAny_bind (I.type.here (wpAny_bind ((looks_findIn X (find45_told _)).here (wpAny_bind (wpAny_pure ?_))))))
  dsimp only
  refine wpAny_bind (wpAny_pure (wpAny_bind (wpAny_bind (wpAny_loadPart hX.1 (wpAny_bind ((looks_clsIn X hc).here ?_))))))
  dsimp only
  rw [if_neg (by decide), if_neg (by decide)]
  refine wpAny_bind (wpAny_alloc (wpAny_bind ?_))
  have hdx : ∀ p ∈ (x, excO t0) :: news, p.1 < s.heap.objs.size := fun p hp => Heap.lt_size (N p hp).1
  have N1 := N.push F emptyDict
  have F1 := F.push emptyDict
  generalize hde : s.heap.objs.size = d at *
  have hxd : x < d := hdx (x, excO t0) List.mem_cons_self
  obtain ⟨U1, U2⟩ := news_upd (pre := [(d, emptyDict)]) (post := news) (f := fun o => { o with dict := some d }) F1 N1 (fun p hp => by rw [List.mem_singleton.mp hp]; exact Nat.ne_of_gt hxd) hx rfl rfl
  refine wpAny_update (N1 (x, excO t0) (by simp)).1 ?_
  refine wpAny_pure ?_
  dsimp only
  have U3 : News h₀ L _ ([] ++ (d, emptyDict) :: ((x, excD t0 d) :: news)) := U2
  obtain ⟨V1, V2⟩ := news_upd (pre := []) (f := Obj.putName "told" (PyData.keyHash w.params "told") (.str "told" s.toks) v) (o' := toldO w.params s.toks v) U1 U3 (fun p hp => nomatch hp) (fun p hp => by
    rcases List.mem_cons.mp hp with rfl | hp
    · exact Nat.ne_of_lt hxd
    · exact Nat.ne_of_lt (hdx p (List.mem_cons_of_mem _ hp))) rfl rfl
  refine wpAny_bind (wpAny_pure (wpAny_bind ?_))
  unfold nsSet
  refine wpAny_bind (wpAny_bind (wpAny_askSetting (wpAny_pure (wpAny_bind (wpAny_mkText (wpAny_bind (wpAny_loadPart (U3 (d, emptyDict) (by simp)).1 ?_)))))))
  dsimp only
  rw [aRefKeyMayBeTheName_at, if_neg (by simp [emptyDict])]
  refine wpAny_updatePart (U3 (d, emptyDict) (by simp)).1 ?_
  refine wpAny_bind (wpAny_lookBehind (V2 (d, toldO w.params s.toks v) (by simp)).1 (pastItsLine_dict (by show 1 ≤ sizeLine + 1; decide)) ?_)
  refine wpAny_pure (h d s.toks _ V1 (fun p hp => V2 p ?_) hxd fun p hp => hdx p (List.mem_cons_of_mem _ hp))
  rcases List.mem_cons.mp hp with rfl | hp
  · simp
  · rcases List.mem_cons.mp hp with rfl | hp
    · simp
    · simp [hp]
end

section
variable {w : World} {A : Around} {E : Value → Shared → Prop} {s : Shared} {x : Addr} {h₀ : Heap} {L : Addr} {m : Str → Option Value} {news : Led} {t0 : Value}
theorem set_told {v : Value} {Q : Unit → Shared → Prop} (X : (K w.params).In h₀) (F : Fr h₀ L s.heap m) (N : News h₀ L s.heap ((x, excO t0) :: news)) (hx : ∀ p ∈ news, p.1 ≠ x)
    (h : ∀ d tk2 h', Fr h₀ L h' m → News h₀ L h' ((x, excD t0 d) :: (d, toldO w.params tk2 v) :: news) → x < d → (∀ p ∈ news, p.1 < d) → Q () { s with heap := h', toks := s.toks + 2 }) :
    wpAny (model pw w) A (setAttr (.ref x) "told" v) Q E s := by
  have I : InstAt s.heap x (excO t0) 45 none := ⟨(N (x, excO t0) List.mem_cons_self).1, rfl, rfl, trivial⟩
  exact set_plain (X.keeps F.keep) I (find45_set _) (osa_told (s := { s with toks := s.toks + 1 }) F N (X.keeps F.keep) hx fun d tk2 h' F' N' l1 l2 => h d tk2 h' F' N' l1 l2)
end
theorem con_enterQ {w : World} {f : Addr} {vs : List Value} {led : Led} {dn un' : Nat} {Post : Value → Led → Prop} {i : Nat} {nm ql : Str} {dV : Value} {c : Addr} {pm : Value} {params : Arguments} {body : List Stmt} {scope : Scope} (binds : List (Str × Value))
    (hp : part i = (params, body, scope))
    (ho : (K w.params).lookup f = some ⟨.type "function", none, .func (fnOf nm ql (part i).1 (part i).2.1 (part i).2.2 dV .none .none pm none (.ref c) .none), #[]⟩)
    (hcd : codeIn (K w.params) (.ref c) ql = true)
    (hbind : ∀ s : Shared, (K w.params).In s.heap → BindsTo s (fnOf nm ql params body scope dV .none .none pm none (.ref c) .none) ⟨vs, []⟩ binds)
    (hloc : (binds.all fun x => decide (scope.names.lookup x.1 = some .local)) = true)
    (h : ∀ (mean : ExcName → Option Value) (mg mb : Str → Option Value) (dp un : Nat) (gd : Option (List Code)) (cn : Str) (cs : Scope) (a : Addr) (ccd : Value) (cl : List (Str × Addr)) (outer : List Env) (base : Heap) (L : Addr) (s : Shared),
      dp + dn < recursionLimit → un + un' < cLine →
      ∀ g L' h₁, Fr g L' h₁ (fun y => binds.reverse.lookup y) → News g L' h₁ led → Below (ktrTop dp un gd cn cs L a ccd cl outer) base (envX cn cs L a ccd cl :: outer) g → (K w.params).In g → Tp mean mg mb g →
      wpAny (model pw w) ((ktrTop dp un gd cn cs L a ccd cl outer).deeper (envOf ql scope L' f (.ref c))) (execs body (envOf ql scope L' f (.ref c)))
        (fun fl s' => LeaveC g s Post (match fl with | .ret v => v | _ => .none) s')
        (fun e s' => wpAny (model pw w) ((ktrTop dp un gd cn cs L a ccd cl outer).deeper (envOf ql scope L' f (.ref c))) (leaving (envOf ql scope L' f (.ref c)) e) (fun _ _ => False) (fun _ _ => False) s')
        { s with heap := h₁, toks := s.toks + binds.length })
    (hdn : 0 < dn := by decide) (hco : scope.isCoroutine = false := by rfl) (hgen : scope.isGenerator = false := by rfl) (hk : scope.kind = .function := by rfl) (hcell : ∀ x ∈ scope.names, x.2 ≠ .cell := by decide) :
    Con w f vs led dn un' Post := by
  intro mean mg mb dp un gd cn cs a ccd cl outer A₀ base h₀ L m s Q E B F X N T hkc hd hu hret
  rw [hp] at ho
  refine wpAny_call ?_
  refine code_defG (env := envX cn cs L a ccd cl) (cdv := .ref c) (binds := binds) B F X N T rfl rfl hkc ho hcd (by show dp < recursionLimit; omega) (hbind s (X.keeps F.keep)) (locs hloc) ?_ hco hgen hk hcell
  intro g L' h₁ FG F' N' B' X' T' hG
  refine wpAny_mono (h mean mg mb dp un gd cn cs a ccd cl outer base L s hd hu g L' h₁ F' N' B' X' T') (fun fl s' hl => ?_) (fun e s' he => wpAny_mono he (fun _ _ (z : False) => z.elim) fun _ _ (z : False) => z.elim)
  obtain ⟨L₂, m₂, new, h', tk', rfl, F₂, N₂, P⟩ := hl
  refine ⟨L₂, m₂, new, F₂, N₂, fun _ _ => hret _ new h' tk' (fun b x hb e => F₂.keep b x (hG b x e hb)) (fun p hp => ⟨(N₂ p hp).1, fun x e => ?_⟩) P⟩
  by_cases hq : p.1 ∈ led.map (·.1)
  · exact hq
  · have := (N₂ p hp).2.2
    rw [hG p.1 x e hq] at this
    cases this
theorem words_R105_1 : True := by
  k_with_none
  k_with "setAttr ref" => (k_here; k_dflt (refine set_told (by k_asm) (by k_asm) (by k_asm) (by intro p hp; exact nomatch hp) ?_; intro kd ktk kh kF kN kL1 kL2))
  trivial
set_option maxHeartbeats 4000000 in
theorem init_con (w : World) (x : Addr) (t0 : Value) (b : Array UInt8) (t : Tok) : Con w 29 [.ref x, .bytes b t] [(x, excO t0)] 40 200 (fun r new => r = .none ∧ ∃ d tk, new = [(x, excD t0 d), (d, toldO w.params tk (.bytes b t))]) := by
  refine con_enterQ (i := 1) (nm := "__init__") (ql := "GitError.__init__") (c := 28) [("self", .ref x), ("told", .bytes b t)] (by conv => lhs; whnf) (by k_is) (by k_is) (fun s X => BindsTo.of_defaults (T := 22) (o := o22 w.params) rfl (X 22 _ (by k_is)) rfl rfl rfl) rfl ?_
  intro mean mg mb dp un gd cn cs a ccd cl outer base L s hd hu g L' h₁ F' N' B' X' T'
  k_fold
  k_steps
  show LeaveC g s _ _ _
  exact LeaveC.intro (by k_asm) (by k_asm) [_, _] (fun p hp => hp) ⟨rfl, _, _, rfl⟩

theorem is45 {w : World} {h : Heap} (X : (K w.params).In h) : h.get? 45 = some (excClassObj (Str.ofString "BadPattern") (Str.ofString "BadPattern") 45 44 [.ref 32] [.ref 32, .type "Exception", .type "BaseException", .type "object"] true [] [] false none none (some (.ref 36)) none (some (.str (Str.ofString "BadPattern") 219)) (some (.str (Str.ofString "BadPattern") 227)) (some (.bool true)) "Exception.__new__") := X 45 _ (by k_is)
abbrev bm45 : List Value := [.ref 32, .type "Exception", .type "BaseException", .type "object"]
section
variable {w : World} {A : Around} {R : Result → Shared → Prop} {h : Heap} {g : Array GenState} {d : Drawn} {t : Nat} {os : OsState} {v : Value}
theorem new_bad (X : (K w.params).In h) (hq : R (.ok (.ret (.ref (h.objs.size + 1)))) ⟨(h.push { cls := .type "tuple", data := .seq #[v] }).push (excO (.ref h.objs.size)), g, d, t, os⟩) :
    codeAny (model pw w) A (.builtin "Exception.__new__" ⟨[.ref 45, v], []⟩) R ⟨h, g, d, t, os⟩ := by
  have Fn := PySem.F.excBase_Exception
  have hC := is45 X
  have hends := Fn.ends
  have hcB : (Value.ref 45 :: bm45).contains (.type "Exception") = true := by decide
  have hcA : (Value.ref 45 :: bm45).contains (.type "AttributeError") = false := by decide
  have hcN : (Value.ref 45 :: bm45).contains (.type "NameError") = false := by decide
  refine codeAny_builtinAt Fn.entry ?_
  unfold Builtin.«BaseException.__new__»
  refine PySem.wpAt_bind ?_
  show PySem.wpAt _ _ _ (stack >>= _) _ _ _
  refine PySem.wpAt_bind (PySem.wpAt_stack fun p below => PySem.wpAt_of_wpAny ?_)
  wp_walk
  refine PySem.wpAt_of_wpAny ?_
  rw [Fn.owner]
  repeat (first | with_reducible refine wpAny_madeHere_exc Fn.canon hC ?_ | with_reducible refine wpAny_loadPart_at hC ?_ | (with_reducible refine wpAny_isSubtype_exc hC ?_; first | rw [hcB] | rw [hcA] | rw [hcN]) | wp_step)
  show R _ _
  rw [Heap.size_push]
  exact hq
end

section
variable {w : World} {A : Around} {E : Value → Shared → Prop} {h : Heap} {g : Array GenState} {d : Drawn} {t : Nat} {os : OsState} {v : Value}
theorem tcall_bad {Q : PySem.Fin → Shared → Prop} (X : (K w.params).In h)
    (hq : wpAny (model pw w) A (call (.ref 29) [.ref (h.objs.size + 1), v]) (fun r s' => r = .none ∧ Q (.done (.ret (.ref (h.objs.size + 1)))) s') E ⟨(h.push { cls := .type "tuple", data := .seq #[v] }).push (excO (.ref h.objs.size)), g, d, t, os⟩) :
    wpAny (model pw w) A (Builtin.«type.__call__» ⟨[.ref 45, v], []⟩) Q E ⟨h, g, d, t, os⟩ := by
  have Fn := PySem.F.excBase_Exception
  have hC := is45 X
  repeat (first | with_reducible refine wpAny_loadPart_at hC ?_ | with_reducible refine wpAny_madeBy_exc hC ?_ | wp_step)
  refine codeAny_call_builtin_code (Code.quiet_builtin _ Fn.quiet) (wpAny_check_new_subU Fn (bmB := bm45) (by decide) .base hC ?_)
  refine new_bad X ?_
  show wpAny _ _ _ _ _ _
  have X₁ : (K w.params).In ((h.push { cls := .type "tuple", data := .seq #[v] }).push (excO (.ref h.objs.size))) := X.keeps fun b o e => Heap.get?_push_of_some _ (Heap.get?_push_of_some _ e)
  have hget : ((h.push { cls := .type "tuple", data := .seq #[v] }).push (excO (.ref h.objs.size))).get? (h.objs.size + 1) = some (excO (.ref h.objs.size)) := by heap_get
  have hC₁ := is45 X₁
  have hcC : (Value.ref 45 :: bm45).contains (.ref 45) = true := by decide
  unfold isInstance
  repeat (first | with_reducible refine wpAny_loadPart_at hget ?_ | (with_reducible refine wpAny_isSubtype_exc hC₁ ?_; rw [hcC]) | wp_step)
  show wpAny _ _ (typeLookup (.ref 45) _) _ _ _
  refine (looks_findIn X₁ (find45_init w.params)).at ?_
  dsimp only
  refine wpAny_holding (wpAny_bind ((bind_fn X₁ (.ref (h.objs.size + 1)) (show typeIn (K w.params) (.ref 29) = some (.type "function") from by kernel_rfl)).at ?_))
  dsimp only
  refine wpAny_bind (wpAny_mono hq (fun r s' z => ?_) fun _ _ e => e)
  obtain ⟨rfl, z⟩ := z
  exact wpAny_pure (wpAny_pure z)
theorem call_bad {Q : Value → Shared → Prop} (X : (K w.params).In h)
    (hq : wpAny (model pw w) (A.under (.builtin "type.__call__" ⟨[.ref 45, v], []⟩)) (call (.ref 29) [.ref (h.objs.size + 1), v]) (fun r s' => r = .none ∧ Q (.ref (h.objs.size + 1)) s') E ⟨(h.push { cls := .type "tuple", data := .seq #[v] }).push (excO (.ref h.objs.size)), g, d, t, os⟩) :
    wpAny (model pw w) A (call (.ref 45) [v]) Q E ⟨h, g, d, t, os⟩ := by
  have hC := is45 X
  have f1 := tc_lookup
  have f2 := tc_bind (.ref 45)
  have hT : (⟨h, g, d, t, os⟩ : Shared).TypeIs (.ref 45) "type" := ⟨_, hC, rfl⟩
  refine wpAny_call (codeAny_of_tree ?_)
  show wpAny _ _ (callAny (.ref 45) _) _ _ _
  repeat (any_goals (first | assumption | with_reducible refine wpAny_loadPart_at hC ?_ | wp_step))
  refine ⟨rfl, ?_⟩
  refine codeAny_call_builtin_at (Code.quiet_builtin _ (by decide +kernel)) entry_typeCall (wpAny_check_type_call_sub hC (tcall_bad X ?_))
  exact hq
end
abbrev tup1 (v : Value) : Obj := { cls := .type "tuple", data := .seq #[v] }
theorem under_make (dp un : Nat) (gd : Option (List Code)) (cn : Str) (cs : Scope) (L a : Addr) (ccd : Value) (cl : List (Str × Addr)) (outer : List Env) (v : Value) :
    ∃ un' gd', (ktrTop dp un gd cn cs L a ccd cl outer).under (.builtin "type.__call__" ⟨[.ref 45, v], []⟩) = ktrTop (dp + 1) un' gd' cn cs L a ccd cl outer ∧ un' ≤ un + 1 := by
  refine ⟨_, _, rfl, ?_⟩
  show un + _ ≤ un + 1
  exact Nat.add_le_add_left (Nat.le_of_ble_eq_true (by kernel_rfl)) _
theorem make_bad {w : World} {b : Array UInt8} {tb : Tok}
    {mean : ExcName → Option Value} {mg mb : Str → Option Value} {dp un : Nat} {gd : Option (List Code)} {cn : Str} {cs : Scope} {a : Addr} {ccd : Value} {cl : List (Str × Addr)} {outer : List Env} {A₀ : Around} {base h₀ : Heap} {L : Addr} {m : Str → Option Value} {s : Shared} {Q E : Value → Shared → Prop} {news : Led}
    (B : Below A₀ base outer h₀) (F : Fr h₀ L s.heap m) (X : (K w.params).In h₀) (N : News h₀ L s.heap news) (T : Tp mean mg mb h₀) (hk : cs.kind = .function) (hd : dp + 60 < recursionLimit) (hu : un + 240 < cLine)
    (h : ∀ x d t tk h' tk', Fr h₀ L h' m → News h₀ L h' ((x, excD (.ref t) d) :: (d, toldO w.params tk (.bytes b tb)) :: (t, tup1 (.bytes b tb)) :: news) → (∀ p ∈ news, p.1 < x) → Q (.ref x) { s with heap := h', toks := tk' }) :
    wpAny (model pw w) (ktrTop dp un gd cn cs L a ccd cl outer) (call (.ref 45) [.bytes b tb]) Q E s := by
  obtain ⟨hh, g, d, t, os⟩ := s
  refine call_bad (X.keeps F.keep) ?_
  obtain ⟨un', gd', e, hun⟩ := under_make dp un gd cn cs L a ccd cl outer (.bytes b tb)
  rw [e]
  have hlt : ∀ p ∈ news, p.1 < hh.objs.size := fun p hp => Heap.lt_size (N p hp).1
  have N1 := N.push F (tup1 (.bytes b tb))
  have F1 := F.push (tup1 (.bytes b tb))
  have N2 := N1.push F1 (excO (.ref hh.objs.size))
  have F2 := F1.push (excO (.ref hh.objs.size))
  rw [Heap.size_push] at N2
  refine con_use (led := [(hh.objs.size + 1, excO (.ref hh.objs.size))]) (rest := (hh.objs.size, tup1 (.bytes b tb)) :: news) (init_con w (hh.objs.size + 1) (.ref hh.objs.size) b tb) B F2 X N2 T hk (by omega) (by omega) (fun p hp => by rw [List.mem_singleton.mp hp]; exact List.mem_cons_self) (fun p hp => List.mem_cons_of_mem _ hp) (fun p hp hm => ?_) (fun r new h' tk' F' N' _ P => ?_)
  · have hm : p.1 = hh.objs.size + 1 := by simpa using hm
    rcases List.mem_cons.mp hp with rfl | hp
    · exact Nat.ne_of_lt (Nat.lt_succ_self _) hm
    · exact Nat.ne_of_lt (Nat.lt_succ_of_lt (hlt p hp)) hm
  · obtain ⟨rfl, d2, tk2, rfl⟩ := P
    exact ⟨rfl, h _ d2 _ tk2 h' tk' F' N' fun p hp => Nat.lt_succ_of_lt (hlt p hp)⟩
end Pb93
end
section
open PySem PySem.W PyProof.Rows PySem.Spec PySem.Calls
namespace Pb93
def RaisedBad (w : World) (E : Value → Shared → Prop) (v : Value) (s₁ : Shared) : Prop := ∃ e t d, v = .ref e ∧ (K w.params).In s₁.heap ∧ s₁.heap.get? e = some (excD (.ref t) d) ∧ E (.ref e) s₁
section
variable {w : World} {A : Around} {E : Value → Shared → Prop} {env : Env}
theorem raiseStmt_bad {s : Shared} {x : Sem Value} {Q : Flow → Shared → Prop} (hh : A.handled = none) (h : wpAny (model pw w) A x (RaisedBad w E) E s) : wpAny (model pw w) A (raiseStmt env (some x) none) Q E s := by
  have hcB : (Value.ref 45 :: bm45).contains (.type "BaseException") = true := by decide
  unfold raiseStmt
  refine wpAny_bind (wpAny_mono h (fun v s₁ h₁ => ?_) fun _ _ x => x)
  obtain ⟨e, t, d, rfl, X, he, hE⟩ := h₁
  have hC := is45 X
  obtain ⟨hp, g, dr, tk, os⟩ := s₁
  repeat (first | with_reducible refine wpAny_loadPart_at he ?_ | with_reducible refine wpAny_loadPart_at hC ?_ | (with_reducible refine wpAny_isSubtype_exc hC ?_; rw [hcB]) | wp_step)
  exact wpAny_raiseNew_none hh hE
theorem raise_bad {s : Shared} {X : PySem.Expr} {pos : Pos} {Q : Flow → Shared → Prop} (hh : A.handled = none) (h : wpAny (model pw w) A (eval X env) (RaisedBad w E) E s) : wpAny (model pw w) A (exec (.Raise (some X) none pos) env) Q E s := by
  rw [arm_exec_Raise]
  refine wpAny_bind (wpAny_standAt (raiseStmt_bad hh ?_))
  exact wpAny_bind (wpAny_mono h (fun v s₃ h₃ => wpAny_bind (wpAny_standAt (wpAny_pure h₃))) fun _ _ x => x)
end
end Pb93
end
section
open PySem PySem.W PyProof.Rows PySem.Spec PySem.Calls
namespace Pb93
/-- the exception of our own class in flight; d: its dict -/
def RaisedB (base G : Heap) (l : List Env) (e d : Addr) (news : Led) (h : Heap) : Prop :=
  ∃ B t, base.StaysIn B ∧ (∀ b o, G.get? b = some o → b ∉ l.filterMap (·.frame) → B.get? b = some o) ∧ (∀ q ∈ news, B.get? q.1 = some q.2 ∧ G.get? q.1 = none ∧ base.get? q.1 = none) ∧ Heap.FlyingW B l e (.ref 45) (.ref t) h ∧ ∃ oe, h.get? e = some oe ∧ oe.dict = some d
section
variable {M : Model} {A : Around} {E : Value → Shared → Prop} {s' : Shared} {base g : Heap} {outer : List Env} {L a e t d : Addr} {m : Str → Option Value} {name : Str} {scope : Scope} {cd : Value} {Q : Unit → Shared → Prop} {news : Led}
theorem leave_bad (K : Below A base outer g) (F : Fr g L s'.heap m) (N : News g L s'.heap ((e, excD (.ref t) d) :: news)) (hne : ∀ p ∈ news, p.1 ≠ e)
    (hQ : ∀ h', RaisedB base g outer e d news h' → g.UpToSlots h' → Q () { s' with heap := h' }) (hk : scope.kind = .function := by rfl) :
    wpAny M (A.deeper (envOf name scope L a cd)) (leaving (envOf name scope L a cd) (.ref e)) Q E s' := by
  have K' := K.push (name := name) (a := a) (cd := cd) F hk
  have hE := N (e, excD (.ref t) d) List.mem_cons_self
  have hid : ∀ b o, s'.heap.get? b = some o → b ≠ e → b ∉ (envOf name scope L a cd :: outer).filterMap (·.frame) → (hideAll s'.heap (e :: (envOf name scope L a cd :: outer).filterMap (·.frame))).get? b = some o := fun b o q n1 n2 =>
    hideAll_get _ q fun hm => by
      rcases List.mem_cons.mp hm with hm | hm
      · exact n1 hm
      · exact n2 hm
  have hin : ∀ env ∈ (envOf name scope L a cd :: outer), ∀ b, env.frame = some b → b ∈ e :: (envOf name scope L a cd :: outer).filterMap (·.frame) := fun env he b hb => List.mem_cons_of_mem _ (List.mem_filterMap.mpr ⟨env, he, hb⟩)
  have eb : base.get? e = none := fresh_of_stays K.stays hE.2.2
  have st : base.StaysIn (hideAll s'.heap (e :: (envOf name scope L a cd :: outer).filterMap (·.frame))) := fun b o q => hid b o (K'.stays b o q) (fun z => by rw [z, eb] at q; cases q) fun hm => by
    rw [(K'.frames.mem hm).1] at q; cases q
  have sg : ∀ b o, g.get? b = some o → b ∉ outer.filterMap (·.frame) → (hideAll s'.heap (e :: (envOf name scope L a cd :: outer).filterMap (·.frame))).get? b = some o := fun b o q nm => hid b o (F.keep b o q) (fun z => by rw [z, hE.2.2] at q; cases q) fun hm => by
    rcases kts_mem hm with z | z
    · rw [z, kts_self F] at q
      cases q
    · exact nm z
  have hl : ∀ q ∈ news, (hideAll s'.heap (e :: (envOf name scope L a cd :: outer).filterMap (·.frame))).get? q.1 = some q.2 ∧ g.get? q.1 = none ∧ base.get? q.1 = none := fun q hq => by
    have z := N q (List.mem_cons_of_mem _ hq)
    refine ⟨hid _ _ z.1 (hne q hq) fun hm => ?_, z.2.2, fresh_of_stays K.stays z.2.2⟩
    obtain ⟨env, he, hf⟩ := List.mem_filterMap.mp hm
    rcases List.mem_cons.mp he with rfl | he
    · exact z.2.1 (Option.some.inj hf).symm
    · obtain ⟨o, ho, _⟩ := (K.frames.mem (List.mem_filterMap.mpr ⟨env, he, hf⟩)).2
      rw [z.2.2] at ho; cases ho
  have hB : (hideAll s'.heap (e :: (envOf name scope L a cd :: outer).filterMap (·.frame))).StaysIn s'.heap := fun b o q => of_hideAll _ q
  have hen : (hideAll s'.heap (e :: (envOf name scope L a cd :: outer).filterMap (·.frame))).get? e = none := hideAll_none _ List.mem_cons_self
  refine wpAny_calm (Q' := fun _ s₁ => ∃ h', s₁ = { s' with heap := h' } ∧ Heap.LeftW (hideAll s'.heap (e :: (envOf name scope L a cd :: outer).filterMap (·.frame))) (envOf name scope L a cd :: outer) e (.ref 45) (.ref t) s'.heap h') calm_leaving
    (wpAny_leaving_firstW K'.stack (funFrames_hide K'.frames hin) rfl hE.1 hB hen rfl rfl rfl fun h' x => ⟨h', rfl, x⟩) fun _ s₁ kd z => ?_
  obtain ⟨h', rfl, x1, x2, x3, x4⟩ := z
  obtain ⟨oe, ho, hd⟩ := kd e _ hE.1
  exact hQ h' ⟨_, t, st, sg, hl, ⟨x1, hen, x2.2.2, x3⟩, oe, ho, hd⟩ ((Heap.UpToSlots.of_keeps F.keep).trans x4)
end
section
variable {w : World} {A₀ : Around} {E : Value → Shared → Prop} {s' : Shared} {base g g₀ G : Heap} {outer : List Env} {L a e d : Addr} {m : Str → Option Value} {name : Str} {scope : Scope} {cd : Value}
  {n : Str} {b₀ : Stmt} {suite : List Stmt} {pos np : Pos} {rest : List ExceptHandler} {Q : Flow → Shared → Prop} {news : Led} {mean : ExcName → Option Value} {mg mb : Str → Option Value}
theorem bad_name (P : Params) : nsIn (K P) mainGlobals "BadPattern" = some (some (.ref 45)) := by kernel_rfl
theorem caught_bad (R : RaisedB base G (envOf name scope L a cd :: outer) e d news s'.heap) (F : Fr g L G m) (Bl : Below A₀ base outer g) (hsm : G.UpToSlots s'.heap) (XB : (K w.params).In base) (TB : Tp mean mg mb base)
    (D : KtsDicts (outer.filterMap (·.frame)) g) (T0 : KtsTurn (outer.filterMap (·.frame)) g₀ g)
    (k : ∀ h' g' oe ws tk, KtsTurn (outer.filterMap (·.frame)) g₀ g' → Fr g' L h' (fun y => if y = n then some (.ref e) else m y) → News g' L h' ((e, oe) :: news) → oe.cls = .ref 45 → oe.dict = some d → oe.data = .fields ws → Below A₀ base outer g' → (K w.params).In g' → Tp mean mg mb g' → KtsDicts (outer.filterMap (·.frame)) g' →
      wpAny (model pw w) ((A₀.deeper (envOf name scope L a cd)).mark (some (.ref e))) (execs (b₀ :: suite) (envOf name scope L a cd))
        (fun f s₄ => wpAny (model pw w) (A₀.deeper (envOf name scope L a cd)) (do bindName (envOf name scope L a cd) n .none; unbindBehindTheSuite (envOf name scope L a cd) n pos) (fun _ s₅ => Q f s₅) E s₄)
        (AsSuiteRaised (model pw w) ((A₀.deeper (envOf name scope L a cd)).mark (some (.ref e))) (envOf name scope L a cd) n pos (notedBy (model pw w) ((A₀.deeper (envOf name scope L a cd)).mark (some (.ref e))) (envOf name scope L a cd) (cameBackBy (model pw w) (A₀.deeper (envOf name scope L a cd)) (envOf name scope L a cd) E)))
        { s' with heap := h', toks := tk })
    (hk : scope.kind = .function := by rfl) (hlo : (envOf name scope L a cd).kindOf n = some .local := by rfl) (hx : (envOf name scope L a cd).kindOf "BadPattern" = some .globalImplicit := by rfl) :
    wpAny (model pw w) (A₀.deeper (envOf name scope L a cd)) (noteFrame (.ref e) (envOf name scope L a cd))
      (fun _ s₂ => wpAny (model pw w) (A₀.deeper (envOf name scope L a cd)) (setFlight (.ref e) none) (fun _ s₃ =>
        wpAny (model pw w) (A₀.deeper (envOf name scope L a cd)) (handleBy (.ref e) (envOf name scope L a cd) (.ExceptHandler (some (.Name "BadPattern" np)) (some n) (b₀ :: suite) pos :: rest)) Q E s₃) E s₂) E s' := by
  obtain ⟨B, t, hB, hBG, hl, hfl, od, hod, hdd⟩ := R
  have hL : B.get? L = none := by
    obtain ⟨_, ⟨L', _, hf, hn', _⟩, _⟩ := hfl.2.2.1
    obtain rfl : L = L' := Option.some.inj hf
    exact hn'
  refine wpAny_calm (Q' := fun _ s₁ => ∃ h', s₁ = { s' with heap := h' } ∧ Heap.HeldW B (envOf name scope L a cd :: outer) e (.ref 45) (.ref t) L h' ∧ s'.heap.UpToSlots h') calm_noteFrame (wpAny_looks_onW (Around.frames_deeper Bl.stack) rfl hfl fun h₄ x y => ⟨h₄, rfl, x, y⟩) ?_
  rintro _ _ kd₄ ⟨h₄, rfl, hheld₄, hsm₄⟩
  refine wpAny_calm (Q' := fun _ s₁ => ∃ h', s₁ = { s' with heap := h' } ∧ Heap.FlyingW B (envOf name scope L a cd :: outer) e (.ref 45) (.ref t) h' ∧ h₄.UpToSlots h') calm_setFlight (wpAny_landsW hheld₄ fun h₅ x y => ⟨h₅, rfl, x, y⟩) ?_
  rintro _ _ kd₅ ⟨h₅, rfl, hheld, hsm₅'⟩
  have hsm₅ := hsm₄.trans hsm₅'
  obtain ⟨g₅, T₅, F₅, K₅⟩ := kts_ground Bl F hBG hheld.1 (hsm.trans hsm₅)
  have X₅ : (K w.params).In g₅ := XB.keeps K₅.stays
  have P₅ : TopRead qv (looseW qv lo) mg mb g₅ := topRead_of (TB.keeps K₅.stays)
  obtain ⟨ob, hob, hobc⟩ := hheld.there
  have hC₅ := is45 (X₅.keeps F₅.keep)
  refine wpAny_handleBy_cons (codeAny_handlers_test (name_K F₅ X₅ P₅ (bad_name _) ?_ hk hx (by decide))) (by intro q; cases q)
  refine wpAny_excMatches_sub_self hC₅ hob hobc (by decide) (codeAny_handlers_suite_as ?_)
  refine wpAny_calm (Q' := fun _ s₁ => ∃ h', s₁ = { s' with heap := h' } ∧ Heap.FlyingW B (envOf name scope L a cd :: outer) e (.ref 45) (.ref t) h' ∧ h₅.UpToSlots h') calm_setFlight (lands_againW hheld fun h₆ x y => ⟨h₆, rfl, x, y⟩) ?_
  rintro _ _ kd₆ ⟨h₆, rfl, hfl₆, hsm₆⟩
  obtain ⟨g₆, T₆, F₆, K₆⟩ := kts_ground Bl F hBG hfl₆.1 ((hsm.trans hsm₅).trans hsm₆)
  obtain ⟨oe, ws, hoe, hoec, hoed, hoe0⟩ := hfl₆.first
  have hdict : oe.dict = some d := by
    obtain ⟨o1, e1, d1⟩ := kd₄ e od hod
    obtain ⟨o2, e2, d2⟩ := kd₅ e o1 e1
    obtain ⟨o3, e3, d3⟩ := kd₆ e o2 e2
    rw [show h₆.get? e = some o3 from e3] at hoe
    cases hoe
    rw [d3, d2, d1, hdd]
  have ne₆ : g₆.get? e = none := T₆.none_ _ (kts_fresh F hBG hfl₆.2.1 fun o ho m => by
    obtain ⟨_, o', ho', hd⟩ := Bl.frames.mem m
    rw [ho] at ho'
    cases ho'
    obtain ⟨sl, hs⟩ := ((hsm.trans hsm₅).trans hsm₆) _ _ (F.keep _ _ ho) hd
    rw [hoe] at hs
    cases hs
    exact hd _ hoed)
  have N₆ := News.more F₆ News.nil hoe (fun es n q => by rw [hoed] at q; cases q) ne₆
  have Nl : News g₆ L h₆ news := fun q hq => ⟨hfl₆.1 _ _ (hl q hq).1, (fun z => by have := (hl q hq).1; rw [z, hL] at this; cases this), T₆.none_ _ (kts_none F.keep (hl q hq).2.1)⟩
  have X₆ : (K w.params).In g₆ := XB.keeps K₆.stays
  have P₆ : Tp mean mg mb g₆ := TB.keeps K₆.stays
  have D₆ : KtsDicts (outer.filterMap (·.frame)) g₆ := D.turn T₆
  refine stN F₆ (news := (e, oe) :: news) (fun q hq => ?_) (fun h₇ F₇ N₇ => ?_) hk hlo
  · rcases List.mem_cons.mp hq with rfl | hq
    · exact N₆ _ List.mem_cons_self
    · exact Nl q hq
  · exact k h₇ g₆ oe ws _ (T0.trans T₆) F₇ N₇ hoec hdict hoed K₆ X₆ P₆ D₆
end
end Pb93
end
section
open PySem PySem.W PyProof.Rows PySem.Spec PySem.Calls
namespace Pb93
theorem enter_R {w : World} {f : Addr} {vs : List Value} {dn : Nat} {i : Nat} {nm : Str} {c : Addr} {pm : Value} {params : Arguments} {body : List Stmt} {scope : Scope} (binds : List (Str × Value))
    {mean : ExcName → Option Value} {mg mb : Str → Option Value} {dp un : Nat} {gd : Option (List Code)} {cn : Str} {cs : Scope} {a : Addr} {ccd : Value} {cl : List (Str × Addr)} {outer : List Env} {A₀ : Around} {base h₀ : Heap} {L : Addr} {m : Str → Option Value} {s : Shared} {Q E : Value → Shared → Prop} {news : Led}
    (hp : part i = (params, body, scope))
    (ho : (K w.params).lookup f = some ⟨.type "function", none, .func (fnOf nm nm (part i).1 (part i).2.1 (part i).2.2 .none .none .none pm none (.ref c) .none), #[]⟩)
    (hcd : codeIn (K w.params) (.ref c) nm = true)
    (hbind : bindArgs (fnOf nm nm params body scope .none .none .none pm none (.ref c) .none) ⟨vs, []⟩ = pure binds)
    (hloc : (binds.all fun x => decide (scope.names.lookup x.1 = some .local)) = true)
    (B : Below A₀ base outer h₀) (F : Fr h₀ L s.heap m) (X : (K w.params).In h₀) (N : News h₀ L s.heap news) (T : Tp mean mg mb h₀) (hkc : cs.kind = .function) (hd : dp + dn < recursionLimit)
    (h : ∀ g L' h₁, Fr h₀ L g m → Fr g L' h₁ (fun y => binds.reverse.lookup y) → News g L' h₁ news → Below (ktrTop dp un gd cn cs L a ccd cl outer) base (envX cn cs L a ccd cl :: outer) g → (K w.params).In g → Tp mean mg mb g →
      wpAny (model pw w) ((ktrTop dp un gd cn cs L a ccd cl outer).deeper (envOf nm scope L' f (.ref c))) (execs body (envOf nm scope L' f (.ref c)))
        (fun fl s' => LeaveK h₀ L m g (fun r s' => match r with | .ok (.ret v) => Q v s' | .ok _ => False | .error e => E e s') (match fl with | .ret v => v | _ => .none) s')
        (fun e s' => wpAny (model pw w) ((ktrTop dp un gd cn cs L a ccd cl outer).deeper (envOf nm scope L' f (.ref c))) (leaving (envOf nm scope L' f (.ref c)) e) (fun _ s'' => E e s'') (fun e' s'' => E e' s'') s')
        { s with heap := h₁, toks := s.toks + binds.length })
    (hco : scope.isCoroutine = false := by rfl) (hgen : scope.isGenerator = false := by rfl) (hk : scope.kind = .function := by rfl) (hcell : ∀ x ∈ scope.names, x.2 ≠ .cell := by decide) :
    wpAny (model pw w) (ktrTop dp un gd cn cs L a ccd cl outer) (call (.ref f) vs) Q E s := by
  rw [hp] at ho
  refine wpAny_call ?_
  refine code_defG (env := envX cn cs L a ccd cl) (cdv := .ref c) (binds := binds) B F X N T rfl rfl hkc ho hcd (by show dp < recursionLimit; omega) (BindsTo.of_eq hbind) (locs hloc) ?_ hco hgen hk hcell
  intro g L' h₁ FG F' N' B' X' T' _
  exact h g L' h₁ FG F' N' B' X' T'
/-- a list's value that is a word's pair, its tuple in the ledger -/
def PairIn (tl : Led) (d : Option (List Int × VV)) (r : Value) : Prop := match d with
  | none => r = .none
  | some (n, v) => ∃ a t x, r = .ref a ∧ (a, tupO (.str (textS n) t) x) ∈ tl ∧ valV v x
inductive PairsAre (tl : Led) : List Value → List (Option (List Int × VV)) → Prop
  | nil : PairsAre tl [] []
  | cons {r : Value} {d : Option (List Int × VV)} {rs : List Value} {ds : List (Option (List Int × VV))} : PairIn tl d r → PairsAre tl rs ds → PairsAre tl (r :: rs) (d :: ds)
theorem PairIn.mono {tl tl' : Led} {d : Option (List Int × VV)} {r : Value} (h : PairIn tl d r) (k : ∀ p ∈ tl, p ∈ tl') : PairIn tl' d r := by
  cases d with
  | none => exact h
  | some p => obtain ⟨n, v⟩ := p; obtain ⟨a, t, x, e, hm, hv⟩ := h; exact ⟨a, t, x, e, k _ hm, hv⟩
theorem PairsAre.mono {tl tl' : Led} {rs : List Value} {ds : List (Option (List Int × VV))} (h : PairsAre tl rs ds) (k : ∀ p ∈ tl, p ∈ tl') : PairsAre tl' rs ds := by
  induction h with
  | nil => exact .nil
  | cons a _ ih => exact .cons (a.mono k) ih
theorem PairsAre.len {tl : Led} {rs : List Value} {ds : List (Option (List Int × VV))} (h : PairsAre tl rs ds) : rs.length = ds.length := by
  induction h with
  | nil => rfl
  | cons _ _ ih => rw [List.length_cons, List.length_cons, ih]
theorem PairsAre.snoc {tl : Led} {rs : List Value} {ds : List (Option (List Int × VV))} {r : Value} {d : Option (List Int × VV)} (h : PairsAre tl rs ds) (x : PairIn tl d r) : PairsAre tl (rs ++ [r]) (ds ++ [d]) := by
  induction h with
  | nil => exact .cons x .nil
  | cons a _ ih => exact .cons a ih
theorem PairV.in_ {d : Option (List Int × VV)} {r : Value} {new : Led} (h : PairV d r new) : PairIn new d r := by
  cases d with
  | none => exact h.1
  | some p => obtain ⟨n, v⟩ := p; obtain ⟨a, t, x, e, hn, hv⟩ := h; exact ⟨a, t, x, e, by rw [hn]; exact List.mem_cons_self, hv⟩
theorem pair_cases {d : Option (List Int × VV)} {r : Value} {new : Led} (h : PairV d r new) : (d = none ∧ r = .none ∧ new = []) ∨ ∃ n v a t x, d = some (n, v) ∧ r = .ref a ∧ new = [(a, tupO (.str (textS n) t) x)] ∧ valV v x := by
  cases d with
  | none => exact .inl ⟨rfl, h⟩
  | some p => obtain ⟨n, v⟩ := p; obtain ⟨a, t, x, h⟩ := h; exact .inr ⟨n, v, a, t, x, rfl, h⟩
def toldB (b : Array UInt8) : Option (List Int × VV) := toldP (KBw.bInts b)
/-- a call that turns nothing; what it hands back lies apart from the ledger -/
theorem con_useA {w : World} {f : Addr} {vs : List Value} {dn un' : Nat} {Post : Value → Led → Prop} (C : Con w f vs [] dn un' Post)
    {mean : ExcName → Option Value} {mg mb : Str → Option Value} {dp un : Nat} {gd : Option (List Code)} {cn : Str} {cs : Scope} {a : Addr} {ccd : Value} {cl : List (Str × Addr)} {outer : List Env} {A₀ : Around} {base h₀ : Heap} {L : Addr} {m : Str → Option Value} {s : Shared} {Q E : Value → Shared → Prop} {all : Led}
    (B : Below A₀ base outer h₀) (F : Fr h₀ L s.heap m) (X : (K w.params).In h₀) (N : News h₀ L s.heap all) (T : Tp mean mg mb h₀) (hk : cs.kind = .function) (hd : dp + dn < recursionLimit) (hu : un + un' < cLine)
    (ret : ∀ r new h' tk', Fr h₀ L h' m → News h₀ L h' (new ++ all) → (∀ p ∈ new, ∀ q ∈ all, p.1 ≠ q.1) → Post r new → Q r { s with heap := h', toks := tk' }) :
    wpAny (model pw w) (ktrTop dp un gd cn cs L a ccd cl outer) (call (.ref f) vs) Q E s :=
  con_use C (rest := all) B F X N T hk hd hu (fun _ h => nomatch h) (fun _ h => h) (fun _ _ q => nomatch q) fun r new h' tk' F' N' hF P => ret r new h' tk' F' N' (fun p hp q hq e => by
    have := (hF p hp).2 q.2 (by rw [e]; exact (N q hq).1)
    cases this) P
theorem apart1 {a D : Addr} {o o' : Obj} {r : Led} (h : ∀ p ∈ [(a, o)], ∀ q ∈ (D, o') :: r, p.1 ≠ q.1) : @Ne Nat a D := h _ List.mem_cons_self _ List.mem_cons_self
end Pb93
end
section
open PySem PySem.W PyProof.Rows PySem.Spec PySem.Calls
namespace Pb93
/-- between the turns of attributes_told -/
inductive AJ (D ax : Addr) (vs : List Value) (n : Nat) (rest : Led) (bs : List (Array UInt8)) (b : Array UInt8) (t : Tok) (i : Nat) (m : Str → Option Value) (nx : Led) : Prop
  | mk (rs : List Value) (k : Nat) (tl : Led) (u : Str → Option Value) (e0 : nx = (D, W.listOf rs.toArray k) :: (tl ++ (ax, W.listOf vs.toArray n) :: rest)) (e1 : PairsAre tl rs ((bs.take i).map toldB)) (e2 : (∀ c ∈ bs.take i, toldB c ≠ none)) (e3 : (∀ p ∈ tl ++ (ax, W.listOf vs.toArray n) :: rest, p.1 ≠ D)) (e4 : m = fun y => if y = Str.ofString "found" then some (.ref D) else if y = Str.ofString "words" then some (.ref ax) else if y = Str.ofString "row" then some (.bytes b t) else u y) : AJ D ax vs n rest bs b t i m nx
theorem AJ_map {D ax : Addr} {b : Array UInt8} {t : Tok} : (fun y => if y = Str.ofString "found" then some (Value.ref D) else List.lookup y [(Str.ofString "words", Value.ref ax), (Str.ofString "row", Value.bytes b t)].reverse) =
    fun y => if y = Str.ofString "found" then some (.ref D) else if y = Str.ofString "words" then some (.ref ax) else if y = Str.ofString "row" then some (.bytes b t) else (fun _ => none) y := by
  funext y
  by_cases h1 : y = Str.ofString "found"
  · rw [if_pos h1, if_pos h1]
  · rw [if_neg h1, if_neg h1]
    by_cases h2 : y = Str.ofString "words"
    · subst h2; rfl
    · by_cases h3 : y = Str.ofString "row"
      · subst h3; rfl
      · rw [if_neg h2, if_neg h3]
        simp only [List.reverse_cons, List.reverse_nil, List.nil_append, List.cons_append, List.lookup_cons, List.lookup_nil, beq_eq_false_iff_ne.mpr h2, beq_eq_false_iff_ne.mpr h3]
theorem AJ_start {D ax : Addr} {vs : List Value} {n k : Nat} {rest : Led} {bs : List (Array UInt8)} {b : Array UInt8} {t : Tok} (h : ∀ p ∈ (ax, W.listOf vs.toArray n) :: rest, p.1 ≠ D) :
    AJ D ax vs n rest bs b t 0 (fun y => if y = Str.ofString "found" then some (.ref D) else List.lookup y [(Str.ofString "words", Value.ref ax), (Str.ofString "row", Value.bytes b t)].reverse) ((D, W.listOf #[] k) :: (ax, W.listOf vs.toArray n) :: rest) :=
  ⟨[], k, [], _, rfl, .nil, by simp, h, AJ_map⟩
theorem words_C_atold_1 : True := by
  k_with_none
  k_with "exec For Name Name cons nil" => (k_here; (rename Fr _ _ _ _ => lF'); (with_unfolding_all refine' For_turns lF' ?_); k_whole)
  trivial
theorem allLt_ne {d : Addr} {o : Obj} {ax : Addr} {rest : Led} (h : @LT.lt Nat _ ax d ∧ AllLt d rest) : ∀ p ∈ (ax, o) :: rest, p.1 ≠ d := fun p hp => by
  rcases List.mem_cons.mp hp with rfl | hp
  · exact Nat.ne_of_lt h.1
  · exact Nat.ne_of_lt (kst_ltOf h.2 p hp)
theorem words_C_atold_2 : True := by
  k_with "call ref" => (k_here; (with_reducible show wpAny _ _ (call (.ref 45) _) _ _ _); k_dflt (refine make_bad (by k_asm) (by k_asm) (by k_asm) (by k_asm) (by k_asm) (by exact rfl) (by dsimp only [ktrTop, Around.deeper]; omega) (by dsimp only [ktrTop, Around.deeper]; omega) ?_; intro kx kd kt ktk kh ktk2 kF kN kLx))
  k_with "exec Raise some none" => (k_here; k_dflt (refine raise_bad (by exact rfl) ?_))
  trivial
theorem AJ_up {D ax I : Addr} {o oD : Obj} {tl rest own : Led} (hne : ∀ p ∈ tl ++ (ax, o) :: rest, p.1 ≠ D) (ho : ∀ p ∈ own, p.1 ∈ [I, ax]) (hI : (D, oD).1 ∉ [I]) : ∀ p ∈ tl ++ (ax, o) :: (rest ++ own), p.1 ≠ D := fun p hp => by
  have hp : p ∈ (tl ++ (ax, o) :: rest) ++ own := by simpa using hp
  rcases List.mem_append.mp hp with hp | hp
  · exact hne p hp
  · intro q
    rcases List.mem_cons.mp (ho p hp) with e | e
    · exact hI (by rw [← e, q]; exact List.mem_cons_self)
    · exact hne (ax, o) (by simp) ((List.mem_singleton.mp e).symm.trans q)
theorem AJ_swap {A B C vt vw : Value} {u : Str → Option Value} : (fun y => if y = Str.ofString "told" then some vt else if y = Str.ofString "word" then some vw else (fun y => if y = Str.ofString "found" then some A else if y = Str.ofString "words" then some B else if y = Str.ofString "row" then some C else u y) y) =
    fun y => if y = Str.ofString "found" then some A else if y = Str.ofString "words" then some B else if y = Str.ofString "row" then some C else (fun y => if y = Str.ofString "told" then some vt else if y = Str.ofString "word" then some vw else u y) y := by
  funext y
  by_cases h1 : y = Str.ofString "found"
  · subst h1; rfl
  · by_cases h2 : y = Str.ofString "words"
    · subst h2; rfl
    · by_cases h3 : y = Str.ofString "row"
      · subst h3; rfl
      · simp only [if_neg h1, if_neg h2, if_neg h3]
theorem take_succ_of {α : Type} {l : List α} {i : Nat} {x : α} (h : l[i]? = some x) : l.take (i + 1) = l.take i ++ [x] := by
  rw [List.take_add_one, h]; rfl
theorem raised_ne {P : Params} {h : Heap} {x d : Addr} {c : Value} {dd : Addr} {v : Value} {tk : Tok} (h1 : h.get? x = some (excD c dd)) (h2 : h.get? d = some (toldO P tk v)) : d ≠ x := fun e => by
  rw [e, h1] at h2
  exact absurd (congrArg Obj.dict (Option.some.inj h2)) (by intro q; cases q)
theorem raised_intro {w : World} {g : Heap} {L : Addr} {m : Str → Option Value} {all : Led} {x t d : Addr} {E : Value → Shared → Prop} {s₁ : Shared} (X : (K w.params).In g) (F : Fr g L s₁.heap m) (N : News g L s₁.heap all) (hm : (x, excD (.ref t) d) ∈ all) (h : E (.ref x) s₁) : RaisedBad w E (.ref x) s₁ := ⟨x, t, d, rfl, X.keeps F.keep, (N _ hm).1, h⟩
theorem words_C_atold_3 : True := by
  k_with "RaisedBad" => (k_here; (refine raised_intro (by k_asm) (by k_asm) (by k_asm) (by k_mem) ?_))
  k_with "call builtin:list.append" => (k_here; k_dflt (refine' append_K ?F ?N ?U ?h ?z; (case F => k_asm); (case N => k_asm); (case U => first | exact Upd.head (by with_reducible assumption) | exact Upd.tail (by k_ne) (Upd.head (by with_reducible assumption)) | exact Upd.tail (by k_ne) (Upd.tail (by k_ne) (Upd.head (by with_reducible assumption))) | exact Upd.tail (by k_ne) (Upd.tail (by k_ne) (Upd.tail (by k_ne) (Upd.head (by with_reducible assumption))))); (case z => with_reducible assumption); intro kh kF kN; (try dsimp only [List.nil_append, List.cons_append] at kN)))
  k_with "call ref" => (k_here; (with_reducible show wpAny _ _ (call (.ref 136) _) _ _ _); k_dflt ((refine' con_useA (told_con _ _ _ _ ?hb ?hz) ?B ?F ?X ?N ?T ?k ?hd ?hu ?_; (case hb => kba_ints); (case hz => omega); (case B => k_asm); (case F => k_asm); (case X => k_asm); (case N => k_asm); (case T => k_asm); (case k => exact rfl); (case hd => (dsimp only [ktrTop]; omega)); (case hu => (dsimp only [ktrTop]; omega)); (rintro kr knew kh ktk kF kN kAp kO;  (rcases pair_cases kO with ⟨kE, kR, kW⟩ | ⟨kn, kv, ka, kt, kx, kE, kR, kW, kV⟩ <;> subst kR kW); all_goals (try (have kNe := apart1 kAp));all_goals (try dsimp only [List.nil_append, List.cons_append] at kN)))))
  trivial
set_option maxHeartbeats 4000000 in
theorem atold_use {w : World} {ax : Addr} {vs : List Value} {n : Nat} {bs : List (Array UInt8)} {b : Array UInt8} {t : Tok} {rest : Led}
    {mean : ExcName → Option Value} {mg mb : Str → Option Value} {dp un : Nat} {gd : Option (List Code)} {cn : Str} {cs : Scope} {a : Addr} {ccd : Value} {cl : List (Str × Addr)} {outer : List Env} {A₀ : Around} {base h₀ : Heap} {L : Addr} {m : Str → Option Value} {s : Shared} {Q E : Value → Shared → Prop}
    (B : Below A₀ base outer h₀) (F : Fr h₀ L s.heap m) (X : (K w.params).In h₀) (N : News h₀ L s.heap ((ax, W.listOf vs.toArray n) :: rest)) (T : Tp mean mg mb h₀) (hkc : cs.kind = .function) (hd : dp + 300 < recursionLimit) (hu : un + 600 < cLine)
    (hB : BysAre vs bs) (hz : ∀ c ∈ bs, c.size ≤ 4000) (hl : vs.length ≤ 1000)
    (ret : ∀ D rs k tl h' tk', (∀ c ∈ bs, toldB c ≠ none) → PairsAre tl rs (bs.map toldB) → Fr h₀ L h' m → News h₀ L h' ((D, W.listOf rs.toArray k) :: (tl ++ (ax, W.listOf vs.toArray n) :: rest)) → Q (.ref D) { s with heap := h', toks := tk' })
    (rai : (∃ c ∈ bs, toldB c = none) → ∀ e d tk G h' tk', RaisedB base G (envX cn cs L a ccd cl :: outer) e d ((d, toldO w.params tk (.bytes b t)) :: (ax, W.listOf vs.toArray n) :: rest) h' → Fr h₀ L G m → G.UpToSlots h' → E (.ref e) { s with heap := h', toks := tk' }) :
    wpAny (model pw w) (ktrTop dp un gd cn cs L a ccd cl outer) (call (.ref 143) [.ref ax, .bytes b t]) Q E s := by
  refine enter_R (dn := 300) (i := 15) (nm := "attributes_told") (c := 142) [("words", .ref ax), ("row", .bytes b t)] (by conv => lhs; whnf) (by k_is) (by k_is) rfl rfl B F X N T hkc hd ?_
  intro g L' h₁ FG F' N' B' X' T'
  clear B F X N T
  k_fold
  k_steps
  rename (@LT.lt Nat _ ax _ ∧ AllLt _ rest) => lD
  rename_i D _ _ _
  refine turns_list (AJ _ ax vs n rest bs b t) rfl (by k_asm) (by k_asm) (by k_mem) rfl rfl (AJ_start (allLt_ne lD)) ?turn ?done
  case turn =>
    intro i v m₁ news₁ h tk own I s₂ hv hJ ho hIo hoff hnI hs₂ F N
    obtain ⟨oI, hIo⟩ := hIo
    obtain ⟨rs, k, tl, u, rfl, hP, hT, hne, rfl⟩ := hJ
    obtain ⟨g₂, tk₂, rfl⟩ := hs₂
    have hi : i < vs.length := (List.getElem?_eq_some_iff.mp hv).1
    obtain ⟨bi, ti, e1, e2⟩ := bys_at hB i hi
    have ev : v = .bytes bi ti := by rw [← e1, Array.getD_eq_getD_getElem?]; simp [hv]
    subst ev
    have hbi := hz bi (List.mem_of_getElem? e2)
    have hzi : (KBw.bInts bi).length ≤ 4000 := by rw [KBw.ints_length]; exact hbi
    obtain ⟨ks, hks⟩ : ∃ ks, KBw.bInts bi = ks := ⟨_, rfl⟩
    rw [hks] at hzi
    simp only [List.cons_append, List.append_assoc] at N
    have hUp := AJ_up hne ho (hoff _ List.mem_cons_self)
    have hrs : rs.toArray.size ≤ sizeLine := by rw [List.size_toArray, hP.len, List.length_map, List.length_take, sizeLine_eq]; have := bys_len hB; omega
    k_steps
    case h =>
      have hnone : toldB bi = some (kn, kv) := by rw [toldB, hks]; exact kE
      have hkI : ka ≠ I := kAp _ List.mem_cons_self (I, oI) (List.mem_cons_of_mem _ (List.mem_append_right _ (List.mem_cons_of_mem _ (List.mem_append_right _ hIo))))
      refine turn_end (news₂ := (D, W.listOf (rs ++ [Value.ref ka]).toArray (k + 1)) :: (((ka, tupO (.str (textS kn) kt) kx) :: tl) ++ (ax, W.listOf vs.toArray n) :: rest)) ⟨rs ++ [Value.ref ka], k + 1, (ka, tupO (.str (textS kn) kt) kx) :: tl, _, rfl, ?_, ?_, ?_, AJ_swap⟩ kF kN ?_ ?_ ?_
      · rw [take_succ_of e2, List.map_append, List.map_singleton, hnone]
        exact (hP.mono fun p hp => List.mem_cons_of_mem _ hp).snoc ⟨ka, kt, kx, rfl, List.mem_cons_self, kV⟩
      · intro c hc
        rw [take_succ_of e2] at hc
        rcases List.mem_append.mp hc with hc | hc
        · exact hT c hc
        · rw [List.mem_singleton.mp hc, hnone]; exact fun q => nomatch q
      · intro p hp
        rcases List.mem_cons.mp hp with rfl | hp
        · exact kNe
        · exact hne p hp
      · intro p hp
        rcases List.mem_cons.mp hp with rfl | hp
        · exact hoff (D, W.listOf rs.toArray k) List.mem_cons_self
        · rcases List.mem_cons.mp hp with rfl | hp
          · exact fun q => hkI (List.mem_singleton.mp q)
          · exact hoff p (List.mem_cons_of_mem _ hp)
      · intro p hp
        simp only [List.mem_cons, List.mem_append, List.cons_append] at hp ⊢
        rcases hp with rfl | rfl | hp | rfl | hp
        · exact .inr (.inl (by simp))
        · exact .inl rfl
        · exact .inr (.inr (.inl hp))
        · exact .inr (.inr (.inr (.inl rfl)))
        · exact .inr (.inr (.inr (.inr (.inl hp))))
      · intro p hp
        simp only [List.mem_cons, List.mem_append]
        exact .inr (.inr (.inr (.inr (.inr hp))))
    refine leave_bad (e := kx) (t := kt) (news := (kd, toldO w.params ktk (.bytes b t)) :: (ax, W.listOf vs.toArray n) :: rest) B' kF (fun p hp => kN p ?_) ?_ (fun h' R U => rai ⟨bi, List.mem_of_getElem? e2, ?_⟩ _ _ _ _ _ _ R FG U)
    · simp only [List.mem_cons, List.mem_append] at hp ⊢
      rcases hp with rfl | rfl | rfl | hp
      · exact .inl rfl
      · exact .inr (.inl rfl)
      · exact .inr (.inr (.inr (.inr (.inr (.inl rfl)))))
      · exact .inr (.inr (.inr (.inr (.inr (.inr (.inl hp))))))
    · intro p hp
      rcases List.mem_cons.mp hp with rfl | hp
      · exact raised_ne (kN _ List.mem_cons_self).1 (kN _ (List.mem_cons_of_mem _ List.mem_cons_self)).1
      · refine Nat.ne_of_lt (kLx p ?_)
        simp only [List.mem_cons, List.mem_append] at hp ⊢
        rcases hp with rfl | hp
        · exact .inr (.inr (.inl rfl))
        · exact .inr (.inr (.inr (.inl hp)))
    · rw [toldB, hks]; exact kE
  case done =>
    intro m₁ news₁ h tk hJ F N
    obtain ⟨rs, k, tl, u, rfl, hP, hT, hne, rfl⟩ := hJ
    have hbl : List.take vs.length bs = bs := by rw [bys_len hB, List.take_length]
    rw [hbl] at hP hT
    try k_fold
    k_steps
    exact ⟨_, _, _, F, N, fun F0 N0 => ret _ _ _ _ _ _ hT hP F0 N0⟩
end Pb93
end
section
open PySem PySem.W PyProof.Rows PySem.Spec PySem.Calls
namespace Pb93
/-- leaving a body whose callers' frames may have turned (their slots alone) -/
inductive LeaveT (fs : List Addr) (A₀ : Around) (base : Heap) (outer : List Env) (w : World) (mean : ExcName → Option Value) (mg mb : Str → Option Value) (h₀ : Heap) (L : Addr) (m : Str → Option Value) (g : Heap) (R : Value → Shared → Prop) (v : Value) (s' : Shared) : Prop
  | mk g' L' m' news' (e0 : KtsTurn fs g g') (e1 : Fr g' L' s'.heap m') (e2 : News g' L' s'.heap news') (e3 : ∀ h₀', KtsTurn (outer.filterMap (·.frame)) h₀ h₀' → Fr h₀' L s'.heap m → News h₀' L s'.heap news' → Below A₀ base outer h₀' → (K w.params).In h₀' → Tp mean mg mb h₀' → KtsDicts (outer.filterMap (·.frame)) h₀' → R v s') : LeaveT fs A₀ base outer w mean mg mb h₀ L m g R v s'
section
variable {w : World} {A₀ A : Around} {s : Shared} {base h₀ : Heap} {outer : List Env} {L : Addr} {m : Str → Option Value} {env : Env} {news : Led} {mean : ExcName → Option Value} {mg mb : Str → Option Value} {R : Value → Shared → Prop}
theorem memX (hf : env.frame = some L) {b : Addr} (hm : b ∈ (env :: outer).filterMap (·.frame)) : b = L ∨ b ∈ outer.filterMap (·.frame) := by
  obtain ⟨e, he, hfr⟩ := List.mem_filterMap.mp hm
  rcases List.mem_cons.mp he with rfl | he
  · exact .inl (Option.some.inj (hfr.symm.trans hf))
  · exact .inr (List.mem_filterMap.mpr ⟨e, he, hfr⟩)
theorem groundS (B : Below A₀ base outer h₀) (F : Fr h₀ L s.heap m) (N : News h₀ L s.heap news) (hA : A.frames = some (env :: outer)) (hf : env.frame = some L) (hke : env.scope.kind = .function)
    (XB : (K w.params).In base) (TB : Tp mean mg mb base) (D : KtsDicts (outer.filterMap (·.frame)) h₀) :
    Fr h₀ L (hideAll s.heap (news.map (·.1))) m ∧ Below A base (env :: outer) (hideAll s.heap (news.map (·.1))) ∧ h₀.StaysIn (hideAll s.heap (news.map (·.1))) ∧ KtsDicts ((env :: outer).filterMap (·.frame)) (hideAll s.heap (news.map (·.1))) ∧
      ∀ v s', LeaveT ((env :: outer).filterMap (·.frame)) A₀ base outer w mean mg mb h₀ L m (hideAll s.heap (news.map (·.1))) R v s' → R v s' := by
  obtain ⟨FG, BG, st, _⟩ := groundX (R := fun _ _ => True) B F N hA hf hke
  have nL₀ : h₀.get? L = none := kts_self F
  obtain ⟨oL, es, ep, hLg, hLd, hLk, hLf⟩ := FG.ns
  refine ⟨FG, BG, st, fun b hb => ?_, fun v s' hl => ?_⟩
  · rcases memX hf hb with rfl | hb
    · exact ⟨oL, es, ep, hLg, hLd⟩
    · obtain ⟨o, es', n', ho', hd'⟩ := D b hb
      exact ⟨o, es', n', st b o ho', hd'⟩
  obtain ⟨g', L', m', news', T', F', N', k⟩ := hl
  obtain ⟨sl, hs⟩ := T'.up hLg
  obtain ⟨T₁, S₁⟩ := kts_turn_at (h := s'.heap) (fs := outer.filterMap (·.frame)) (g := h₀)
    (fun b hb => by
      obtain ⟨_, o, ho', _⟩ := B.frames.mem hb
      exact ⟨o, ho'⟩)
    (fun b o e nmem => F'.keep b o (T'.other b o (st b o e) (fun q => by
      rcases memX hf q with z | z
      · rw [z, nL₀] at e
        cases e
      · exact nmem z)))
    (fun b o e hm => by
      obtain ⟨sl', hs'⟩ := T'.up (st b o e)
      exact ⟨sl', F'.keep _ _ hs'⟩)
  have B₃ : Below A₀ base outer (ktsHeap s'.heap (outer.filterMap (·.frame)) h₀) := ⟨B.stack, fun b o e => T₁.other b o (B.stays b o e) (fun hm => by
    rw [(B.frames.mem hm).1] at e
    cases e), B.frames.of_keeps fun b o e _ => by
    obtain ⟨sl', hs'⟩ := T₁.up e
    exact ⟨_, hs', rfl⟩⟩
  refine k _ T₁ ⟨⟨_, es, ep, F'.keep _ _ hs, hLd, hLk, hLf⟩, S₁, by rw [T₁.size]; exact F.above⟩ (fun p hp => ⟨(N' p hp).1, fun q => ?_, ?_⟩) B₃ (XB.keeps B₃.stays) (TB.keeps B₃.stays) (D.turn T₁)
  · have := (N' p hp).2.2; rw [q, hs] at this; cases this
  · refine T₁.none_ _ ?_
    cases q : h₀.get? p.1 with
    | none => rfl
    | some o =>
      obtain ⟨sl', hs'⟩ := T'.up (st _ _ q)
      have := (N' p hp).2.2
      rw [hs'] at this
      cases this
end
/-- a call of a def without cells, wherever: what it raises and catches may turn the callers' frames -/
theorem enter_S {w : World} {f : Addr} {vs : List Value} {dn : Nat} {i : Nat} {nm : Str} {c : Addr} {pm : Value} {params : Arguments} {body : List Stmt} {scope : Scope} (binds : List (Str × Value))
    {mean : ExcName → Option Value} {mg mb : Str → Option Value} {dp un : Nat} {gd : Option (List Code)} {cn : Str} {cs : Scope} {a : Addr} {ccd : Value} {cl : List (Str × Addr)} {outer : List Env} {A₀ : Around} {base h₀ : Heap} {L : Addr} {m : Str → Option Value} {s : Shared} {Q E : Value → Shared → Prop} {news : Led}
    (hp : part i = (params, body, scope))
    (ho : (K w.params).lookup f = some ⟨.type "function", none, .func (fnOf nm nm (part i).1 (part i).2.1 (part i).2.2 .none .none .none pm none (.ref c) .none), #[]⟩)
    (hcd : codeIn (K w.params) (.ref c) nm = true)
    (hbind : bindArgs (fnOf nm nm params body scope .none .none .none pm none (.ref c) .none) ⟨vs, []⟩ = pure binds)
    (hloc : (binds.all fun x => decide (scope.names.lookup x.1 = some .local)) = true)
    (B : Below A₀ base outer h₀) (F : Fr h₀ L s.heap m) (X : (K w.params).In h₀) (N : News h₀ L s.heap news) (T : Tp mean mg mb h₀) (XB : (K w.params).In base) (TB : Tp mean mg mb base) (D : KtsDicts (outer.filterMap (·.frame)) h₀) (hkc : cs.kind = .function) (hd : dp + dn < recursionLimit)
    (h : ∀ g L' h₁, Fr g L' h₁ (fun y => binds.reverse.lookup y) → News g L' h₁ news → Below (ktrTop dp un gd cn cs L a ccd cl outer) base (envX cn cs L a ccd cl :: outer) g → (K w.params).In g → Tp mean mg mb g → KtsDicts ((envX cn cs L a ccd cl :: outer).filterMap (·.frame)) g →
      wpAny (model pw w) ((ktrTop dp un gd cn cs L a ccd cl outer).deeper (envOf nm scope L' f (.ref c))) (execs body (envOf nm scope L' f (.ref c)))
        (fun fl s' => LeaveT ((envX cn cs L a ccd cl :: outer).filterMap (·.frame)) A₀ base outer w mean mg mb h₀ L m g Q (match fl with | .ret v => v | _ => .none) s')
        (fun e s' => wpAny (model pw w) ((ktrTop dp un gd cn cs L a ccd cl outer).deeper (envOf nm scope L' f (.ref c))) (leaving (envOf nm scope L' f (.ref c)) e) (fun _ s'' => E e s'') (fun e' s'' => E e' s'') s')
        { s with heap := h₁, toks := s.toks + binds.length })
    (hco : scope.isCoroutine = false := by rfl) (hgen : scope.isGenerator = false := by rfl) (hk : scope.kind = .function := by rfl) (hcell : ∀ x ∈ scope.names, x.2 ≠ .cell := by decide) :
    wpAny (model pw w) (ktrTop dp un gd cn cs L a ccd cl outer) (call (.ref f) vs) Q E s := by
  rw [hp] at ho
  refine wpAny_call ?_
  obtain ⟨FG, BG, st, DG, lv⟩ := groundS (R := Q) (A := ktrTop dp un gd cn cs L a ccd cl outer) (env := envX cn cs L a ccd cl) B F N rfl rfl hkc XB TB D
  refine codeAny_call_def (fd := fnX nm nm params body scope [] .none .none .none pm none (.ref c) .none) (body := body) (binds := binds) (by show dp < recursionLimit; omega) ((X.keeps F.keep) _ _ ho) rfl (T.nolimit.keeps F.keep) (codeRec_of (X.keeps F.keep) hcd) rfl (BindsTo.of_eq hbind) hcell (locs hloc) (fun h₁ hns hk₁ => ?_) hco hgen hk
  exact wpAny_mono (h _ s.heap.objs.size h₁ ⟨hns, fun b o e => hk₁ b o (of_hideAll _ e), Nat.le_of_eq (hideAll_size _ _)⟩
    (fun p hp => ⟨hk₁ _ _ (N p hp).1, Nat.ne_of_lt (Heap.lt_size (N p hp).1), hideAll_none _ (List.mem_map_of_mem hp)⟩) BG (X.keeps st) (T.keeps st) DG) (fun fl s' hl => lv _ _ hl) fun _ _ y => y
/-- the same of a def with cells -/
theorem enter_SC {w : World} {f : Addr} {vs : List Value} {dn : Nat} {i : Nat} {nm : Str} {c : Addr} {pm : Value} {params : Arguments} {body : List Stmt} {scope : Scope} (binds : List (Str × Value))
    {mean : ExcName → Option Value} {mg mb : Str → Option Value} {dp un : Nat} {gd : Option (List Code)} {cn : Str} {cs : Scope} {a : Addr} {ccd : Value} {cl : List (Str × Addr)} {outer : List Env} {A₀ : Around} {base h₀ : Heap} {L : Addr} {m : Str → Option Value} {s : Shared} {Q E : Value → Shared → Prop} {news : Led}
    (hp : part i = (params, body, scope))
    (ho : (K w.params).lookup f = some ⟨.type "function", none, .func (fnOf nm nm (part i).1 (part i).2.1 (part i).2.2 .none .none .none pm none (.ref c) .none), #[]⟩)
    (hcd : codeIn (K w.params) (.ref c) nm = true)
    (hbind : bindArgs (fnOf nm nm params body scope .none .none .none pm none (.ref c) .none) ⟨vs, []⟩ = pure binds)
    (hkind : (binds.all fun y => scope.names.lookup y.1 == some .local || scope.names.lookup y.1 == some .cell) = true)
    (hnd : ((cellsFrom 0 scope.names []).map (·.1)).Nodup)
    (B : Below A₀ base outer h₀) (F : Fr h₀ L s.heap m) (X : (K w.params).In h₀) (N : News h₀ L s.heap news) (T : Tp mean mg mb h₀) (XB : (K w.params).In base) (TB : Tp mean mg mb base) (D : KtsDicts (outer.filterMap (·.frame)) h₀) (hkc : cs.kind = .function) (hd : dp + dn < recursionLimit)
    (h : ∀ g L' h₁ tk cells, Fr g L' h₁ (bindL (envOfC nm scope L' f (.ref c)).kindOf binds fun _ => none) → News g L' h₁ (cells ++ news) →
      CellsAre (bindC (envOfC nm scope L' f (.ref c)).kindOf binds fun _ => none) (cellsFrom (L' + 1) scope.names []) cells → Below (ktrTop dp un gd cn cs L a ccd cl outer) base (envX cn cs L a ccd cl :: outer) g → (K w.params).In g → Tp mean mg mb g → KtsDicts ((envX cn cs L a ccd cl :: outer).filterMap (·.frame)) g → (∀ p ∈ news, p.1 < L') →
      wpAny (model pw w) ((ktrTop dp un gd cn cs L a ccd cl outer).deeper (envOfC nm scope L' f (.ref c))) (execs body (envOfC nm scope L' f (.ref c)))
        (fun fl s' => LeaveT ((envX cn cs L a ccd cl :: outer).filterMap (·.frame)) A₀ base outer w mean mg mb h₀ L m g Q (match fl with | .ret v => v | _ => .none) s')
        (fun e s' => wpAny (model pw w) ((ktrTop dp un gd cn cs L a ccd cl outer).deeper (envOfC nm scope L' f (.ref c))) (leaving (envOfC nm scope L' f (.ref c)) e) (fun _ s'' => E e s'') (fun e' s'' => E e' s'') s')
        { s with heap := h₁, toks := tk })
    (hco : scope.isCoroutine = false := by rfl) (hgen : scope.isGenerator = false := by rfl) (hk : scope.kind = .function := by rfl) :
    wpAny (model pw w) (ktrTop dp un gd cn cs L a ccd cl outer) (call (.ref f) vs) Q E s := by
  rw [hp] at ho
  refine wpAny_call ?_
  obtain ⟨FG, BG, st, DG, lv⟩ := groundS (R := Q) (A := ktrTop dp un gd cn cs L a ccd cl outer) (env := envX cn cs L a ccd cl) B F N rfl rfl hkc XB TB D
  refine codeAny_call_function (by show dp < recursionLimit; omega) ((X.keeps F.keep) _ _ ho) rfl hco hgen rfl (codeRec_of (X.keeps F.keep) hcd) (BindsTo.of_eq hbind _ _ _ _ ?_)
  refine wpAny_newFunctionEnv_cells hk (kindsX hkind _) fun env' he s' x => ?_
  subst he
  refine ⟨(T.nolimit.keeps F.keep).keeps x.toInCall.keep, codeAny_func ?_⟩
  obtain ⟨h₁, tk, rfl, _⟩ := x.done
  have up := x.toInCall.keep
  obtain ⟨cells, NC, Y⟩ := Cl.news (h₀ := s.heap) (Nat.le_refl _) fun n c hm => ⟨x.cell n c (lookup_of_mem_nodup (cellsFrom_names scope.names 0 (s.heap.objs.size + 1) [] [] rfl ▸ hnd) hm), x.above n c hm⟩
  have NA : News (hideAll s.heap (news.map (·.1))) s.heap.objs.size h₁ (cells ++ news) := by
    intro p hp
    rcases List.mem_append.mp hp with hp | hp
    · refine ⟨(NC p hp).1, (NC p hp).2.1, ?_⟩
      cases q : (hideAll s.heap (news.map (·.1))).get? p.1 with
      | none => rfl
      | some o =>
        have z := of_hideAll _ q
        rw [(NC p hp).2.2] at z
        exact absurd z (by simp)
    · exact ⟨up _ _ (N p hp).1, Nat.ne_of_lt (Heap.lt_size (N p hp).1), hideAll_none _ (List.mem_map_of_mem hp)⟩
  exact wpAny_mono (h _ s.heap.objs.size h₁ tk cells ⟨x.toInCall.ns, fun b o e => up b o (of_hideAll _ e), Nat.le_of_eq (hideAll_size _ _)⟩ NA Y BG (X.keeps st) (T.keeps st) DG fun p hp => Heap.lt_size (N p hp).1) (fun fl s' hl => lv _ _ hl) fun _ _ y => y
end Pb93
end
section
open PySem PySem.W PyProof.Rows PySem.Spec PySem.Calls
namespace Pb93
/-- what _law_told hands back -/
def ToldIs (bs : List (Array UInt8)) (r : Value) (new : Led) : Prop :=
  ((∃ c ∈ bs, toldB c = none) ∧ r = .none ∧ new = []) ∨ ((∀ c ∈ bs, toldB c ≠ none) ∧ ∃ D rs k tl, r = .ref D ∧ new = (D, W.listOf rs.toArray k) :: tl ∧ PairsAre tl rs (bs.map toldB))
theorem words_C_ltold_1 : True := by
  k_with_none
  k_with "call ref" => (k_here; (with_reducible show wpAny _ _ (call (.ref 143) _) _ _ _); k_dflt (refine atold_use (by k_asm) (by k_asm) (by k_asm) (by k_asm) (by k_asm) (by exact rfl) (by dsimp only [ktrTop, Around.deeper]; omega) (by dsimp only [ktrTop, Around.deeper]; omega) (by assumption) (by assumption) (by assumption) ?_ ?_))
  k_with "getAttr ref" => (k_here; k_dflt (refine get_told (Frag.In.keeps (by k_asm) (Fr.keep (by k_asm))) (by assumption) look_told (by exact rfl) ?_))
  trivial
set_option maxHeartbeats 4000000 in
theorem ltold_use {w : World} {ax : Addr} {vs : List Value} {n : Nat} {bs : List (Array UInt8)} {b : Array UInt8} {t : Tok} {rest : Led}
    {mean : ExcName → Option Value} {mg mb : Str → Option Value} {dp un : Nat} {gd : Option (List Code)} {cn : Str} {cs : Scope} {a : Addr} {ccd : Value} {cl : List (Str × Addr)} {outer : List Env} {A₀ : Around} {base h₀ : Heap} {L : Addr} {m : Str → Option Value} {s : Shared} {Q E : Value → Shared → Prop}
    (B : Below A₀ base outer h₀) (F : Fr h₀ L s.heap m) (X : (K w.params).In h₀) (N : News h₀ L s.heap ((ax, W.listOf vs.toArray n) :: rest)) (T : Tp mean mg mb h₀) (XB : (K w.params).In base) (TB : Tp mean mg mb base) (D : KtsDicts (outer.filterMap (·.frame)) h₀) (hkc : cs.kind = .function) (hd : dp + 310 < recursionLimit) (hu : un + 610 < cLine)
    (hB : BysAre vs bs) (hz : ∀ c ∈ bs, c.size ≤ 4000) (hl : vs.length ≤ 1000)
    (ret : ∀ r new h' tk' h₀', KtsTurn (outer.filterMap (·.frame)) h₀ h₀' → Fr h₀' L h' m → News h₀' L h' (new ++ (ax, W.listOf vs.toArray n) :: rest) → Below A₀ base outer h₀' → (K w.params).In h₀' → Tp mean mg mb h₀' → KtsDicts (outer.filterMap (·.frame)) h₀' → ToldIs bs r new → Q r { s with heap := h', toks := tk' }) :
    wpAny (model pw w) (ktrTop dp un gd cn cs L a ccd cl outer) (call (.ref 179) [.ref ax, .bytes b t]) Q E s := by
  refine enter_S (dn := 310) (i := 22) (nm := "_law_told") (c := 178) [("words", .ref ax), ("row", .bytes b t)] (by conv => lhs; whnf) (by k_is) (by k_is) rfl rfl B F X N T XB TB D hkc hd ?_
  intro g L' h₁ F' N' B' X' T' D'
  clear B F X N T D
  k_fold
  k_steps
  · rename_i D rs k tl h' tk' hT hP F₁ N₁
    exact ⟨g, L', _, _, KtsTurn.refl, F₁, N₁, fun h₀' T₂ F₂ N₂ B₂ X₂ P₂ D₂ => ret _ ((D, W.listOf rs.toArray k) :: tl) _ _ _ T₂ F₂ N₂ B₂ X₂ P₂ D₂ (.inr ⟨hT, D, rs, k, tl, rfl, rfl, hP⟩)⟩
  · rename_i hT e d tkd G h' tk' R FG U
    refine caught_bad R FG B' U XB TB D' KtsTurn.refl ?_
    intro h₂ g₂ oe ws tk₂ KT F₂ N₂ hc hdc hdt B₂ X₂ T₂ D₂
    have I₂ : InstAt h₂ e oe 45 (some (toldO w.params tkd (.bytes b t))) := ⟨(N₂ _ List.mem_cons_self).1, hc, by unfold notCls; rw [hdt], by rw [hdc]; exact (N₂ _ (List.mem_cons_of_mem _ List.mem_cons_self)).1⟩
    clear R FG U
    k_steps
    · dsimp only
      refine name_goes_keeps F₂ N₂ (fun h₃ v F₃ N₃ => ?_)
      exact ⟨g₂, L', _, _, KT, F₃, N₃, fun h₀' T₄ F₄ N₄ B₄ X₄ P₄ D₄ => ret _ [] _ _ _ T₄ F₄ (fun p hp => N₄ p (List.mem_cons_of_mem _ (List.mem_cons_of_mem _ hp))) B₄ X₄ P₄ D₄ (.inl ⟨hT, rfl, rfl⟩)⟩
    · rename_i hbb
      exact absurd hbb (by simp)
/-- the same with the list anywhere in the ledger -/
theorem ltold_use3 {w : World} {ax : Addr} {vs : List Value} {n : Nat} {bs : List (Array UInt8)} {b : Array UInt8} {t : Tok} {all : Led}
    {mean : ExcName → Option Value} {mg mb : Str → Option Value} {dp un : Nat} {gd : Option (List Code)} {cn : Str} {cs : Scope} {a : Addr} {ccd : Value} {cl : List (Str × Addr)} {outer : List Env} {A₀ : Around} {base h₀ : Heap} {L : Addr} {m : Str → Option Value} {s : Shared} {Q E : Value → Shared → Prop}
    (B : Below A₀ base outer h₀) (F : Fr h₀ L s.heap m) (X : (K w.params).In h₀) (N : News h₀ L s.heap all) (hm : (ax, W.listOf vs.toArray n) ∈ all) (T : Tp mean mg mb h₀) (XB : (K w.params).In base) (TB : Tp mean mg mb base) (D : KtsDicts (outer.filterMap (·.frame)) h₀) (hkc : cs.kind = .function) (hd : dp + 310 < recursionLimit) (hu : un + 610 < cLine)
    (hB : BysAre vs bs) (hz : ∀ c ∈ bs, c.size ≤ 4000) (hl : vs.length ≤ 1000)
    (retN : (∃ c ∈ bs, toldB c = none) → ∀ h' tk' h₀', KtsTurn (outer.filterMap (·.frame)) h₀ h₀' → Fr h₀' L h' m → News h₀' L h' all → Below A₀ base outer h₀' → (K w.params).In h₀' → Tp mean mg mb h₀' → KtsDicts (outer.filterMap (·.frame)) h₀' → Q .none { s with heap := h', toks := tk' })
    (retL : (∀ c ∈ bs, toldB c ≠ none) → ∀ D₂ rs k tl h' tk' h₀', PairsAre tl rs (bs.map toldB) → KtsTurn (outer.filterMap (·.frame)) h₀ h₀' → Fr h₀' L h' m → News h₀' L h' ((D₂, W.listOf rs.toArray k) :: (all ++ tl)) → Below A₀ base outer h₀' → (K w.params).In h₀' → Tp mean mg mb h₀' → KtsDicts (outer.filterMap (·.frame)) h₀' → Q (.ref D₂) { s with heap := h', toks := tk' }) :
    wpAny (model pw w) (ktrTop dp un gd cn cs L a ccd cl outer) (call (.ref 179) [.ref ax, .bytes b t]) Q E s := by
  refine ltold_use (n := n) (rest := all) (bs := bs) B F X (fun p hp => ?_) T XB TB D hkc hd hu hB hz hl ?_
  · rcases List.mem_cons.mp hp with rfl | hp
    · exact N _ hm
    · exact N _ hp
  intro r new h' tk' h₀' KT F' N' B' X' T' D' O
  rcases O with ⟨hE, rfl, rfl⟩ | ⟨hA, D₂, rs, k, tl, rfl, rfl, hP⟩
  · exact retN hE _ _ _ KT F' (fun p hp => N' p (List.mem_cons_of_mem _ hp)) B' X' T' D'
  · refine retL hA D₂ rs k tl _ _ _ hP KT F' (fun p hp => N' p ?_) B' X' T' D'
    simp only [List.mem_cons, List.mem_append, List.cons_append] at hp ⊢
    rcases hp with hp | hp | hp <;> simp [hp]
end Pb93
end
section
open PySem PySem.W PyProof.Rows PySem.Spec PySem.Calls
namespace Pb93
theorem all_bys {k : Nat} : ∀ {l : List Value}, (l.all fun v => match v with | .bytes b _ => decide (b.size ≤ k) | _ => false) = true → ∀ v ∈ l, IsBys k v
  | [], _, _, h => nomatch h
  | v :: l, e, u, h => by
    rw [List.all_cons, Bool.and_eq_true] at e
    rcases List.mem_cons.mp h with rfl | h
    · cases u with
      | bytes b t => exact ⟨b, t, rfl, of_decide_eq_true e.1⟩
      | _ => cases e.1
    · exact all_bys e.2 u h
section
variable {prog : Program} {w : World} {A : Around} {E : Value → Shared → Prop} {s : Shared} {h₀ : Heap} {L : Addr} {news : Led} {D : Addr} {vs : Array Value} {n : Nat} {r M : Int} {u : Tok}
/-- an element of a menu of bytes, by its size alone -/
theorem get_bys (k : Nat) {value slice : PySem.Expr} {Q : Value → Shared → Prop} (N : News h₀ L s.heap news) (hm : (D, W.listOf vs n) ∈ news) (h0 : 0 ≤ r) (h1 : r < M) (hn : decide (M ≤ (vs.size : Int)) = true) (hf : decide (M < 2 ^ 63) = true)
    (hP : (vs.toList.all fun v => match v with | .bytes b _ => decide (b.size ≤ k) | _ => false) = true) (h : ∀ x, IsBys k x → Q x s)
    (hb : subscripted slice false (.ref D) (.int r u) = operate [.ref D, .int r u] (getItem (.ref D) (.int r u)) := by with_unfolding_all rfl) :
    wpAny (model prog w) A (subscriptTail value slice (.ref D) (.int r u)) Q E s := by
  have hl : s.heap.IsList D vs := ⟨_, (N _ hm).1, rfl, n, rfl⟩
  have hn := of_decide_eq_true hn
  have hf := of_decide_eq_true hf
  have hi : r.toNat < vs.size := by omega
  exact tail_any hl.typeIs slot_list_getitem.lookup (wpAny_getItem_list hl h0 (by omega) (Array.getElem?_eq_getElem hi) (h _ (all_bys hP _ (by simp)))) hb
theorem join_lim {D : Addr} {vs : List Value} {n : Nat} {k B : Nat} {M : Int} {b : Array UInt8} {t : Tok} {Q : Value → Shared → Prop} (N : News h₀ L s.heap news) (hm : (D, W.listOf vs.toArray n) ∈ news) (hB : ∀ y ∈ vs, IsBys k y) (hl : (vs.length : Int) < M) (hk1 : k ≤ 30) (hM : M ≤ 100) (hb : b.size ≤ 1) (hBd : M * ((k : Int) + 1) ≤ (B : Int))
    (h : ∀ b' t' ks k', KBw.bInts b' = ks → ks.length ≤ B → Q (.bytes b' t') { s with toks := k' }) : wpAny (model prog w) A (call (.builtin "bytes.join") [.bytes b t, .ref D]) Q E s := by
  obtain ⟨bs, h1, h2⟩ := bys_of hB
  have e := bys_len h1
  refine call_join N hm h1 h2 (by omega) (by omega) (by omega) fun t' k' => h _ t' _ k' rfl ?_
  have s2 := joined_size (sep := b) h2
  rw [KBw.ints_length]
  have s3 : bs.length * (k + b.size) ≤ bs.length * (k + 1) := Nat.mul_le_mul_left _ (by omega)
  have s4 : ((bs.length * (k + 1) : Nat) : Int) ≤ M * ((k : Int) + 1) := by
    rw [Int.natCast_mul]
    have : (bs.length : Int) ≤ M := by omega
    exact Int.mul_le_mul_of_nonneg_right this (by omega)
  omega
theorem small_ints {b : Array UInt8} {k : Nat} (h : b.size ≤ k) : ∃ ks, KBw.bInts b = ks ∧ ks.length ≤ k := ⟨_, rfl, by rw [KBw.ints_length]; exact h⟩
end
end Pb93
end
section
open PySem PySem.W PyProof.Rows PySem.Spec PySem.Calls
namespace Pb93
open PySem.SeqAt
section
variable {prog : Program} {w : World} {A : Around} {E : Value → Shared → Prop} {s : Shared} {h₀ : Heap} {L D1 D2 : Addr} {news tl tl' : Led} {rs rs' : List Value} {ds : List (Option (List Int × VV))} {n1 n2 : Nat} {Q : Value → Shared → Prop}
theorem vv_eq {v : VV} {x x' : Value} (h : valV v x) (h' : valV v x') : EqAt A s x x' true := by
  cases v with
  | yes => have h : x = .bool true := h; have h' : x' = .bool true := h'; rw [h, h']; exact EqAt.same _
  | no => have h : x = .bool false := h; have h' : x' = .bool false := h'; rw [h, h']; exact EqAt.same _
  | nil => have h : x = .none := h; have h' : x' = .none := h'; rw [h, h']; exact EqAt.same _
  | txt l =>
    obtain ⟨t, rfl⟩ := h
    obtain ⟨t', rfl⟩ := h'
    have z := EqAt.str_str (A := A) (s := s) (textS l) t (textS l) t'
    rwa [beq_self_eq_true] at z
theorem tup_items {n : List Int} {v : VV} {t t' : Tok} {x x' : Value} (hv : valV v x) (hv' : valV v x') : ∀ j (h1 : j < #[Value.str (textS n) t, x].size) (h2 : j < #[Value.str (textS n) t', x'].size), EqAt A s #[Value.str (textS n) t, x][j] #[Value.str (textS n) t', x'][j] true := by
  intro j h1 h2
  match j, h1, h2 with
  | 0, _, _ =>
    have z := EqAt.str_str (A := A) (s := s) (textS n) t (textS n) t'
    rw [beq_self_eq_true] at z
    exact z
  | 1, _, _ => exact vv_eq hv hv'
theorem tup_is {a : Addr} {n : List Int} {t : Tok} {x : Value} (N : News h₀ L s.heap news) (hm : (a, tupO (.str (textS n) t) x) ∈ news) : s.heap.IsTuple a #[Value.str (textS n) t, x] := ⟨_, (N _ hm).1, rfl, 0, rfl⟩
theorem in1_lt (hu : A.units + 4 < cLine) : A.in1.units < cLine := by
  have : A.in1.units ≤ A.units + 1 := by first | exact Nat.le_refl _ | (unfold Around.in1; split <;> simp)
  omega
theorem pin_eq (N : News h₀ L s.heap news) {d : Option (List Int × VV)} {r r' : Value} (h : PairIn tl d r) (h' : PairIn tl' d r') (s1 : ∀ p ∈ tl, p ∈ news) (s2 : ∀ p ∈ tl', p ∈ news) (hu : A.units < cLine) : EqAt A s r r' true := by
  cases d with
  | none => have h : r = .none := h; have h' : r' = .none := h'; rw [h, h']; exact EqAt.same _
  | some p =>
    obtain ⟨n, v⟩ := p
    obtain ⟨a, t, x, rfl, hm, hv⟩ := h
    obtain ⟨a', t', x', rfl, hm', hv'⟩ := h'
    by_cases e : a = a'
    · subst e; exact EqAt.same _
    · exact EqAt.of_refs e (RcAt.tuples (e := fun _ => true) (tup_is N (s1 _ hm)) (tup_is N (s2 _ hm')) hu (tup_items hv hv'))
theorem PairsAre.at {j : Nat} (h : PairsAre tl rs ds) (hj : j < rs.length) : ∃ d, ds[j]? = some d ∧ PairIn tl d rs[j] := by
  induction h generalizing j with
  | nil => exact absurd hj (Nat.not_lt_zero _)
  | cons a _ ih => cases j with
    | zero => exact ⟨_, rfl, a⟩
    | succ j => exact ih (Nat.lt_of_succ_lt_succ hj)
theorem lists_items (N : News h₀ L s.heap news) (h : PairsAre tl rs ds) (h' : PairsAre tl' rs' ds) (s1 : ∀ p ∈ tl, p ∈ news) (s2 : ∀ p ∈ tl', p ∈ news) (hu : A.units < cLine) :
    ∀ j (h1 : j < rs.toArray.size) (h2 : j < rs'.toArray.size), EqAt A s rs.toArray[j] rs'.toArray[j] true := by
  intro j h1 h2
  obtain ⟨d, e1, p1⟩ := h.at (j := j) (by simpa using h1)
  obtain ⟨d', e2, p2⟩ := h'.at (j := j) (by simpa using h2)
  rw [e1] at e2
  cases e2
  exact pin_eq N (by simpa using p1) (by simpa using p2) s1 s2 hu
theorem all_true (n : Nat) : (List.range n).all (fun _ => true) = true := by simp
theorem lists_ne (N : News h₀ L s.heap news) (m1 : (D1, W.listOf rs.toArray n1) ∈ news) (m2 : (D2, W.listOf rs'.toArray n2) ∈ news) (h : PairsAre tl rs ds) (h' : PairsAre tl' rs' ds) (s1 : ∀ p ∈ tl, p ∈ news) (s2 : ∀ p ∈ tl', p ∈ news) (hu : A.units + 4 < cLine) (hq : Q (.bool false) s) :
    wpAny (model prog w) A (compareOp .NotEq (.ref D1) (.ref D2)) Q E s := by
  show wpAny _ _ (richCompare .NotEq _ _) _ _ _
  refine RcNeAt.lists (e := fun _ => true) ⟨_, (N _ m1).1, rfl, n1, rfl⟩ ⟨_, (N _ m2).1, rfl, n2, rfl⟩ (by simp [h.len, h'.len]) (by omega) (lists_items N h h' s1 s2 (in1_lt hu)) prog w E Q ?_
  rw [all_true]; exact hq
theorem lists_eq (N : News h₀ L s.heap news) (m1 : (D1, W.listOf rs.toArray n1) ∈ news) (m2 : (D2, W.listOf rs'.toArray n2) ∈ news) (h : PairsAre tl rs ds) (h' : PairsAre tl' rs' ds) (s1 : ∀ p ∈ tl, p ∈ news) (s2 : ∀ p ∈ tl', p ∈ news) (hu : A.units + 4 < cLine) (hq : Q (.bool true) s) :
    wpAny (model prog w) A (compareOp .Eq (.ref D1) (.ref D2)) Q E s := by
  show wpAny _ _ (richCompare .Eq _ _) _ _ _
  refine RcAt.lists (e := fun _ => true) ⟨_, (N _ m1).1, rfl, n1, rfl⟩ ⟨_, (N _ m2).1, rfl, n2, rfl⟩ (by simp [h.len, h'.len]) (by omega) (lists_items N h h' s1 s2 (in1_lt hu)) prog w E Q ?_
  rw [all_true]; exact hq
theorem told_ne (N : News h₀ L s.heap news) {d : Option (List Int × VV)} {r r' : Value} (h : PairIn tl d r) (h' : PairIn tl' d r') (s1 : ∀ p ∈ tl, p ∈ news) (s2 : ∀ p ∈ tl', p ∈ news) (hu : A.units + 4 < cLine) (hq : Q (.bool false) s) :
    wpAny (model prog w) A (compareOp .NotEq r r') Q E s := by
  show wpAny _ _ (richCompare .NotEq _ _) _ _ _
  cases d with
  | none => have h : r = .none := h; have h' : r' = .none := h'; rw [h, h']; exact RcNeAt.none_none prog w E Q hq
  | some p =>
    obtain ⟨n, v⟩ := p
    obtain ⟨a, t, x, rfl, hm, hv⟩ := h
    obtain ⟨a', t', x', rfl, hm', hv'⟩ := h'
    exact RcNeAt.tuples (e := fun _ => true) (tup_is N (s1 _ hm)) (tup_is N (s2 _ hm')) (by omega) (tup_items hv hv') prog w E Q hq
theorem none_in (N : News h₀ L s.heap news) (m1 : (D1, W.listOf rs.toArray n1) ∈ news) (h : PairsAre tl rs ds) (s1 : ∀ p ∈ tl, p ∈ news) (hu : A.units + 4 < cLine) (hq : Q (.bool (ds.any fun d => d.isNone)) s) :
    wpAny (model prog w) A (compareOp .In .none (.ref D1)) Q E s := by
  refine in_listAt (fun y => match y with | .none => true | _ => false) ⟨_, (N _ m1).1, rfl, n1, rfl⟩ (fun y hy => ?_) ?_
  · obtain ⟨j, hj, e⟩ := List.getElem_of_mem (by simpa using hy : y ∈ rs)
    obtain ⟨d, _, p⟩ := h.at hj
    rw [e] at p
    cases d with
    | none => have p : y = .none := p; rw [p]; exact EqAt.same _
    | some q =>
      obtain ⟨n, v⟩ := q
      obtain ⟨a, t, x, rfl, hm, hv⟩ := p
      exact EqAt.tuple_none (tup_is N (s1 _ hm)) (in1_lt hu)
  · have : ∀ {rs : List Value} {ds : List (Option (List Int × VV))}, PairsAre tl rs ds → (rs.any fun y => match y with | .none => true | _ => false) = ds.any fun d => d.isNone := by
      intro rs ds h
      induction h with
      | nil => rfl
      | @cons r d _ _ a _ ih =>
        rw [List.any_cons, List.any_cons, ih]
        congr 1
        cases d with
        | none => have a : r = .none := a; rw [a]; rfl
        | some q => obtain ⟨n, v⟩ := q; obtain ⟨a, t, x, rfl, _⟩ := a; rfl
    rw [List.any_toArray, this h]; exact hq
theorem tup_ne {a1 a2 : Addr} {n : List Int} {v : VV} {t t' : Tok} {x x' : Value} (N : News h₀ L s.heap news) (m1 : (a1, tupO (.str (textS n) t) x) ∈ news) (m2 : (a2, tupO (.str (textS n) t') x') ∈ news) (hv : valV v x) (hv' : valV v x') (hu : A.units + 4 < cLine) (hq : Q (.bool false) s) :
    wpAny (model prog w) A (compareOp .NotEq (.ref a1) (.ref a2)) Q E s :=
  RcNeAt.tuples (e := fun _ => true) (tup_is N m1) (tup_is N m2) (by omega) (tup_items hv hv') prog w E Q hq
theorem list_ne_none (N : News h₀ L s.heap news) (m1 : (D1, W.listOf rs.toArray n1) ∈ news) (hu : A.units + 4 < cLine) (hq : Q (.bool true) s) : wpAny (model prog w) A (compareOp .NotEq (.ref D1) .none) Q E s :=
  RcNeAt.list_none ⟨_, (N _ m1).1, rfl, n1, rfl⟩ (by omega) prog w E Q hq
end
theorem nameV_none {ks : List Int} {r : Value} (h : nameV (nameP ks) r) (e : nameP ks = none) : r = .none := by rw [e] at h; exact h
theorem nameV_some {ks l : List Int} {r : Value} (h : nameV (nameP ks) r) (e : nameP ks = some l) : ∃ t, r = .str (textS l) t := by rw [e] at h; exact h
theorem pairV_none {ks : List Int} {r : Value} {new : Led} (h : PairV (toldP ks) r new) (e : toldP ks = none) : r = .none ∧ new = [] := by rw [e] at h; exact h
theorem pairV_some {ks n : List Int} {v : VV} {r : Value} {new : Led} (h : PairV (toldP ks) r new) (e : toldP ks = some (n, v)) : ∃ a t x, r = .ref a ∧ new = [(a, tupO (.str (textS n) t) x)] ∧ valV v x := by rw [e] at h; exact h
section
variable {prog : Program} {w : World} {A : Around} {E : Value → Shared → Prop} {s : Shared} {h₀ : Heap} {L D1 : Addr} {news tl : Led} {rs : List Value} {bs : List (Array UInt8)} {n1 : Nat} {Q : Value → Shared → Prop}
theorem none_in_yes (N : News h₀ L s.heap news) (m1 : (D1, W.listOf rs.toArray n1) ∈ news) (h : PairsAre tl rs (bs.map toldB)) (s1 : ∀ p ∈ tl, p ∈ news) (hu : A.units + 4 < cLine) (hb : ∃ c ∈ bs, toldB c = none) (hq : Q (.bool true) s) :
    wpAny (model prog w) A (compareOp .In .none (.ref D1)) Q E s := by
  refine none_in N m1 h s1 hu ?_
  obtain ⟨c, hc, e⟩ := hb
  have : ((bs.map toldB).any fun d => d.isNone) = true := List.any_eq_true.mpr ⟨toldB c, List.mem_map_of_mem hc, by rw [e]; rfl⟩
  rw [this]; exact hq
theorem none_in_no (N : News h₀ L s.heap news) (m1 : (D1, W.listOf rs.toArray n1) ∈ news) (h : PairsAre tl rs (bs.map toldB)) (s1 : ∀ p ∈ tl, p ∈ news) (hu : A.units + 4 < cLine) (hb : ∀ c ∈ bs, toldB c ≠ none) (hq : Q (.bool false) s) :
    wpAny (model prog w) A (compareOp .In .none (.ref D1)) Q E s := by
  refine none_in N m1 h s1 hu ?_
  have : ((bs.map toldB).any fun d => d.isNone) = false := by
    rw [Bool.eq_false_iff]
    intro q
    obtain ⟨d, hd, e⟩ := List.any_eq_true.mp q
    obtain ⟨c, hc, rfl⟩ := List.mem_map.mp hd
    exact hb c hc (Option.isNone_iff_eq_none.mp e)
  rw [this]; exact hq
end
end Pb93
end
section
open PySem PySem.W PyProof.Rows PySem.Spec PySem.Calls
namespace Pb93
theorem words_C_word_1 : True := by
  k_with_none
  k_with "call ref" => (k_here; (with_reducible show wpAny _ _ (call (.ref 150) _) _ _ _); k_dflt ((refine' draw_use ?D ?h0 ?h1 ?B ?F ?X ?N ?T ?k ?hd ?hu ?U ?_; (case D => assumption); (case h0 => decide); (case h1 => decide); (case B => k_asm); (case F => k_asm); (case X => k_asm); (case N => k_asm); (case T => k_asm); (case k => exact rfl); (case hd => (dsimp only [ktrTop]; omega)); (case hu => (dsimp only [ktrTop]; omega)); (case U => k_updF); intro kr ku kvs kn kh ktk kLo kHi kDk kF kN; (try dsimp only at kN))))
  k_with "subscriptTail" => (k_here; (with_reducible show wpAny _ _ (subscriptTail _ _ (Value.ref _) (Value.int _ _)) _ _ _); k_dflt (refine get_bys 5 (by k_asm) (by k_mem) (by with_reducible assumption) (by with_reducible assumption) (by rfl) (by rfl) (by rfl) ?_; rintro kmx ⟨kmb, kmt, kmE, kmZ⟩; subst kmE; obtain ⟨kmk, kmH, kmL⟩ := small_ints kmZ))
  k_with "getMethod bytes" => (k_here; with_reducible refine meth_join ?_)
  k_with "call builtin:bytes.join" => (k_here; k_dflt (refine join_lim (B := 24) (by k_asm) (by k_mem) (by with_reducible assumption) (by with_reducible assumption) (by decide) (by decide) (by decide) (by decide) ?_; intro kb kt kks ktk kHk kHl))
  k_with "TurnD" => (k_here; exact TurnD.mk2 (by with_reducible assumption) (by k_asm) (by k_asm) (by ((try dsimp only [List.cons_append, List.nil_append]); (repeat' (first | exact sub_nil | refine sub_cons ?_ ?_ | k_mem)))) (by first | exact ⟨_, _, rfl, by with_reducible assumption⟩ | exact ⟨_, _, rfl, by decide⟩))
  k_with "eval ListComp" => (k_here; k_dflt (refine LCg.ListComp_U (F₀ := by k_asm) (by with_unfolding_all rfl) (by decide) (by rfl) (by decide) (by rfl) ?_))
  k_with "CompSrc" => (k_here; k_dflt (refine comp_range2 (elt := _) (M := 4) (IsBys 5) (by exact rfl) (by k_asm) (by k_asm) (by with_reducible assumption) (by (first | exact UpdF.head (by k_all) | exact UpdF.tail (by k_ne) (UpdF.head (by k_all)) | exact UpdF.tail (by k_ne) (UpdF.tail (by k_ne) (UpdF.head (by k_all))) | exact UpdF.tail (by k_ne) (UpdF.tail (by k_ne) (UpdF.tail (by k_ne) (UpdF.head (by k_all)))) | exact UpdF.tail (by k_ne) (UpdF.tail (by k_ne) (UpdF.tail (by k_ne) (UpdF.tail (by k_ne) (UpdF.head (by k_all))))) | exact UpdF.tail (by k_ne) (UpdF.tail (by k_ne) (UpdF.tail (by k_ne) (UpdF.tail (by k_ne) (UpdF.tail (by k_ne) (UpdF.head (by k_all)))))) | exact UpdF.tail (by k_ne) (UpdF.tail (by k_ne) (UpdF.tail (by k_ne) (UpdF.tail (by k_ne) (UpdF.tail (by k_ne) (UpdF.tail (by k_ne) (UpdF.head (by k_all))))))))) (by assumption) (by first | with_reducible assumption | decide) (by first | with_reducible assumption | decide) (by decide) ?_ ?_; (focus (intro kI koI kC koC kD km kys kh ktk kvs kn kE kHC kF kN kDk kOff kNe; (try dsimp only [List.nil_append, List.cons_append] at kN); (try simp only [LCg.Off3, and_true] at kOff))); (rotate_left 1); (focus (intro kg kys kvs kn kG kLen kDk)); (rotate_left 1)))
  trivial
set_option maxHeartbeats 4000000 in
theorem word_con (w : World) (d : Addr) (vs : List Value) (n : Nat) (hD : DeckIs vs) : Con w 172 [.ref d] [(d, W.listOf vs.toArray n)] 100 400 (fun r new => ∃ b t vs' n', r = .bytes b t ∧ b.size ≤ 100 ∧ new = [(d, W.listOf vs'.toArray n')] ∧ DeckIs vs') := by
  refine con_enterC (i := 21) (nm := "_law_word") (c := 171) [("deck", .ref d)] (by conv => lhs; whnf) (by k_is) (by k_is) rfl rfl (by decide +kernel) ?_
  intro mean mg mb dp un gd cn cs a ccd cl outer base L s hd hu g L' h₁ tk' cells' F' N' Y' B' X' T' l1
  k_lt l1
  k_cells Y'
  rename Obj => o2
  rename Obj => o1
  try simp only [List.cons_append, List.nil_append] at N'
  try dsimp only
  k_steps
  rename_i kvs kn kh ktk kLo kHi kDk kF kN kmb kmt kmZ kmk kmH kmL t' k' kp
  refine LeaveC.intro kF kN [(d, W.listOf kvs.toArray kn)] (fun p hp => by rw [List.mem_singleton.mp hp]; k_mem) ⟨_, _, kvs, kn, rfl, ?_, rfl, kDk⟩
  rw [← KBw.ints_length, kp]
  simp only [List.length_append]
  omega
theorem word_use {w : World} {d : Addr} {vs : List Value} {n : Nat}
    {mean : ExcName → Option Value} {mg mb : Str → Option Value} {dp un : Nat} {gd : Option (List Code)} {cn : Str} {cs : Scope} {a : Addr} {ccd : Value} {cl : List (Str × Addr)} {outer : List Env} {A₀ : Around} {base h₀ : Heap} {L : Addr} {m : Str → Option Value} {s : Shared} {Q E : Value → Shared → Prop} {all : Led} {up : Obj → Led}
    (hD : DeckIs vs) (B : Below A₀ base outer h₀) (F : Fr h₀ L s.heap m) (X : (K w.params).In h₀) (N : News h₀ L s.heap all) (T : Tp mean mg mb h₀) (hk : cs.kind = .function) (hd : dp + 100 < recursionLimit) (hu : un + 400 < cLine)
    (U : UpdF d (W.listOf vs.toArray n) all up)
    (ret : ∀ (b : Array UInt8) (u : Tok) (vs' : List Value) (n' : Nat) (h' : Heap) (tk' : Nat), b.size ≤ 100 → DeckIs vs' → Fr h₀ L h' m → News h₀ L h' (up (W.listOf vs'.toArray n')) → Q (.bytes b u) { s with heap := h', toks := tk' }) :
    wpAny (model pw w) (ktrTop dp un gd cn cs L a ccd cl outer) (call (.ref 172) [.ref d]) Q E s := by
  refine con_use1 (word_con w d vs n hD) B F X N T hk hd hu U (fun r o' h' tk' F' N' P => ?_) (fun r new P => ?_)
  · obtain ⟨b, u, vs', n', rfl, p0, e, D⟩ := P
    cases e
    exact ret b u vs' n' h' tk' p0 D F' N'
  · obtain ⟨_, _, vs', n', _, _, e, _⟩ := P
    exact ⟨_, e⟩
end Pb93
end
section
open PySem PySem.W PyProof.Rows PySem.Spec PySem.Calls
namespace Pb93
theorem words_C_aright_1 : True := by
  k_with_none
  k_with "call ref" => (k_here; (with_reducible show wpAny _ _ (call (.ref 150) _) _ _ _); k_dflt ((refine' draw_use ?D ?h0 ?h1 ?B ?F ?X ?N ?T ?k ?hd ?hu ?U ?_; (case D => assumption); (case h0 => decide); (case h1 => decide); (case B => k_asm); (case F => k_asm); (case X => k_asm); (case N => k_asm); (case T => k_asm); (case k => exact rfl); (case hd => (dsimp only [ktrTop]; omega)); (case hu => (dsimp only [ktrTop]; omega)); (case U => k_updF); intro kr ku kvs kn kh ktk kLo kHi kDk kF kN; (try dsimp only at kN))))
  k_with "call ref" => (k_here; (with_reducible show wpAny _ _ (call (.ref 172) _) _ _ _); k_dflt ((refine' word_use ?D ?B ?F ?X ?N ?T ?k ?hd ?hu ?U ?_; (case D => assumption); (case B => k_asm); (case F => k_asm); (case X => k_asm); (case N => k_asm); (case T => k_asm); (case k => exact rfl); (case hd => (dsimp only [ktrTop]; omega)); (case hu => (dsimp only [ktrTop]; omega)); (case U => k_updF); intro kb kt kvs kn kh ktk kZ kDk kF kN; (try dsimp only at kN))))
  k_with "TurnD" => (k_here; exact TurnD.mk2 (by with_reducible assumption) (by k_asm) (by k_asm) (by ((try dsimp only [List.cons_append, List.nil_append]); (repeat' (first | exact sub_nil | refine sub_cons ?_ ?_ | k_mem)))) (by first | exact ⟨_, _, rfl, by with_reducible assumption⟩))
  trivial
inductive MidA1 (g : Heap) (L' : Addr) (s : Shared) (d : Addr) (s' : Shared) : Prop
  | mk (Wa : Addr) (ws : List Value) (k : Nat) (bs : List (Array UInt8)) (vs' : List Value) (n' : Nat) (h' : Heap) (tk' : Nat) (u : Str → Option Value) (e0 : s' = { s with heap := h', toks := tk' }) (e1 : BysAre ws bs) (e2 : ws.length < 5) (e3 : (∀ c ∈ bs, c.size ≤ 100)) (e4 : DeckIs vs') (e5 : Fr g L' h' (fun y => if y = Str.ofString "words" then some (.ref Wa) else u y)) (e6 : News g L' h' [(Wa, W.listOf ws.toArray k), (d, W.listOf vs'.toArray n')]) : MidA1 g L' s d s'
theorem bys_uniq {vs : List Value} {as bs : List (Array UInt8)} (h : BysAre vs as) (h' : BysAre vs bs) : as = bs := by
  induction h generalizing bs with
  | nil => cases h'; rfl
  | cons b t _ ih => cases h' with | cons _ _ q => rw [ih q]
theorem bys_elem {vs : List Value} {bs : List (Array UInt8)} {i : Nat} {v : Value} (h : BysAre vs bs) (e : vs[i]? = some v) : ∃ b t, v = .bytes b t ∧ bs[i]? = some b := by
  have hi := (List.getElem?_eq_some_iff.mp e).1
  obtain ⟨b, t, e1, e2⟩ := bys_at h i hi
  refine ⟨b, t, ?_, e2⟩
  rw [← e1, Array.getD_eq_getD_getElem?]; simp [e]
/-- between the turns of pairs = [..] -/
inductive PJ (news₀ : Led) (vs : List Value) (i : Nat) (ys : List Value) (news : Led) : Prop
  | mk bs tl (e0 : BysAre vs bs) (e1 : (∀ c ∈ bs, c.size ≤ 100)) (e2 : news = tl ++ news₀) (e3 : PairsAre tl ys ((bs.take i).map toldB)) : PJ news₀ vs i ys news
theorem PJ_start {news₀ : Led} {vs : List Value} {bs : List (Array UInt8)} (h : BysAre vs bs) (hz : ∀ c ∈ bs, c.size ≤ 100) : PJ news₀ vs 0 [] news₀ := ⟨bs, [], h, hz, rfl, .nil⟩
theorem PJ_step {news₀ : Led} {vs : List Value} {i : Nat} {ys : List Value} {news : Led} {v : Value} (h : PJ news₀ vs i ys news) (e : vs[i]? = some v) : ∃ b t ks, v = .bytes b t ∧ KBw.bInts b = ks ∧ ks.length ≤ 4000 ∧ ∀ r new, PairV (pairP ks) r new → PJ news₀ vs (i + 1) (ys ++ [r]) (new ++ news) := by
  obtain ⟨bs, tl, hB, hz, rfl, hP⟩ := h
  obtain ⟨b, t, rfl, e2⟩ := bys_elem hB e
  refine ⟨b, t, _, rfl, rfl, ?_, fun r new P => ⟨bs, new ++ tl, hB, hz, by rw [List.append_assoc], ?_⟩⟩
  · rw [KBw.ints_length]; exact Nat.le_trans (hz b (List.mem_of_getElem? e2)) (by decide)
  · rw [take_succ_of e2, List.map_append, List.map_singleton]
    refine (hP.mono fun p hp => List.mem_append_right _ hp).snoc ?_
    rw [pair_told] at P
    exact (PairV.in_ P).mono fun p hp => List.mem_append_left _ hp
inductive MidA2 (g : Heap) (L' : Addr) (s : Shared) (d : Addr) (s' : Shared) : Prop
  | mk (Wa Pa : Addr) (ws ps : List Value) (k k2 : Nat) (bs : List (Array UInt8)) (tl : Led) (vs' : List Value) (n' : Nat) (h' : Heap) (tk' : Nat) (u : Str → Option Value) (e0 : s' = { s with heap := h', toks := tk' }) (e1 : BysAre ws bs) (e2 : ws.length < 5) (e3 : (∀ c ∈ bs, c.size ≤ 100)) (e4 : DeckIs vs') (e5 : PairsAre tl ps (bs.map toldB)) (e6 : Fr g L' h' (fun y => if y = Str.ofString "pairs" then some (.ref Pa) else if y = Str.ofString "words" then some (.ref Wa) else u y)) (e7 : News g L' h' ((Pa, W.listOf ps.toArray k2) :: (Wa, W.listOf ws.toArray k) :: (d, W.listOf vs'.toArray n') :: tl)) : MidA2 g L' s d s'
theorem join_words {prog : Program} {w : World} {A : Around} {E : Value → Shared → Prop} {s : Shared} {h₀ : Heap} {L D : Addr} {news : Led} {vs : List Value} {n : Nat} {bs : List (Array UInt8)} {b : Array UInt8} {t : Tok} {Q : Value → Shared → Prop} (N : News h₀ L s.heap news) (hm : (D, W.listOf vs.toArray n) ∈ news) (hB : BysAre vs bs) (hl : vs.length < 5) (hz : ∀ c ∈ bs, c.size ≤ 100) (hb : b.size ≤ 1)
    (h : ∀ b' t' ks k', KBw.bInts b' = ks → ks.length ≤ 600 → Q (.bytes b' t') { s with toks := k' }) : wpAny (model prog w) A (call (.builtin "bytes.join") [.bytes b t, .ref D]) Q E s := by
  have e := bys_len hB
  refine call_join N hm hB hz (by omega) (by omega) (by omega) fun t' k' => h _ t' _ k' rfl ?_
  have s2 := joined_size (sep := b) hz
  rw [KBw.ints_length]
  have s3 : bs.length * (100 + b.size) ≤ 5 * 101 := Nat.mul_le_mul (by omega) (by omega)
  omega
theorem PairsAre.at' {tl : Led} {rs : List Value} {ds : List (Option (List Int × VV))} {j : Nat} {r : Value} (h : PairsAre tl rs ds) (e : rs[j]? = some r) : ∃ d, ds[j]? = some d ∧ PairIn tl d r := by
  obtain ⟨hj, e⟩ := List.getElem?_eq_some_iff.mp e
  obtain ⟨d, e1, e2⟩ := h.at hj
  exact ⟨d, e1, by rwa [e] at e2⟩
theorem News.dup {h₀ h : Heap} {L : Addr} {news : Led} {q : Addr × Obj} (N : News h₀ L h news) (hq : q ∈ news) : News h₀ L h (q :: news) := fun p hp => by
  rcases List.mem_cons.mp hp with rfl | hp
  · exact N _ hq
  · exact N _ hp
def ZJ (Pa Wa : Addr) (led : Led) (_ : Nat) (m : Str → Option Value) (nx : Led) : Prop := nx = led ∧ ∃ u : Str → Option Value, m = fun y => if y = Str.ofString "pairs" then some (.ref Pa) else if y = Str.ofString "words" then some (.ref Wa) else u y
theorem ZJ_swap {A B vt vw : Value} {u : Str → Option Value} : (fun y => if y = Str.ofString "pair" then some vt else if y = Str.ofString "word" then some vw else (fun y => if y = Str.ofString "pairs" then some A else if y = Str.ofString "words" then some B else u y) y) =
    fun y => if y = Str.ofString "pairs" then some A else if y = Str.ofString "words" then some B else (fun y => if y = Str.ofString "pair" then some vt else if y = Str.ofString "word" then some vw else u y) y := by
  funext y
  by_cases h1 : y = Str.ofString "pairs"
  · subst h1; rfl
  · by_cases h2 : y = Str.ofString "words"
    · subst h2; rfl
    · simp only [if_neg h1, if_neg h2]
theorem names_ne {prog : Program} {w : World} {A : Around} {E : Value → Shared → Prop} {s : Shared} {d : Option (List Int)} {r r' : Value} {Q : Value → Shared → Prop} (h : nameV d r) (h' : nameV d r') (hq : Q (.bool false) s) : wpAny (model prog w) A (compareOp .NotEq r r') Q E s := by
  show wpAny _ _ (richCompare .NotEq _ _) _ _ _
  cases d with
  | none => have h : r = .none := h; have h' : r' = .none := h'; rw [h, h']; exact SeqAt.RcNeAt.none_none prog w E Q hq
  | some l =>
    obtain ⟨t, rfl⟩ := h
    obtain ⟨t', rfl⟩ := h'
    have z := SeqAt.RcNeAt.str_str (A := A) (s := s) (textS l) t (textS l) t'
    rw [beq_self_eq_true] at z
    exact z prog w E Q hq
theorem words_C_aright_2 : True := by
  k_with "getMethod bytes" => (k_here; with_reducible refine meth_join ?_)
  k_with "call builtin:bytes.join" => (k_here; k_dflt (refine join_words (by k_asm) (by k_mem) (by with_reducible assumption) (by with_reducible assumption) (by with_reducible assumption) (by decide) ?_; intro kjb kjt kjs kjk kjH kjL))
  k_with "call ref" => (k_here; (with_reducible show wpAny _ _ (call (.ref 179) _) _ _ _); k_dflt (refine ltold_use3 (by k_asm) (by k_asm) (by k_asm) (by k_asm) (by k_mem) (by k_asm) (by assumption) (by assumption) (by assumption) (by exact rfl) (by dsimp only [ktrTop, Around.deeper]; omega) (by dsimp only [ktrTop, Around.deeper]; omega) (by with_reducible assumption) (by with_reducible assumption) (by with_reducible assumption) ?_ ?_; (focus (intro kEx kh ktk kg kT kF kN kB kX kP kD; (try exact absurd_told kEx (by with_reducible assumption)))); (try rotate_left 1); (focus (intro kAll kDa krs kk ktl kh ktk kg kPs kT kF kN kB kX kP kD; (try dsimp only [List.cons_append] at kN))); (rotate_left 1)))
  k_with "compareOp In none ref" => (k_here; k_dflt (first | refine none_in_yes (by k_asm) (by k_mem) (by with_reducible assumption) (by intro p hp; simp only [List.mem_cons, List.mem_append]; simp only [hp, or_true, true_or]) (by (dsimp only [ktrTop, Around.deeper]; omega)) (by with_reducible assumption) ?_ | refine none_in_no (by k_asm) (by k_mem) (by with_reducible assumption) (by intro p hp; simp only [List.mem_cons, List.mem_append]; simp only [hp, or_true, true_or]) (by (dsimp only [ktrTop, Around.deeper]; omega)) (by with_reducible assumption) ?_))
  k_with "compareOp NotEq ref ref" => (k_here; k_dflt (refine lists_ne (by k_asm) (by k_mem) (by k_mem) (by with_reducible assumption) (by with_reducible assumption) (by intro p hp; simp only [List.mem_cons, List.mem_append]; simp only [hp, or_true, true_or]) (by intro p hp; simp only [List.mem_cons, List.mem_append]; simp only [hp, or_true, true_or]) (by (dsimp only [ktrTop, Around.deeper]; omega)) ?_))
  k_with "compareOp Eq ref ref" => (k_here; k_dflt (refine lists_eq (by k_asm) (by k_mem) (by k_mem) (by with_reducible assumption) (by with_reducible assumption) (by intro p hp; simp only [List.mem_cons, List.mem_append]; simp only [hp, or_true, true_or]) (by intro p hp; simp only [List.mem_cons, List.mem_append]; simp only [hp, or_true, true_or]) (by (dsimp only [ktrTop, Around.deeper]; omega)) ?_))
  k_with "eval ListComp" => (k_here; (with_reducible show wpAny _ _ (eval (PySem.Expr.ListComp _ [PySem.Comprehension.mk _ _ [] _] _ _) _) _ _ _); k_dflt (refine cmp_eval0 (F₀ := by k_asm) (by with_unfolding_all rfl) (by decide) (by rfl) (by decide) ?_))
  k_with "exec Assign cons ListComp" => (k_here; (with_reducible show wpAny _ _ (exec (PySem.Stmt.Assign _ (PySem.Expr.ListComp _ [PySem.Comprehension.mk _ _ [] _] _ _) _) _) _ _ _); k_dflt (refine cmp_assign0 (F₀ := by k_asm) (by rfl) (by with_unfolding_all rfl) (by with_unfolding_all rfl) (by decide) (by rfl) (by decide) (by rfl) (by rfl) ?_))
  k_with "eval ListComp" => (k_here; (with_reducible show wpAny _ _ (eval (PySem.Expr.ListComp _ [PySem.Comprehension.mk _ _ [_] _] _ _) _) _ _ _); k_dflt (refine cmp_eval1 (F₀ := by k_asm) (by with_unfolding_all rfl) (by decide) (by rfl) (by decide) ?_))
  k_with "exec Assign cons ListComp" => (k_here; (with_reducible show wpAny _ _ (exec (PySem.Stmt.Assign _ (PySem.Expr.ListComp _ [PySem.Comprehension.mk _ _ [_] _] _ _) _) _) _ _ _); k_dflt (refine cmp_assign1 (F₀ := by k_asm) (by rfl) (by with_unfolding_all rfl) (by with_unfolding_all rfl) (by decide) (by rfl) (by decide) (by rfl) (by rfl) ?_))
  k_with "exec Assign cons ListComp" => (k_here; (with_reducible show wpAny _ _ (exec (PySem.Stmt.Assign _ (PySem.Expr.ListComp _ [PySem.Comprehension.mk _ (PySem.Expr.Call _ _ _ _) [] _] _ _) _) _) _ _ _); k_dflt (refine LCg.Assign_ListComp_U (F₀ := by k_asm) (by rfl) (by with_unfolding_all rfl) (by with_unfolding_all rfl) (by decide) (by rfl) (by decide) (by rfl) (by rfl) (by rfl) ?_))
  k_with "CompSrc" => (k_here; k_dflt (refine comp_range2 (elt := _) (M := 5) (IsBys 100) (by exact rfl) (by k_asm) (by k_asm) (by with_reducible assumption) (by (first | exact UpdF.head (by k_all) | exact UpdF.tail (by k_ne) (UpdF.head (by k_all)) | exact UpdF.tail (by k_ne) (UpdF.tail (by k_ne) (UpdF.head (by k_all))) | exact UpdF.tail (by k_ne) (UpdF.tail (by k_ne) (UpdF.tail (by k_ne) (UpdF.head (by k_all)))) | exact UpdF.tail (by k_ne) (UpdF.tail (by k_ne) (UpdF.tail (by k_ne) (UpdF.tail (by k_ne) (UpdF.head (by k_all))))) | exact UpdF.tail (by k_ne) (UpdF.tail (by k_ne) (UpdF.tail (by k_ne) (UpdF.tail (by k_ne) (UpdF.tail (by k_ne) (UpdF.head (by k_all)))))) | exact UpdF.tail (by k_ne) (UpdF.tail (by k_ne) (UpdF.tail (by k_ne) (UpdF.tail (by k_ne) (UpdF.tail (by k_ne) (UpdF.tail (by k_ne) (UpdF.head (by k_all))))))))) (by assumption) (by first | with_reducible assumption | decide) (by first | with_reducible assumption | decide) (by decide) ?_ ?_; (focus (intro kI koI kC koC kD km kys kh ktk kvs kn kE kHC kF kN kDk kOff kNe; (try dsimp only [List.nil_append, List.cons_append] at kN); (try simp only [LCg.Off3, and_true] at kOff))); (rotate_left 1); (focus (intro kg kys kvs kn kG kLen kDk)); (rotate_left 1)))
  k_with "call ref" => (k_here; (with_reducible show wpAny _ _ (call (.ref 136) _) _ _ _); k_dflt (refine con_useA (told_con _ _ _ _ (by kba_ints) (by omega)) (by k_asm) (by k_asm) (by k_asm) (by k_asm) (by k_asm) (by exact rfl) (by dsimp only [ktrTop, Around.deeper]; omega) (by dsimp only [ktrTop, Around.deeper]; omega) ?_; (rintro kr knew kh ktk kF kN kAp kO; (try dsimp only [List.nil_append, List.cons_append] at kN))))
  k_with "call ref" => (k_here; (with_reducible show wpAny _ _ (call (.ref 129) _) _ _ _); k_dflt (refine con_useP (name_con _ _ _ _ (by kba_ints) (by omega)) (by k_asm) (by k_asm) (by k_asm) (by k_asm) (by k_asm) (by exact rfl) (by dsimp only [ktrTop, Around.deeper]; omega) (by dsimp only [ktrTop, Around.deeper]; omega) ?_; (rintro kr knew kh ktk kF kN kO; (try dsimp only [List.nil_append, List.cons_append] at kN))))
  k_with "call ref" => (k_here; (with_reducible show wpAny _ _ (call (.ref 160) _) _ _ _); k_dflt (refine con_useP (lname_con _ _ _ _ (by kba_ints) (by omega)) (by k_asm) (by k_asm) (by k_asm) (by k_asm) (by k_asm) (by exact rfl) (by dsimp only [ktrTop, Around.deeper]; omega) (by dsimp only [ktrTop, Around.deeper]; omega) ?_; (rintro kr knew kh ktk kF kN kO; (try dsimp only [List.nil_append, List.cons_append] at kN))))
  k_with "exec For Tuple Call" => (k_here; (rename Fr _ _ _ _ => lF'); (with_unfolding_all refine' For_turns lF' ?_); k_whole)
  k_with "call type:zip" => (k_here; k_dflt (refine call_zip (by k_asm) (by k_asm) (by k_mem) (by k_mem) ?_; intro kz kI kh kF kN kZ))
  k_with "compareOp NotEq" => (k_here; k_dflt (first | refine told_ne (by k_asm) (PairV.in_ (by with_reducible assumption)) (by with_reducible assumption) (by (intro p hp; simp only [List.mem_cons, List.mem_append]; simp only [hp, or_true, true_or])) (by (intro p hp; simp only [List.mem_cons, List.mem_append]; simp only [hp, or_true, true_or])) (by (dsimp only [ktrTop, Around.deeper]; omega)) ?_ | refine names_ne (by with_reducible assumption) (by with_reducible assumption) ?_))
  k_with "call ref" => (k_here; (with_reducible show wpAny _ _ (call (.ref 167) _) _ _ _); k_dflt (refine con_useA (lpair_con _ _ _ _ (by kba_ints) (by omega)) (by k_asm) (by k_asm) (by k_asm) (by k_asm) (by k_asm) (by exact rfl) (by dsimp only [ktrTop, Around.deeper]; omega) (by dsimp only [ktrTop, Around.deeper]; omega) ?_; (rintro kr knew kh ktk kF kN kAp kO; all_goals (try dsimp only [List.nil_append, List.cons_append] at kN))))
  trivial
def GJ (led : Led) (bs : List (Array UInt8)) (i : Nat) (ys : List Value) (nw : Led) : Prop := nw = led ∧ BysAre ys ((bs.take i).filter fun c => (toldB c).isSome)
theorem GJ_no {led : Led} {bs : List (Array UInt8)} {i : Nat} {ys : List Value} {b : Array UInt8} (h : BysAre ys ((bs.take i).filter fun c => (toldB c).isSome)) (e : bs[i]? = some b) (hd : toldB b = none) : GJ led bs (i + 1) ys led :=
  ⟨rfl, by rw [take_succ_of e, List.filter_append, show [b].filter (fun c => (toldB c).isSome) = [] from by simp [hd], List.append_nil]; exact h⟩
theorem GJ_yes {led : Led} {bs : List (Array UInt8)} {i : Nat} {ys : List Value} {b : Array UInt8} {t : Tok} {p : List Int × VV} (h : BysAre ys ((bs.take i).filter fun c => (toldB c).isSome)) (e : bs[i]? = some b) (hd : toldB b = some p) : GJ led bs (i + 1) (ys ++ [.bytes b t]) led :=
  ⟨rfl, by rw [take_succ_of e, List.filter_append, show [b].filter (fun c => (toldB c).isSome) = [b] from by simp [hd]]; exact bys_snoc h⟩
def HJ (led tl : Led) (ds : List (Option (List Int × VV))) (i : Nat) (ys : List Value) (nw : Led) : Prop := nw = led ∧ PairsAre tl ys ((ds.take i).filter fun d => d.isSome)
theorem HJ_no {led tl : Led} {ds : List (Option (List Int × VV))} {i : Nat} {ys : List Value} (h : PairsAre tl ys ((ds.take i).filter fun d => d.isSome)) (e : ds[i]? = some none) : HJ led tl ds (i + 1) ys led :=
  ⟨rfl, by rw [take_succ_of e, List.filter_append, show [(none : Option (List Int × VV))].filter (fun d => d.isSome) = [] from rfl, List.append_nil]; exact h⟩
theorem HJ_yes {led tl : Led} {ds : List (Option (List Int × VV))} {i : Nat} {ys : List Value} {p : List Int × VV} {r : Value} (h : PairsAre tl ys ((ds.take i).filter fun d => d.isSome)) (e : ds[i]? = some (some p)) (x : PairIn tl (some p) r) : HJ led tl ds (i + 1) (ys ++ [r]) led :=
  ⟨rfl, by rw [take_succ_of e, List.filter_append, show [some p].filter (fun d => d.isSome) = [some p] from rfl]; exact h.snoc x⟩
theorem absurd_told {P : Prop} {bs : List (Array UInt8)} (h : ∃ c ∈ bs, toldB c = none) (h' : ∀ c ∈ bs, toldB c ≠ none) : P := by
  obtain ⟨c, hc, e⟩ := h
  exact absurd e (h' c hc)
theorem nil_fr {h₀ h₀' h : Heap} {L : Addr} {m : Str → Option Value} (T : KtsTurn [] h₀ h₀') (F : Fr h₀' L h m) : Fr h₀ L h m := ⟨F.ns, fun b o e => F.keep b o (T.other b o e (fun q => nomatch q)), by rw [← T.size]; exact F.above⟩
theorem nil_news {h₀ h₀' h : Heap} {L : Addr} {news : Led} (T : KtsTurn [] h₀ h₀') (N : News h₀' L h news) : News h₀ L h news := fun p hp => ⟨(N p hp).1, (N p hp).2.1, by
  cases q : h₀.get? p.1 with
  | none => rfl
  | some o =>
    have := (N p hp).2.2
    rw [T.other _ _ q (fun q => nomatch q)] at this; cases this⟩
inductive MidA3 (w : World) (mean : ExcName → Option Value) (mg mb : Str → Option Value) (A₁ : Around) (base : Heap) (outer : List Env) (g : Heap) (L' : Addr) (s : Shared) (d : Addr) (s' : Shared) : Prop
  | mk (g' : Heap) (Wa Pa : Addr) (ws ps : List Value) (k k2 : Nat) (bs : List (Array UInt8)) (rb : Array UInt8) (rt : Tok) (tl : Led) (vs' : List Value) (n' : Nat) (h' : Heap) (tk' : Nat) (u : Str → Option Value) (e0 : s' = { s with heap := h', toks := tk' }) (e1 : KtsTurn (outer.filterMap (·.frame)) g g') (e2 : Below A₁ base outer g') (e3 : (K w.params).In g') (e4 : Tp mean mg mb g') (e5 : KtsDicts (outer.filterMap (·.frame)) g') (e6 : BysAre ws bs) (e7 : ws.length < 5) (e8 : (∀ c ∈ bs, c.size ≤ 100)) (e9 : DeckIs vs') (e10 : PairsAre tl ps (bs.map toldB)) (e11 : Fr g' L' h' (fun y => if y = Str.ofString "row" then some (.bytes rb rt) else if y = Str.ofString "pairs" then some (.ref Pa) else if y = Str.ofString "words" then some (.ref Wa) else u y)) (e12 : News g' L' h' ((Pa, W.listOf ps.toArray k2) :: (Wa, W.listOf ws.toArray k) :: (d, W.listOf vs'.toArray n') :: tl)) : MidA3 w mean mg mb A₁ base outer g L' s d s'
set_option maxHeartbeats 4000000 in
theorem aright_use {w : World} {d : Addr} {vs : List Value} {n : Nat}
    {mean : ExcName → Option Value} {mg mb : Str → Option Value} {dp un : Nat} {gd : Option (List Code)} {cn : Str} {cs : Scope} {a : Addr} {ccd : Value} {cl : List (Str × Addr)} {A₀ : Around} {base h₀ : Heap} {L : Addr} {m : Str → Option Value} {s : Shared} {Q E : Value → Shared → Prop}
    (B : Below A₀ base [] h₀) (F : Fr h₀ L s.heap m) (X : (K w.params).In h₀) (N : News h₀ L s.heap [(d, W.listOf vs.toArray n)]) (T : Tp mean mg mb h₀) (XB : (K w.params).In base) (TB : Tp mean mg mb base) (hkc : cs.kind = .function) (hd : dp + 320 < recursionLimit) (hu : un + 620 < cLine) (hD : DeckIs vs)
    (ret : ∀ h' tk' vs' n', Fr h₀ L h' m → News h₀ L h' [(d, W.listOf vs'.toArray n')] → DeckIs vs' → Q (.bool true) { s with heap := h', toks := tk' }) :
    wpAny (model pw w) (ktrTop dp un gd cn cs L a ccd cl []) (call (.ref 184) [.ref d]) Q E s := by
  refine enter_SC (dn := 320) (i := 23) (nm := "_law_attributes_right") (c := 183) [("deck", .ref d)] (by conv => lhs; whnf) (by k_is) (by k_is) rfl rfl (by decide +kernel) B F X N T XB TB ktsDicts_nil hkc hd ?_
  intro g L' h₁ tk₁ cells' F' N' Y' B' X' T' D' l1
  k_lt l1
  k_cells Y'
  rename Obj => o1
  try simp only [List.cons_append, List.nil_append] at N'
  try dsimp only
  refine execs_cut 1 (MidA1 g L' s d) ?_ ?_
  · dsimp only [List.take]
    k_steps
    rename_i D₁ h₁' tk₁' F₁ N₁ o₁'
    obtain ⟨bs, hB, hz⟩ := bys_of kG
    exact ⟨D₁, kys, _, bs, kvs, kn, h₁', tk₁', _, rfl, hB, by omega, hz, kDk, F₁, fun p hp => N₁ p (by simp only [List.mem_cons, List.not_mem_nil, or_false] at hp ⊢; rcases hp with rfl | rfl; exact .inl rfl; exact .inr (.inr rfl))⟩
  · rintro s' ⟨Wa, ws, k, bs, vs', n', h', tk', u, rfl, hB, hW, hz, hDk, F₁, N₁⟩
    clear F' N'
    refine execs_cut 1 (MidA2 g L' s d) ?_ ?_
    · dsimp only [List.take, List.drop]
      change wpAny _ _ _ _ _ _
      k_fold
      k_steps
      refine src_listK PJ (by exact rfl) (by k_asm) (by k_asm) (by k_mem) (by omega) (by rfl) (by rfl) (by exact PJ_start (by assumption) (by assumption)) ?_ ?_
      · intro S₂ i v I hv hS hlt
        refine CmpTurn.none ?_
        intro C oC Dd m' ys nw h tk own E' hJ hle hNs hLook F N hoff hown hne hCf hDf hIo
        obtain ⟨bi, ti, ks, rfl, hks, hkl, hnext⟩ := PJ_step hJ hv
        obtain ⟨gS, rfl⟩ := hS
        k_steps
        refine CmpEnd.mk2 (news' := knew ++ nw) (hnext _ _ kO) ?_ hNs kF kN ?_
        · intro p hp
          rcases List.mem_append.mp hp with hp | hp
          · obtain ⟨oI, hI⟩ := hIo I List.mem_cons_self
            exact ⟨kAp p hp (C, oC) List.mem_cons_self, kAp p hp (Dd, LCg.lst ys) (List.mem_cons_of_mem _ List.mem_cons_self), fun q => kAp p hp (I, oI) (List.mem_cons_of_mem _ (List.mem_cons_of_mem _ (List.mem_append_right _ hI))) (List.mem_singleton.mp q)⟩
          · exact hoff p hp
        · intro p hp
          simp only [List.mem_cons, List.mem_append] at hp ⊢
          rcases hp with hp | hp | (hp | hp) | hp <;> simp [hp]
      · intro gS ys nw hJ
        obtain ⟨bs', tl, hB', _, rfl, hP⟩ := hJ
        obtain rfl := bys_uniq hB hB'
        rw [bys_len hB, List.take_length] at hP
        k_steps
        rename_i D₁ h₁' tk₁' F₂ N₂ _
        exact ⟨Wa, D₁, ws, ys, k, _, bs, tl, vs', n', h₁', tk₁', u, rfl, hB, hW, hz, hDk, hP, F₂, fun p hp => N₂ p (by simp only [List.mem_cons, List.mem_append, List.not_mem_nil, or_false] at hp ⊢; rcases hp with hp | hp | hp | hp; exact .inl hp; exact .inr (.inr (.inl hp)); exact .inr (.inr (.inr hp)); exact .inr (.inl hp))⟩
    · rintro s' ⟨Wa, Pa, ws, ps, k, k2, bs, tl, vs', n', h', tk', u, rfl, hB, hW, hz, hDk, hP, F₁, N₁⟩
      refine execs_cut 1 (MidA2 g L' s d) ?_ ?_
      · dsimp only [List.take, List.drop]
        change wpAny _ _ _ _ _ _
        k_fold
        k_steps
        refine turns_zip (ZJ Pa Wa _) rfl kZ kF kN rfl rfl rfl ⟨rfl, u, rfl⟩ ?turn ?done
        case turn =>
          intro i x y m₁ news₁ h tk own s₂ hx hy hJ ho hoff hs₂ F N
          obtain ⟨rfl, u', rfl⟩ := hJ
          obtain ⟨gS, tkS, rfl⟩ := hs₂
          obtain ⟨bi, ti, rfl, e2⟩ := bys_elem hB hx
          obtain ⟨dd, e3, hp⟩ := hP.at' hy
          rw [List.getElem?_map, e2] at e3
          obtain rfl : toldB bi = dd := Option.some.inj e3
          obtain ⟨ks, hks⟩ : ∃ ks, KBw.bInts bi = ks := ⟨_, rfl⟩
          have hkl : ks.length ≤ 4000 := by rw [← hks, KBw.ints_length]; exact Nat.le_trans (hz bi (List.mem_of_getElem? e2)) (by decide)
          rw [toldB, hks] at hp
          simp only [List.cons_append, List.nil_append] at N
          k_steps
          refine turn_end ⟨rfl, _, ZJ_swap⟩ (by k_asm) (by k_asm) hoff ?_ ?_
          · intro p hp
            simp only [List.mem_cons] at hp
            simp only [List.mem_cons, List.mem_append]
            rcases hp with hp | hp | hp | hp <;> simp [hp]
          · intro p hp
            simp [hp]
        case done =>
          intro m₁ news₁ h tk hJ F N
          obtain ⟨rfl, u', rfl⟩ := hJ
          k_steps
          exact ⟨Wa, Pa, ws, ps, k, k2, bs, tl, vs', n', h, tk, u', rfl, hB, hW, hz, hDk, hP, F, N⟩
      · rintro s' ⟨Wa, Pa, ws, ps, k, k2, bs, tl, vs', n', h', tk', u, rfl, hB, hW, hz, hDk, hP, F₁, N₁⟩
        have hl : ws.length ≤ 1000 := by omega
        have hz4 : ∀ c ∈ bs, c.size ≤ 4000 := fun c hc => Nat.le_trans (hz c hc) (by decide)
        refine execs_cut 2 (MidA3 w mean mg mb (ktrTop dp un gd cn cs L a ccd cl []) base [envX cn cs L a ccd cl] g L' s d) ?_ ?_
        · dsimp only [List.take, List.drop]
          change wpAny _ _ _ _ _ _
          k_fold
          k_steps
          · exact ⟨kg, Wa, Pa, ws, ps, k, k2, bs, _, _, tl, vs', n', kh, ktk, u, rfl, kT, kB, kX, kP, kD, hB, hW, hz, hDk, hP, kF, kN⟩
          · refine ⟨kg, Wa, Pa, ws, ps, k, k2, bs, _, _, tl, vs', n', kh, ktk, u, rfl, kT, kB, kX, kP, kD, hB, hW, hz, hDk, hP, kF, fun p hp => kN p ?_⟩
            simp only [List.mem_cons, List.mem_append] at hp ⊢
            rcases hp with hp | hp | hp | hp <;> simp [hp]
        · rintro s' ⟨g₃, Wa, Pa, ws, ps, k, k2, bs, rb, rt, tl, vs', n', h', tk', u, rfl, KT, B₃, X₃, T₃, D₃, hB, hW, hz, hDk, hP, F₁, N₁⟩
          have hl : ws.length ≤ 1000 := by omega
          dsimp only [List.drop]
          change wpAny _ _ _ _ _ _
          k_fold
          k_steps
          refine src_zip (GJ _ bs) rfl kZ (by omega) kF kN rfl rfl rfl (by decide) ⟨rfl, .nil⟩ ?_ ?_
          · intro S₂ i x y hx hy hS
            refine CmpTurn.test ?_
            intro C oC Dd m' ys nw h tk own E' hJ hle hNs hLook F N hoff hown hne hCf hDf hIo
            obtain ⟨gS, rfl⟩ := hS
            obtain ⟨rfl, hY⟩ := hJ
            obtain ⟨bi, ti, rfl, e2⟩ := bys_elem hB hx
            obtain ⟨dd, e3, hp⟩ := hP.at' hy
            rw [List.getElem?_map, e2] at e3
            obtain rfl : toldB bi = dd := Option.some.inj e3
            obtain ⟨hL1, hL2⟩ := hLook
            rcases hd : toldB bi with _ | ⟨nn, vv⟩ <;> rw [hd] at hp
            all_goals (first | (obtain ⟨a2, t2, x2, rfl, hm2, hv2⟩ := hp) | (obtain rfl : y = .none := hp))
            all_goals k_steps
            · exact CmpEnd.mk2 (GJ_no hY e2 hd) hoff hNs (by k_asm) (by k_asm) (fun p hp => hp)
            · exact CmpEnd.mk2 (GJ_yes hY e2 hd) hoff hNs (by k_asm) (by k_asm) (fun p hp => hp)
          · intro gS ys nw hJ
            obtain ⟨rfl, hY⟩ := hJ
            have hln : min ws.length ps.length = bs.length := by rw [hP.len, List.length_map, bys_len hB, Nat.min_self]
            rw [hln, List.take_length] at hY
            obtain ⟨bs2, hbs2⟩ : ∃ l, (bs.filter fun c => (toldB c).isSome) = l := ⟨_, rfl⟩
            rw [hbs2] at hY
            have hz2 : ∀ c ∈ bs2, c.size ≤ 4000 := fun c hc => by
              rw [← hbs2] at hc
              exact Nat.le_trans (hz c (List.mem_filter.mp hc).1) (by decide)
            have hA2 : ∀ c ∈ bs2, toldB c ≠ none := fun c hc e => by
              rw [← hbs2] at hc
              have := (List.mem_filter.mp hc).2
              rw [e] at this; cases this
            have hl2 : ys.length ≤ 1000 := by
              rw [bys_len hY, ← hbs2]
              have := List.length_filter_le (fun c => (toldB c).isSome) bs
              have := bys_len hB
              omega
            have hF2 : (bs.map toldB).filter (fun d => d.isSome) = bs2.map toldB := by rw [List.filter_map, ← hbs2]; rfl
            clear hz
            k_steps
            refine src_list (n := k2) (F := kF) (N := kN) (HJ _ tl (bs.map toldB)) rfl (by k_mem) (by rw [hP.len, List.length_map, ← bys_len hB]; omega) rfl rfl ⟨rfl, .nil⟩ ?_ ?_
            · intro S₂ i v I hv hS hlt
              refine CmpTurn.test ?_
              intro C oC Dd m' ys2 nw h tk own E' hJ hle hNs hLook F N hoff hown hne hCf hDf hIo
              obtain ⟨gS, rfl⟩ := hS
              obtain ⟨rfl, hQ⟩ := hJ
              obtain ⟨dd, e3, hp⟩ := hP.at' hv
              rcases dd with _ | ⟨nn, vv⟩
              · obtain rfl : v = .none := hp
                k_steps
                exact CmpEnd.mk2 (HJ_no hQ e3) hoff hNs (by k_asm) (by k_asm) (fun p hp => hp)
              · obtain ⟨a2, t2, x2, rfl, hm2, hv2⟩ := id hp
                k_steps
                exact CmpEnd.mk2 (HJ_yes hQ e3 hp) hoff hNs (by k_asm) (by k_asm) (fun p hp => hp)
            · intro gS ys2 nw hJ
              obtain ⟨rfl, hQ⟩ := hJ
              rw [hP.len, List.take_length, hF2] at hQ
              k_steps
              rename_i Dq hq tkq Fq Nq oq
              exact ⟨kg, L', _, [(d, W.listOf vs'.toArray n')], KT.trans kT, Fq, fun p hp => Nq p (by rw [List.mem_singleton.mp hp]; simp), fun h₀' T₂ F₂ N₂ B₂ X₂ P₂ D₂ => ret _ _ vs' n' (nil_fr T₂ F₂) (nil_news T₂ N₂) hDk⟩
end Pb93
end
section
open PySem PySem.W PyProof.Rows PySem.Spec PySem.Calls
namespace Pb93
def keepW (b : Array UInt8) : Bool := !(b.toList == (#[] : Array UInt8).toList)
theorem keep_yes {b : Array UInt8} (h : (b.toList != (#[] : Array UInt8).toList) = true) : keepW b = true := h
theorem keep_no {b : Array UInt8} (h : (b.toList != (#[] : Array UInt8).toList) = false) : keepW b = false := h
theorem words_C_words_1 : True := by
  k_with_none
  k_with "getMethod bytes" => (k_here; first | (with_reducible refine meth_replace ?_) | (with_reducible refine meth_split ?_))
  k_with "call builtin:bytes.replace" => (k_here; first
  | (refine call_replace (x := 9) (x' := 9) (y := 32) (y' := 32) rfl rfl (by kba_ints) (by (first | (simp only [subI, List.length_map]; omega) | omega)) ?_; intro kb kt ktk kHk)
  | (refine call_replace (x := 13) (x' := 13) (y := 32) (y' := 32) rfl rfl (by kba_ints) (by (first | (simp only [subI, List.length_map]; omega) | omega)) ?_; intro kb kt ktk kHk))
  k_with "call builtin:bytes.split" => (k_here; (refine' call_split (x := 32) (x' := 32) rfl ?hk ?hz ?F ?N ?_; (case hk => kba_ints); (case hz => (first | (simp only [subI, List.length_map]; omega) | omega)); (case F => k_asm); (case N => k_asm); intro kl kh ktk kvs kbs kF kN kLt kB kS kLen; (try k_lt kLt)))
  k_with "eval ListComp" => (k_here; k_dflt (refine LCt.ListComp_T (F₀ := by k_asm) (by with_unfolding_all rfl) (by decide) (by rfl) (by decide) (by rfl) ?_))
  k_with "CompSrcT" => (k_here; k_dflt (refine' keep_src keepW ?h1 ?F ?N ?m ?z ?B ?kst ?kfi; (case h1 => exact rfl); (case F => k_asm); (case N => k_asm); (case m => k_mem); (case z => with_reducible assumption); (case B => with_reducible assumption); (case' kst => (intro kb kt kI koI kC koC kD km kys kh ktk kE kHC kHx kF kN kOff kNe; (try simp only [LCg.Off3, and_true] at kOff))); (case' kfi => (intro kg kys kG))))
  k_with "TurnK" => (k_here; refine' TurnK.intro ?F ?N ?sub ?g; (case F => k_asm); (case N => k_asm); (case sub => ((repeat' (first | exact sub_nil | refine sub_cons ?_ ?_ | k_mem)))); (case g => first | exact ⟨keep_yes (by with_reducible assumption), rfl⟩ | exact keep_no (by with_reducible assumption) | skip))
  trivial
set_option maxHeartbeats 4000000 in
theorem words_con (w : World) (b : Array UInt8) (t : Tok) (ks : List Int) (hks : KBw.bInts b = ks) (hz : ks.length ≤ 4096) : Con w 122 [.bytes b t] [] 40 200 (fun r new => ∃ D vs n bs, r = .ref D ∧ new = [(D, W.listOf vs.toArray n)] ∧ BysAre vs (bs.filter keepW) ∧ Splits 32 bs (subI 13 32 (subI 9 32 ks))) := by
  refine con_enter (i := 12) (nm := "matching_words") (c := 121) [("row", .bytes b t)] (by conv => lhs; whnf) (by k_is) (by k_is) rfl rfl ?_
  intro mean mg mb dp un gd cn cs a ccd cl outer base L s hd hu g L' h₁ F' N' B' X' T'
  k_fold
  k_steps
  refine LeaveC.intro (by k_asm) (by k_asm) [(_, LCg.lst _)] (by intro p hp; rw [List.mem_singleton.mp hp]; k_mem) ⟨_, _, _, _, rfl, rfl, by with_reducible assumption, ?_⟩
  subst hks
  with_reducible assumption
end Pb93
end
section
theorem Pb93.clear_C_octal : True := by
  k_with_none
  trivial
open PySem PySem.W PyProof.Rows PySem.Spec PySem.Calls
namespace Pb93
def octP (ks : List Int) : Option Int :=
  if ks.length ≠ 3 ∨ ¬ (48 ≤ ks.getD 0 0 ∧ ks.getD 0 0 ≤ 51) ∨ ¬ (∀ v ∈ ks, 48 ≤ v ∧ v ≤ 55) then none else some (ks.foldl (fun a v => a * 8 + v - 48) 0)
def optI (x : Option Int) (r : Value) : Prop := match x with
  | none => r = .none
  | some n => ∃ t, r = .int n t
abbrev octF : Int → Int → Int := fun a v => a * 8 + v - 48
abbrev octJ (pre : List Int) (n : Int) : Prop := n = pre.foldl octF 0 ∧ 0 ≤ n ∧ ∀ v ∈ pre, 48 ≤ v ∧ v ≤ 55
theorem oct_start : octJ [] 0 := ⟨rfl, by decide, by simp⟩
theorem oct_step {pre : List Int} {n k : Int} (h1 : n = pre.foldl octF 0) (h2 : 0 ≤ n) (h3 : ∀ v ∈ pre, 48 ≤ v ∧ v ≤ 55) (h4 : 48 ≤ k) (h5 : k ≤ 55) : octJ (pre ++ [k]) (n * 8 + k - 48) :=
  ⟨by rw [List.foldl_append, ← h1]; rfl, by omega, fun v hv => by
    rcases List.mem_append.mp hv with hv | hv
    · exact h3 v hv
    · rw [List.mem_singleton] at hv; subst hv; exact ⟨h4, h5⟩⟩
theorem oct_len {ks : List Int} (h : (ks.length : Int) ≠ 3) : optI (octP ks) .none := by unfold octP; rw [if_pos (.inl (by omega))]; rfl
theorem oct_lo {ks : List Int} (h : ¬ 48 ≤ ks.getD (Int.toNat 0) 0) : optI (octP ks) .none := by unfold octP; rw [if_pos (.inr (.inl fun q => h q.1))]; rfl
theorem oct_hi {ks : List Int} (h : ¬ ks.getD (Int.toNat 0) 0 ≤ 51) : optI (octP ks) .none := by unfold octP; rw [if_pos (.inr (.inl fun q => h q.2))]; rfl
theorem oct_bad {ks pre post : List Int} {n : Int} (e : ks = pre ++ n :: post) (h : ¬ 48 ≤ n ∨ ¬ n ≤ 55) : optI (octP ks) .none := by
  unfold octP
  rw [if_pos (.inr (.inr fun q => by have := q n (by rw [e]; simp); omega))]; rfl
theorem oct_ok {ks : List Int} {n : Int} {t : Tok} (h1 : (ks.length : Int) = 3) (h2 : 48 ≤ ks.getD (Int.toNat 0) 0) (h3 : ks.getD (Int.toNat 0) 0 ≤ 51) (h4 : ∀ v ∈ ks, 48 ≤ v ∧ v ≤ 55) (h5 : n = ks.foldl octF 0) : optI (octP ks) (.int n t) := by
  unfold octP
  rw [if_neg (fun q => by
    rcases q with q | q | q
    · omega
    · exact q ⟨h2, h3⟩
    · exact q h4)]
  exact ⟨t, by rw [h5]⟩
set_option maxHeartbeats 4000000 in
theorem octal_con (w : World) (b : Array UInt8) (t : Tok) (ks : List Int) (hks : KBw.bInts b = ks) (hz : ks.length ≤ 4096) : Con w 117 [.bytes b t] [] 40 200 (fun r _ => optI (octP ks) r) := by
  refine con_enter (i := 11) (nm := "matching_octal") (c := 116) [("figures", .bytes b t)] (by conv => lhs; whnf) (by k_is) (by k_is) rfl rfl ?_
  intro mean mg mb dp un gd cn cs a ccd cl outer base L s hd hu g L' h₁ F' N' B' X' T'
  k_fold
  k_with "pyIter bytes" => k_state octJ "number"
  k_with "state" => first | exact oct_start | exact oct_step (by assumption) (by assumption) (by assumption) (by assumption) (by assumption)
  k_steps
  all_goals (refine LeaveC.intro (by k_asm) (by k_asm) [] (fun _ h => nomatch h) ?_)
  all_goals first
    | exact oct_len (by assumption)
    | exact oct_lo (by assumption)
    | exact oct_hi (by assumption)
    | exact oct_bad (by assumption) (.inl (by assumption))
    | exact oct_bad (by assumption) (.inr (by assumption))
    | exact oct_ok (by assumption) (by assumption) (by assumption) (by assumption) (by assumption)
end Pb93
end
section
open PySem PySem.W PyProof.Rows PySem.Spec PySem.Calls PySem.SeqAt
namespace Pb93
theorem range_all {n : Nat} {e : Nat → Bool} : (List.range n).all e = true ↔ ∀ j, j < n → e j = true := by
  simp [List.all_eq_true]
section
variable {prog : Program} {w : World} {A : Around} {E : Value → Shared → Prop} {s : Shared} {h₀ : Heap} {L D1 D2 : Addr} {m : Str → Option Value} {news : Led} {us vs : List Value} {as bs : List (Array UInt8)} {n1 n2 : Nat} {Q : Value → Shared → Prop}
theorem ne_bys (N : News h₀ L s.heap news) (m1 : (D1, W.listOf us.toArray n1) ∈ news) (m2 : (D2, W.listOf vs.toArray n2) ∈ news) (h1 : BysAre us as) (h2 : BysAre vs bs) (hu : A.units < cLine) (h : Q (.bool (!decide (as = bs))) s) :
    wpAny (model prog w) A (compareOp .NotEq (.ref D1) (.ref D2)) Q E s := by
  have l1 : s.heap.IsList D1 us.toArray := ⟨_, (N _ m1).1, rfl, n1, rfl⟩
  have l2 : s.heap.IsList D2 vs.toArray := ⟨_, (N _ m2).1, rfl, n2, rfl⟩
  have e1 := bys_len h1
  have e2 := bys_len h2
  show wpAny _ _ (richCompare .NotEq _ _) _ _ _
  by_cases hl : us.length = vs.length
  · refine RcNeAt.lists (e := fun j => decide (as[j]? = bs[j]?)) l1 l2 (by simpa using hl) hu (fun j q1 q2 => ?_) prog w E Q ?_
    · obtain ⟨b, t, x1, x2⟩ := bys_at h1 j (by simpa using q1)
      obtain ⟨c, u, y1, y2⟩ := bys_at h2 j (by simpa using q2)
      rw [Array.getD_eq_getD_getElem?, Array.getElem?_eq_getElem q1] at x1
      rw [Array.getD_eq_getD_getElem?, Array.getElem?_eq_getElem q2] at y1
      have x1 : us.toArray[j] = .bytes b t := x1
      have y1 : vs.toArray[j] = .bytes c u := y1
      rw [x1, y1]
      intro prog w E Q hq
      refine eqBool_bytes ?_
      have : decide (as[j]? = bs[j]?) = decide (b.toList = c.toList) := by
        rw [x2, y2, Bool.eq_iff_iff, decide_eq_true_eq, decide_eq_true_eq, Option.some.injEq, Array.toList_inj]
      rw [← this]; exact hq
    · have : (List.range us.toArray.size).all (fun j => decide (as[j]? = bs[j]?)) = decide (as = bs) := by
        rw [Bool.eq_iff_iff, range_all, decide_eq_true_eq, List.size_toArray, e1]
        constructor
        · intro q
          refine List.ext_getElem? fun j => ?_
          rcases Nat.lt_or_ge j as.length with z | z
          · exact of_decide_eq_true (q j z)
          · rw [List.getElem?_eq_none z, List.getElem?_eq_none (by omega)]
        · intro q j _; rw [q]; simp
      rw [this]; exact h
  · refine RcNeAt.lists_lengths l1 l2 (by simpa using hl) hu prog w E Q ?_
    have : ¬ as = bs := fun q => hl (by rw [e1, e2, q])
    rw [decide_eq_false this] at h; exact h
end
end Pb93
end
section
open PySem PySem.W PyProof.Rows PySem.Spec PySem.Calls
namespace Pb93
theorem words_C_trimmed_1 : True := by
  k_with_none
  k_with "getMethod bytes" => (k_here; first | (with_reducible refine meth_ends ?_) | (with_reducible refine meth_starts ?_))
  k_with "call builtin:bytes.endswith" => (k_here; first | (refine call_ends (x := 10) (x' := 10) rfl (by kba_ints) ?_) | (refine call_ends (x := 13) (x' := 13) rfl (by kba_ints) ?_))
  k_with "call builtin:bytes.startswith" => (k_here; first | (refine call_starts (x := 45) (x' := 45) rfl (by kba_ints) ?_) | (refine call_starts (x := 33) (x' := 33) rfl (by kba_ints) ?_))
  trivial
def chop (x : Int) (ks : List Int) : List Int := if ks.getLast? = some x then ks.dropLast else ks
def trimK : Nat → Nat → List Int → Nat
  | _, k, [] => k
  | a, k, c :: r => if c = 92 then (match r with | [] => a + 1 | _ :: r' => trimK (a + 2) (a + 2) r') else if c = 32 then trimK (a + 1) k r else trimK (a + 1) (a + 1) r
def trimP (ks : List Int) : List Int := (chop 13 (chop 10 ks)).take (trimK 0 0 (chop 13 (chop 10 ks)))
abbrev trimJ (ks : List Int) (a k : Int) : Prop := 0 ≤ a ∧ 0 ≤ k ∧ k ≤ (ks.length : Int) ∧ a ≤ (ks.length : Int) + 1 ∧ trimK a.toNat k.toNat (ks.drop a.toNat) = trimK 0 0 ks
theorem cut_last (ks : List Int) : List.take (clipAt ks.length (-1)) ks = ks.dropLast := by
  rw [List.dropLast_eq_take]
  congr 1
  have h := clipAt_cast ks.length (-1)
  have : (clipAt ks.length (-1) : Int) = ((ks.length - 1 : Nat) : Int) := by
    rw [h]; simp only [show ((-1 : Int) < 0) from by decide, if_true]; omega
  omega
theorem chop_yes {x : Int} {ks : List Int} (h : ks.getLast? = some x) : chop x ks = ks.dropLast := if_pos h
theorem chop_no {x : Int} {ks : List Int} (h : ¬ ks.getLast? = some x) : chop x ks = ks := if_neg h
theorem chop_len (x : Int) (ks : List Int) : (chop x ks).length ≤ ks.length := by
  unfold chop; split
  · rw [List.length_dropLast]; omega
  · exact Nat.le_refl _
section
variable {b b1 b2 : Array UInt8} {ks : List Int}
def RowIs (b2 : Array UInt8) (ks : List Int) : Prop := ∃ ks2, KBw.bInts b2 = ks2 ∧ ks2.length ≤ 4096 ∧ ks2 = chop 13 (chop 10 ks)
theorem row_nn (hk : KBw.bInts b = ks) (hz : ks.length ≤ 4096) (n1 : ¬ ks.getLast? = some 10) (n2 : ¬ ks.getLast? = some 13) : RowIs b ks := ⟨ks, hk, hz, by rw [chop_no n1, chop_no n2]⟩
theorem row_ny (hz : ks.length ≤ 4096) (n1 : ¬ ks.getLast? = some 10) (y2 : ks.getLast? = some 13) (h1 : KBw.bInts b1 = List.take (clipAt ks.length (-1)) ks) : RowIs b1 ks := ⟨_, h1, by rw [cut_last, List.length_dropLast]; omega, by rw [chop_no n1, chop_yes y2, cut_last]⟩
theorem row_yn (hz : ks.length ≤ 4096) (y1 : ks.getLast? = some 10) (n2 : ¬ (List.take (clipAt ks.length (-1)) ks).getLast? = some 13) (h1 : KBw.bInts b1 = List.take (clipAt ks.length (-1)) ks) : RowIs b1 ks := ⟨_, h1, by rw [cut_last, List.length_dropLast]; omega, by rw [cut_last] at n2 ⊢; rw [chop_yes y1, chop_no n2]⟩
theorem row_yy (hz : ks.length ≤ 4096) (y1 : ks.getLast? = some 10) (y2 : (List.take (clipAt ks.length (-1)) ks).getLast? = some 13)
    (h2 : KBw.bInts b2 = List.take (clipAt (List.take (clipAt ks.length (-1)) ks).length (-1)) (List.take (clipAt ks.length (-1)) ks)) : RowIs b2 ks :=
  ⟨_, h2, by rw [cut_last, cut_last, List.length_dropLast, List.length_dropLast]; omega, by rw [cut_last, cut_last]; rw [cut_last] at y2; rw [chop_yes y1, chop_yes y2]⟩
end
section
variable {l ks2 : List Int} {a k : Int}
theorem trim_start : trimJ l 0 0 := ⟨by decide, by decide, by omega, by omega, rfl⟩
theorem drop_at (h0 : 0 ≤ a) (h : a < (l.length : Int)) : l.drop a.toNat = l.getD a.toNat 0 :: l.drop (a + 1).toNat := by
  have hn : a.toNat < l.length := by omega
  rw [show (a + 1).toNat = a.toNat + 1 by omega, List.drop_eq_getElem_cons hn]
  congr 1
  rw [List.getD_eq_getElem?_getD, List.getElem?_eq_getElem hn]; rfl
theorem trim_bs (e : l = ks2) (j5 : trimK a.toNat k.toNat (l.drop a.toNat) = trimK 0 0 l) (j1 : 0 ≤ a) (j2 : 0 ≤ k) (j3 : k ≤ (l.length : Int)) (j4 : a ≤ (l.length : Int) + 1) (h : a < (ks2.length : Int)) (c : ks2.getD a.toNat 0 = 92) : trimJ l (a + 2) (min (a + 2) ks2.length) := by
  subst e
  refine ⟨by omega, by omega, by omega, by omega, ?_⟩
  rw [← j5, drop_at j1 h, c]
  by_cases hl : a + 1 < (l.length : Int)
  · rw [drop_at (by omega) hl]
    show _ = trimK (a.toNat + 2) (a.toNat + 2) _
    rw [show (a + 2).toNat = a.toNat + 2 by omega, show (min (a + 2) (l.length : Int)).toNat = a.toNat + 2 by omega, show (a + 1 + 1).toNat = a.toNat + 2 by omega]
  · rw [List.drop_eq_nil_of_le (show l.length ≤ (a + 2).toNat by omega), List.drop_eq_nil_of_le (show l.length ≤ (a + 1).toNat by omega)]
    show (min (a + 2) (l.length : Int)).toNat = a.toNat + 1
    omega
theorem trim_bs' (e : l = ks2) (j5 : trimK a.toNat k.toNat (l.drop a.toNat) = trimK 0 0 l) (j1 : 0 ≤ a) (j2 : 0 ≤ k) (j3 : k ≤ (l.length : Int)) (j4 : a ≤ (l.length : Int) + 1) (h : a < (ks2.length : Int)) (c : ks2.getD a.toNat 0 = 92) : trimJ l (a + 2) (if (ks2.length : Int) < a + 2 then (ks2.length : Int) else a + 2) := by
  have := trim_bs e j5 j1 j2 j3 j4 h c
  rw [show (if (ks2.length : Int) < a + 2 then (ks2.length : Int) else a + 2) = min (a + 2) ks2.length by omega]
  exact this
theorem trim_less (e : l = ks2) (j1 : 0 ≤ a) (h : a < (ks2.length : Int)) {d : Int} (hd : 0 < d) : l.length + 2 - (a + d).toNat < l.length + 2 - a.toNat := by
  subst e; omega
theorem trim_sp (e : l = ks2) (j5 : trimK a.toNat k.toNat (l.drop a.toNat) = trimK 0 0 l) (j1 : 0 ≤ a) (j2 : 0 ≤ k) (j3 : k ≤ (l.length : Int)) (j4 : a ≤ (l.length : Int) + 1) (h : a < (ks2.length : Int)) (c : ¬ ks2.getD a.toNat 0 = 92) (c2 : ks2.getD a.toNat 0 = 32) : trimJ l (a + 1) k := by
  subst e
  refine ⟨by omega, by omega, by omega, by omega, ?_⟩
  rw [← j5, drop_at j1 h]
  conv => rhs; unfold trimK
  rw [if_neg c, if_pos c2, show (a + 1).toNat = a.toNat + 1 by omega]
theorem trim_ch (e : l = ks2) (j5 : trimK a.toNat k.toNat (l.drop a.toNat) = trimK 0 0 l) (j1 : 0 ≤ a) (j2 : 0 ≤ k) (j3 : k ≤ (l.length : Int)) (j4 : a ≤ (l.length : Int) + 1) (h : a < (ks2.length : Int)) (c : ¬ ks2.getD a.toNat 0 = 92) (c2 : ¬ ks2.getD a.toNat 0 = 32) : trimJ l (a + 1) (a + 1) := by
  subst e
  refine ⟨by omega, by omega, by omega, by omega, ?_⟩
  rw [← j5, drop_at j1 h]
  conv => rhs; unfold trimK
  rw [if_neg c, if_neg c2, show (a + 1).toNat = a.toNat + 1 by omega]
theorem trim_end (e : l = ks2) (j5 : trimK a.toNat k.toNat (l.drop a.toNat) = trimK 0 0 l) (j1 : 0 ≤ a) (j2 : 0 ≤ k) (j3 : k ≤ (l.length : Int)) (h : ¬ a < (ks2.length : Int)) : k.toNat = trimK 0 0 ks2 ∧ 0 ≤ k ∧ k ≤ ks2.length := by
  subst e
  rw [List.drop_eq_nil_of_le (by omega)] at j5
  exact ⟨j5, j2, j3⟩
theorem trim_done {ks : List Int} {c : List Int} (hc2 : ks2 = chop 13 (chop 10 ks)) (e : l = ks2) (j5 : trimK a.toNat k.toNat (l.drop a.toNat) = trimK 0 0 l) (j1 : 0 ≤ a) (j2 : 0 ≤ k) (j3 : k ≤ (l.length : Int)) (h : ¬ a < (ks2.length : Int)) (hc : c = ks2.take (clipAt ks2.length k)) : c = trimP ks := by
  obtain ⟨h1, h2, h3⟩ := trim_end e j5 j1 j2 j3 h
  unfold trimP
  rw [hc, ← hc2, ← h1]
  congr 1
  have := clipAt_cast ks2.length k
  have h4 : ¬ k < 0 := by omega
  simp only [h4, if_false] at this
  omega
end
def rowMid (g : Heap) (L' : Addr) (s : Shared) (ks : List Int) (s' : Shared) : Prop := ∃ b2 t2 h' tk', s' = { s with heap := h', toks := tk' } ∧ RowIs b2 ks ∧ Fr g L' h' (fun y => List.lookup y [(Str.ofString "row", Value.bytes b2 t2)])
theorem row_map (v v' : Value) : ∀ y, (if y = Str.ofString "row" then some v else List.lookup y [(Str.ofString "row", v')].reverse) = List.lookup y [(Str.ofString "row", v)] := by
  intro y
  simp only [List.reverse_cons, List.reverse_nil, List.nil_append, List.lookup_cons, List.lookup_nil]
  by_cases h : y = Str.ofString "row"
  · simp [h]
  · rw [if_neg h, beq_eq_false_iff_ne.mpr h]
theorem row_map2 (v v' v'' : Value) : ∀ y, (if y = Str.ofString "row" then some v else if y = Str.ofString "row" then some v'' else List.lookup y [(Str.ofString "row", v')].reverse) = List.lookup y [(Str.ofString "row", v)] := by
  intro y
  by_cases h : y = Str.ofString "row"
  · simp [h]
  · have := row_map v v' y; rw [if_neg h] at this ⊢; rw [if_neg h, this]
set_option maxHeartbeats 4000000 in
theorem trimmed_con (w : World) (b : Array UInt8) (t : Tok) (ks : List Int) (hks : KBw.bInts b = ks) (hz : ks.length ≤ 4096) : Con w 102 [.bytes b t] [] 40 200 (fun r _ => ∃ b' t', r = .bytes b' t' ∧ KBw.bInts b' = trimP ks) := by
  refine con_enter (i := 8) (nm := "matching_trimmed") (c := 101) [("row", .bytes b t)] (by conv => lhs; whnf) (by k_is) (by k_is) rfl rfl ?_
  intro mean mg mb dp un gd cn cs a ccd cl outer base L s hd hu g L' h₁ F' N' B' X' T'
  refine execs_cut 2 (rowMid g L' s ks) ?_ ?_
  · dsimp only [List.take]
    k_fold
    k_steps
    all_goals unfold rowMid
    all_goals (first
      | exact ⟨_, _, _, _, rfl, row_yy (by assumption) (by assumption) (by assumption) (by assumption), fr_same (by assumption) (row_map2 _ _ _)⟩
      | exact ⟨_, _, _, _, rfl, row_yn (by assumption) (by assumption) (by assumption) (by assumption), fr_same (by assumption) (row_map _ _)⟩
      | exact ⟨_, _, _, _, rfl, row_ny (by assumption) (by assumption) (by assumption) (by assumption), fr_same (by assumption) (row_map _ _)⟩
      | exact ⟨_, _, _, _, rfl, row_nn (by assumption) (by assumption) (by assumption) (by assumption), by assumption⟩
     )
  · rintro s' ⟨b2, t2, h2, tk2, rfl, ⟨ks2, hR2, hz2, hc2⟩, F2⟩
    have N2 : News g L' h2 [] := News.nil
    clear F' N' hks hz
    dsimp only [List.drop]
    change wpAny _ _ _ _ _ _
    k_fold
    k_with "exec While Compare cons nil" => k_while_given ["row"] (fun row script a k => trimJ (KBw.bInts row) a k) (fun row script a k => (KBw.bInts row).length + 2 - a.toNat) "at" "keep"
    k_with "state" => exact trim_start
    k_steps
    · rename News _ _ _ _ => nE'
      rename (trimK _ _ _ = trimK _ _ _) => j5
      refine ksw_end ⟨_, _, _, _⟩ (by assumption) nE' (by kst_in) (by kst_facts) (by kst_all) (by ksw_same) ?_ ?_
      · dsimp only
        exact trim_bs' hR2 j5 (by with_reducible assumption) (by with_reducible assumption) (by with_reducible assumption) (by with_reducible assumption) (by with_reducible assumption) (by with_reducible assumption)
      · dsimp only
        omega
    · rename News _ _ _ _ => nE'
      rename (trimK _ _ _ = trimK _ _ _) => j5
      refine ksw_end ⟨_, _, _, _⟩ (by assumption) nE' (by kst_in) (by kst_facts) (by kst_all) (by ksw_same) ?_ ?_
      · dsimp only
        exact trim_sp hR2 j5 (by with_reducible assumption) (by with_reducible assumption) (by with_reducible assumption) (by with_reducible assumption) (by with_reducible assumption) (by with_reducible assumption) (by with_reducible assumption)
      · dsimp only
        omega
    · rename News _ _ _ _ => nE'
      rename (trimK _ _ _ = trimK _ _ _) => j5
      refine ksw_end ⟨_, _, _, _⟩ (by assumption) nE' (by kst_in) (by kst_facts) (by kst_all) (by ksw_same) ?_ ?_
      · dsimp only
        exact trim_ch hR2 j5 (by with_reducible assumption) (by with_reducible assumption) (by with_reducible assumption) (by with_reducible assumption) (by with_reducible assumption) (by with_reducible assumption) (by with_reducible assumption)
      · dsimp only
        omega
    · rename (trimK _ _ _ = trimK _ _ _) => j5
      rename (KBw.bInts (KBy.picked _ _ _) = _) => kp
      show LeaveC g s _ _ _
      refine LeaveC.intro (by k_asm) (by k_asm) [] (fun _ h => nomatch h) ⟨_, _, rfl, ?_⟩
      exact trim_done hc2 hR2 j5 (by with_reducible assumption) (by with_reducible assumption) (by with_reducible assumption) (by with_reducible assumption) kp
end Pb93
end
section
open PySem PySem.W PyProof.Rows PySem.Spec PySem.Calls
namespace Pb93
theorem words_C_tright_1 : True := by
  k_with_none
  k_with "getMethod bytes" => (k_here; first | (with_reducible refine meth_ends ?_) | (with_reducible refine meth_starts ?_))
  k_with "call builtin:bytes.endswith" => (k_here; first | (refine call_ends (x := 10) (x' := 10) rfl (by kba_ints) ?_) | (refine call_ends (x := 13) (x' := 13) rfl (by kba_ints) ?_))
  k_with "call builtin:bytes.startswith" => (k_here; first | (refine call_starts (x := 45) (x' := 45) rfl (by kba_ints) ?_) | (refine call_starts (x := 33) (x' := 33) rfl (by kba_ints) ?_))
  k_with "call ref" => (k_here; (with_reducible show wpAny _ _ (call (.ref 150) _) _ _ _); k_dflt ((refine' draw_use ?D ?h0 ?h1 ?B ?F ?X ?N ?T ?k ?hd ?hu ?U ?_; (case D => assumption); (case h0 => decide); (case h1 => decide); (case B => k_asm); (case F => k_asm); (case X => k_asm); (case N => k_asm); (case T => k_asm); (case k => exact rfl); (case hd => (dsimp only [ktrTop]; omega)); (case hu => (dsimp only [ktrTop]; omega)); (case U => k_updF); intro kr ku kvs kn kh ktk kLo kHi kDk kF kN; (try dsimp only at kN))))
  k_with "getMethod bytes" => (k_here; with_reducible refine meth_join ?_)
  k_with "call ref" => (k_here; (with_reducible show wpAny _ _ (call (.ref 102) _) _ _ _); k_dflt ((refine' con_useP (trimmed_con _ _ _ _ ?hb ?hz) ?B ?F ?X ?N ?T ?k ?hd ?hu ?_; (case hb => kba_ints); (case hz => omega); (case B => k_asm); (case F => k_asm); (case X => k_asm); (case N => k_asm); (case T => k_asm); (case k => exact rfl); (case hd => (dsimp only [ktrTop]; omega)); (case hu => (dsimp only [ktrTop]; omega)); (rintro _ _ kh ktk kF kN ⟨kb, kt, kE, kHk⟩; subst kE))))
  k_with "TurnD" => (k_here; refine' TurnD.intro ?vs ?n ?F ?N ?sub ?D ?g; (case D => with_reducible assumption); (case F => k_asm); (case N => k_asm); (case sub => ((try dsimp only [List.cons_append, List.nil_append]); (repeat' (first | exact sub_nil | refine sub_cons ?_ ?_ | k_mem)))); (case g => first | exact ⟨_, _, rfl, by decide⟩))
  k_with "call builtin:bytes.join" => (k_here; k_dflt (refine' join_some ?N ?m ?G ?l ?k ?M ?b ?_; (case N => k_asm); (case m => k_mem); (case G => with_reducible assumption); (case l => with_reducible assumption); (case k => decide); (case M => decide); (case b => decide); intro kb kt kks ktk kHk kHl))
  k_with "eval ListComp" => (k_here; k_dflt (refine LCg.ListComp_U (F₀ := by k_asm) (by with_unfolding_all rfl) (by decide) (by rfl) (by decide) (by rfl) ?_))
  k_with "CompSrc" => (k_here; k_dflt (refine' comp_range (M := 8) (IsBys 1) ?h1 ?F ?N ?U ?D ?r ?b0 ?b1 ?bM ?kst ?kfi; (case h1 => exact rfl); (case F => k_asm); (case N => k_asm); (case U => (first | exact UpdF.head (by k_all) | exact UpdF.tail (by k_ne) (UpdF.head (by k_all)) | exact UpdF.tail (by k_ne) (UpdF.tail (by k_ne) (UpdF.head (by k_all))) | exact UpdF.tail (by k_ne) (UpdF.tail (by k_ne) (UpdF.tail (by k_ne) (UpdF.head (by k_all)))) | exact UpdF.tail (by k_ne) (UpdF.tail (by k_ne) (UpdF.tail (by k_ne) (UpdF.tail (by k_ne) (UpdF.head (by k_all))))) | exact UpdF.tail (by k_ne) (UpdF.tail (by k_ne) (UpdF.tail (by k_ne) (UpdF.tail (by k_ne) (UpdF.tail (by k_ne) (UpdF.head (by k_all)))))) | exact UpdF.tail (by k_ne) (UpdF.tail (by k_ne) (UpdF.tail (by k_ne) (UpdF.tail (by k_ne) (UpdF.tail (by k_ne) (UpdF.tail (by k_ne) (UpdF.head (by k_all))))))))); (case r => assumption); (case D => with_reducible assumption); (case b0 => with_reducible assumption); (case b1 => with_reducible assumption); (case bM => decide); (case' kst => (intro kI koI kC koC kD km kys kh ktk kvs kn kE kHC kF kN kDk kOff kNe; (try dsimp only [List.nil_append, List.cons_append] at kN); (try simp only [LCg.Off3, and_true] at kOff))); (case' kfi => (intro kg kys kvs kn kG kLen kDk))))
  trivial
inductive Mid1 (g : Heap) (L' : Addr) (s : Shared) (d : Addr) (s' : Shared) : Prop
  | mk (b : Array UInt8) (t : Tok) (ks : List Int) (vs' : List Value) (n' : Nat) (h' : Heap) (tk' : Nat) (m0 : Str → Option Value) (e0 : s' = { s with heap := h', toks := tk' }) (e1 : KBw.bInts b = ks) (e2 : ks.length ≤ 4050) (e3 : DeckIs vs') (e4 : Fr g L' h' (fun y => if y = Str.ofString "row" then some (.bytes b t) else m0 y)) (e5 : News g L' h' [(d, W.listOf vs'.toArray n')]) : Mid1 g L' s d s'
theorem Mid1.intro {g : Heap} {L' : Addr} {s : Shared} {d : Addr} {b : Array UInt8} {t : Tok} {ks : List Int} {vs' : List Value} {n' : Nat} {h' : Heap} {tk' : Nat} {m0 : Str → Option Value} {all : Led} (hk : KBw.bInts b = ks) (hl : ks.length ≤ 4050) (D : DeckIs vs') (F : Fr g L' h' (fun y => if y = Str.ofString "row" then some (.bytes b t) else m0 y)) (N : News g L' h' all) (hm : (d, W.listOf vs'.toArray n') ∈ all) :
    Mid1 g L' s d { s with heap := h', toks := tk' } := ⟨b, t, ks, vs', n', h', tk', m0, rfl, hk, hl, D, F, fun p hp => by rw [List.mem_singleton.mp hp]; exact N _ hm⟩
inductive Mid2 (g : Heap) (L' : Addr) (s : Shared) (d : Addr) (s' : Shared) : Prop
  | mk (b b2 : Array UInt8) (t t2 : Tok) (ks ks2 : List Int) (vs' : List Value) (n' : Nat) (h' : Heap) (tk' : Nat) (m0 : Str → Option Value) (e0 : s' = { s with heap := h', toks := tk' }) (e1 : KBw.bInts b = ks) (e2 : ks.length ≤ 4050) (e3 : KBw.bInts b2 = ks2) (e4 : ks2.length ≤ 4050) (e5 : ks2 = chop 13 (chop 10 ks)) (e6 : DeckIs vs') (e7 : Fr g L' h' (fun y => if y = Str.ofString "due" then some (.bytes b2 t2) else if y = Str.ofString "row" then some (.bytes b t) else m0 y)) (e8 : News g L' h' [(d, W.listOf vs'.toArray n')]) : Mid2 g L' s d s'
theorem tail_one {b : Array UInt8} {ks : List Int} {x : UInt8} (h : KBw.bInts b = List.take (ks.length - clipAt ks.length (-1)) (List.drop (clipAt ks.length (-1)) ks)) : (b.toList == (#[x] : Array UInt8).toList) = decide (ks.getLast? = some (x.toNat : Int)) := by
  have e : (b.toList == (#[x] : Array UInt8).toList) = decide (KBw.bInts b = [(x.toNat : Int)]) := by
    unfold KBw.bInts
    rw [Bool.eq_iff_iff, beq_iff_eq, decide_eq_true_eq]
    show b.toList = [x] ↔ _
    constructor
    · intro q; rw [q]; rfl
    · intro q
      match hb : b.toList, q with
      | [c], q =>
        simp only [List.map_cons, List.map_nil, List.cons.injEq, and_true] at q
        rw [byte_inj.mp q]
      | [], q => simp at q
      | _ :: _ :: _, q => simp at q
  rw [e, h]
  congr 1
  rw [eq_iff_iff]
  have hc := clipAt_cast ks.length (-1)
  simp only [show ((-1 : Int) < 0) from by decide, if_true] at hc
  rcases List.eq_nil_or_concat ks with rfl | ⟨r, z, rfl⟩
  · simp
  · simp only [List.concat_eq_append] at hc ⊢
    have : clipAt (r ++ [z]).length (-1) = r.length := by
      have hl : (r ++ [z]).length = r.length + 1 := by simp
      omega
    rw [this, List.drop_left, List.getLast?_concat]
    simp
abbrev lastOf (ks : List Int) : List Int := List.take (ks.length - clipAt ks.length (-1)) (List.drop (clipAt ks.length (-1)) ks)
abbrev initOf (ks : List Int) : List Int := List.take (clipAt ks.length (-1)) ks
section
variable {b b' : Array UInt8} {ks : List Int}
theorem chop_yy (k1 : KBw.bInts b = lastOf ks) (a1 : (b.toList == (#[10] : Array UInt8).toList) = true) (k2 : KBw.bInts b' = lastOf (initOf ks)) (a2 : (b'.toList == (#[13] : Array UInt8).toList) = true) : initOf (initOf ks) = chop 13 (chop 10 ks) := by
  rw [tail_one k1, decide_eq_true_eq] at a1; change ks.getLast? = some 10 at a1
  rw [tail_one k2, decide_eq_true_eq] at a2; change (initOf ks).getLast? = some 13 at a2
  simp only [initOf] at a2 ⊢
  rw [cut_last] at a2
  rw [chop_yes a1, cut_last, cut_last, chop_yes a2]
theorem chop_yn (k1 : KBw.bInts b = lastOf ks) (a1 : (b.toList == (#[10] : Array UInt8).toList) = true) (k2 : KBw.bInts b' = lastOf (initOf ks)) (a2 : (b'.toList == (#[13] : Array UInt8).toList) = false) : initOf ks = chop 13 (chop 10 ks) := by
  rw [tail_one k1, decide_eq_true_eq] at a1; change ks.getLast? = some 10 at a1
  rw [tail_one k2, decide_eq_false_iff_not] at a2; change ¬ (initOf ks).getLast? = some 13 at a2
  simp only [initOf] at a2 ⊢
  rw [cut_last] at a2
  rw [chop_yes a1, cut_last, chop_no a2]
theorem chop_ny (k1 : KBw.bInts b = lastOf ks) (a1 : (b.toList == (#[10] : Array UInt8).toList) = false) (a2 : (b.toList == (#[13] : Array UInt8).toList) = true) : initOf ks = chop 13 (chop 10 ks) := by
  rw [tail_one k1, decide_eq_false_iff_not] at a1; change ¬ ks.getLast? = some 10 at a1
  rw [tail_one k1, decide_eq_true_eq] at a2; change ks.getLast? = some 13 at a2
  simp only [initOf]
  rw [chop_no a1, cut_last, chop_yes a2]
theorem chop_nn (k1 : KBw.bInts b = lastOf ks) (a1 : (b.toList == (#[10] : Array UInt8).toList) = false) (a2 : (b.toList == (#[13] : Array UInt8).toList) = false) : ks = chop 13 (chop 10 ks) := by
  rw [tail_one k1, decide_eq_false_iff_not] at a1; change ¬ ks.getLast? = some 10 at a1
  rw [tail_one k1, decide_eq_false_iff_not] at a2; change ¬ ks.getLast? = some 13 at a2
  rw [chop_no a1, chop_no a2]
end
theorem map_due2 {v v' : Value} {R : Str → Option Value} : ∀ y, (if y = Str.ofString "due" then some v else if y = Str.ofString "due" then some v' else R y) = (if y = Str.ofString "due" then some v else R y) := by
  intro y; split <;> rfl
theorem Mid2.intro {g : Heap} {L' : Addr} {s : Shared} {d : Addr} {b b2 : Array UInt8} {t t2 : Tok} {ks ks2 : List Int} {vs' : List Value} {n' : Nat} {h' : Heap} {tk' : Nat} {m0 : Str → Option Value} {m : Str → Option Value} {all : Led} (hk : KBw.bInts b = ks) (hl : ks.length ≤ 4050) (hk2 : KBw.bInts b2 = ks2) (he : ks2 = chop 13 (chop 10 ks)) (D : DeckIs vs') (F : Fr g L' h' m) (N : News g L' h' all) (hm : (d, W.listOf vs'.toArray n') ∈ all)
    (hf : ∀ y, m y = if y = Str.ofString "due" then some (.bytes b2 t2) else if y = Str.ofString "row" then some (.bytes b t) else m0 y) :
    Mid2 g L' s d { s with heap := h', toks := tk' } := ⟨b, b2, t, t2, ks, ks2, vs', n', h', tk', m0, rfl, hk, hl, hk2, by
      have h1 := chop_len 13 (chop 10 ks)
      have h2 := chop_len 10 ks
      rw [he]; omega, he, D, fr_same F hf, fun p hp => by rw [List.mem_singleton.mp hp]; exact N _ hm⟩
def trStep (st : Int × Bool × Int) (c : Int) : Int × Bool × Int := (st.1 + 1, decide (c = 92) && !st.2.1, if st.2.1 = true ∨ c ≠ 32 then st.1 + 1 else st.2.2)
def trJ (ks : List Int) (pre : List Int) (kept : Int) (taken : Bool) : Prop := (ks.take pre.length).foldl trStep (0, false, 0) = ((pre.length : Int), taken, kept) ∧ 0 ≤ kept ∧ kept ≤ pre.length
theorem trJ_start {ks : List Int} : trJ ks [] 0 false := ⟨rfl, by decide, by decide⟩
section
variable {b2 : Array UInt8} {ks2 pre : List Int} {kN kept : Int} {sn : Bool}
theorem trJ_step (hR : KBw.bInts b2 = ks2) (hI : trJ (KBw.bInts b2) pre kept sn) (hN : kN = 0 + (pre.length : Int)) (hlt : pre.length < ((ks2.length : Int) - 0).toNat) :
    trJ (KBw.bInts b2) (pre ++ [kN]) (if sn = true ∨ ks2.getD kN.toNat 0 ≠ 32 then kN + 1 else kept) (decide (ks2.getD kN.toNat 0 = 92) && !sn) := by
  rw [hR] at hI ⊢
  obtain ⟨h1, h2, h3⟩ := hI
  have hl : pre.length < ks2.length := by omega
  have hk : kN.toNat = pre.length := by omega
  have ht : ks2.take (pre.length + 1) = ks2.take pre.length ++ [ks2.getD pre.length 0] := by
    rw [List.take_add_one, List.getD_eq_getElem?_getD, List.getElem?_eq_getElem hl]; rfl
  refine ⟨?_, ?_, ?_⟩
  · rw [List.length_append, List.length_singleton, ht, List.foldl_append, h1, hk]
    show trStep _ _ = _
    unfold trStep
    simp only [hN, Int.zero_add]
    rw [Int.natCast_add]; rfl
  · split <;> omega
  · rw [List.length_append, List.length_singleton]; split <;> omega
theorem tr1 (hR : KBw.bInts b2 = ks2) (hI : trJ (KBw.bInts b2) pre kept sn) (hN : kN = 0 + (pre.length : Int)) (hlt : pre.length < ((ks2.length : Int) - 0).toNat) (hs : sn = true) (c : ks2.getD kN.toNat 0 = 92) : trJ (KBw.bInts b2) (pre ++ [kN]) (kN + 1) (!sn) := by
  have := trJ_step hR hI hN hlt; rw [if_pos (.inl hs), decide_eq_true c, Bool.true_and] at this; exact this
theorem tr2 (hR : KBw.bInts b2 = ks2) (hI : trJ (KBw.bInts b2) pre kept sn) (hN : kN = 0 + (pre.length : Int)) (hlt : pre.length < ((ks2.length : Int) - 0).toNat) (hs : sn = true) (c : ks2.getD kN.toNat 0 ≠ 92) : trJ (KBw.bInts b2) (pre ++ [kN]) (kN + 1) (ks2.getD kN.toNat 0 == 92) := by
  have := trJ_step hR hI hN hlt; rw [if_pos (.inl hs), decide_eq_false c, Bool.false_and] at this; rw [beq_eq_false_iff_ne.mpr c]; exact this
theorem tr3 (hR : KBw.bInts b2 = ks2) (hI : trJ (KBw.bInts b2) pre kept sn) (hN : kN = 0 + (pre.length : Int)) (hlt : pre.length < ((ks2.length : Int) - 0).toNat) (n : ks2.getD kN.toNat 0 ≠ 32) (c : ks2.getD kN.toNat 0 = 92) : trJ (KBw.bInts b2) (pre ++ [kN]) (kN + 1) (!sn) := by
  have := trJ_step hR hI hN hlt; rw [if_pos (.inr n), decide_eq_true c, Bool.true_and] at this; exact this
theorem tr4 (hR : KBw.bInts b2 = ks2) (hI : trJ (KBw.bInts b2) pre kept sn) (hN : kN = 0 + (pre.length : Int)) (hlt : pre.length < ((ks2.length : Int) - 0).toNat) (n : ks2.getD kN.toNat 0 ≠ 32) (c : ks2.getD kN.toNat 0 ≠ 92) : trJ (KBw.bInts b2) (pre ++ [kN]) (kN + 1) (ks2.getD kN.toNat 0 == 92) := by
  have := trJ_step hR hI hN hlt; rw [if_pos (.inr n), decide_eq_false c, Bool.false_and] at this; rw [beq_eq_false_iff_ne.mpr c]; exact this
theorem tr5 (hR : KBw.bInts b2 = ks2) (hI : trJ (KBw.bInts b2) pre kept sn) (hN : kN = 0 + (pre.length : Int)) (hlt : pre.length < ((ks2.length : Int) - 0).toNat) (hs : sn = false) (n : ks2.getD kN.toNat 0 = 32) (c : ks2.getD kN.toNat 0 ≠ 92) : trJ (KBw.bInts b2) (pre ++ [kN]) kept (ks2.getD kN.toNat 0 == 92) := by
  have := trJ_step hR hI hN hlt; rw [if_neg (fun q => q.elim (fun q => by rw [hs] at q; cases q) fun q => q n), decide_eq_false c, Bool.false_and] at this; rw [beq_eq_false_iff_ne.mpr c]; exact this
end
theorem tr_fold : ∀ (l : List Int) (i k : Nat), (l.foldl trStep ((i : Int), false, (k : Int))).2.2 = (trimK i k l : Nat)
  | [], i, k => by simp [trimK]
  | [c], i, k => by
    rw [List.foldl_cons, List.foldl_nil]
    unfold trimK trStep
    by_cases h1 : c = 92
    · simp [h1]
    · by_cases h2 : c = 32
      · simp [h2, trimK]
      · simp [h1, h2, trimK]
  | c :: d :: r, i, k => by
    rw [List.foldl_cons]
    unfold trimK
    by_cases h1 : c = 92
    · have ih := tr_fold r (i + 2) (i + 2)
      rw [if_pos h1, ← ih, List.foldl_cons]
      congr 3
      unfold trStep
      simp [h1]
      omega
    · by_cases h2 : c = 32
      · have ih := tr_fold (d :: r) (i + 1) k
        rw [if_neg h1, if_pos h2, ← ih]
        congr 3
        unfold trStep
        simp [h2]
      · have ih := tr_fold (d :: r) (i + 1) (i + 1)
        rw [if_neg h1, if_neg h2, ← ih]
        congr 3
        unfold trStep
        simp [h1, h2]
theorem bints_inj {x y : Array UInt8} (h : KBw.bInts x = KBw.bInts y) : x = y := by
  unfold KBw.bInts at h
  have : ∀ (l r : List UInt8), (l.map fun c => (c.toNat : Int)) = (r.map fun c => (c.toNat : Int)) → l = r := by
    intro l
    induction l with
    | nil => intro r h; cases r with
      | nil => rfl
      | cons c r => simp at h
    | cons a l ih => intro r h; cases r with
      | nil => simp at h
      | cons c r =>
        simp only [List.map_cons, List.cons.injEq] at h
        rw [byte_inj.mp h.1, ih r h.2]
  exact Array.toList_inj.mp (this _ _ h)
theorem tr_end {b2 x y : Array UInt8} {ks1 ks2 : List Int} {kept : Int} {taken : Bool} (hR : KBw.bInts b2 = ks2) (hc : ks2 = chop 13 (chop 10 ks1)) (hI : trJ (KBw.bInts b2) (rangeKs 0 ((ks2.length : Int) - 0).toNat) kept taken) (hx : KBw.bInts x = trimP ks1) (hy : KBw.bInts y = List.take (clipAt ks2.length kept) ks2) :
    Value.bool (x.toList == y.toList) = .bool true := by
  rw [hR] at hI
  obtain ⟨h1, h2, h3⟩ := hI
  rw [rangeKs_length] at h1 h3
  have e : ((ks2.length : Int) - 0).toNat = ks2.length := by omega
  rw [e] at h1 h3
  rw [List.take_length] at h1
  have h4 := tr_fold ks2 0 0
  have h5 : ks2.foldl trStep (((0 : Nat) : Int), false, ((0 : Nat) : Int)) = ((ks2.length : Int), taken, kept) := h1
  rw [h5] at h4
  have h4 : kept = (trimK 0 0 ks2 : Nat) := h4
  have e2 : KBw.bInts x = KBw.bInts y := by
    rw [hx, hy]
    unfold trimP
    rw [← hc]
    congr 1
    have := clipAt_cast ks2.length kept
    have h6 : ¬ kept < 0 := by omega
    simp only [h6, if_false] at this
    omega
  rw [bints_inj e2]
  simp
set_option maxHeartbeats 4000000 in
theorem tright_con (w : World) (d : Addr) (vs : List Value) (n : Nat) (hD : DeckIs vs) : Con w 199 [.ref d] [(d, W.listOf vs.toArray n)] 100 400 (fun r new => r = .bool true ∧ ∃ vs' n', new = [(d, W.listOf vs'.toArray n')] ∧ DeckIs vs') := by
  refine con_enterC (i := 26) (nm := "_law_trimmed_right") (c := 198) [("deck", .ref d)] (by conv => lhs; whnf) (by k_is) (by k_is) rfl rfl (by decide +kernel) ?_
  intro mean mg mb dp un gd cn cs a ccd cl outer base L s hd hu g L' h₁ tk' cells' F' N' Y' B' X' T' l1
  k_lt l1
  k_cells Y'
  try simp only [List.cons_append, List.nil_append] at N'
  try dsimp only
  refine execs_cut 2 (Mid1 g L' s d) ?_ ?_
  · dsimp only [List.take]
    k_steps
    all_goals (
      rename (KBw.bInts _ = List.append _ _) => hk
      first | exact Mid1.intro hk (by simp only [List.length_append, List.length_map, List.length_cons, List.length_nil]; omega) (by with_reducible assumption) (by with_reducible assumption) (by with_reducible assumption) (by k_mem))
  · rintro s' ⟨b1, t1, ks1, vs1, n1, h1, tk1, m0, rfl, hR1, hz1, hD1, F1, N1⟩
    clear F' N'
    refine execs_cut 2 (Mid2 g L' s d) ?_ ?_
    · dsimp only [List.take, List.drop]
      change wpAny _ _ _ _ _ _
      k_fold
      k_steps
      all_goals first
        | exact Mid2.intro hR1 hz1 (by with_reducible assumption) (chop_yy (by with_reducible assumption) (by with_reducible assumption) (by with_reducible assumption) (by with_reducible assumption)) hD1 (by with_reducible assumption) (by with_reducible assumption) (by k_mem) map_due2
        | exact Mid2.intro hR1 hz1 (by with_reducible assumption) (chop_yn (by with_reducible assumption) (by with_reducible assumption) (by with_reducible assumption) (by with_reducible assumption)) hD1 (by with_reducible assumption) (by with_reducible assumption) (by k_mem) map_due2
        | exact Mid2.intro hR1 hz1 (by with_reducible assumption) (chop_ny (by with_reducible assumption) (by with_reducible assumption) (by with_reducible assumption)) hD1 (by with_reducible assumption) (by with_reducible assumption) (by k_mem) map_due2
        | exact Mid2.intro hR1 hz1 (by with_reducible assumption) (chop_nn (by with_reducible assumption) (by with_reducible assumption) (by with_reducible assumption)) hD1 (by with_reducible assumption) (by with_reducible assumption) (by k_mem) map_due2
    · rintro s' ⟨b1, b2, t1, t2, ks1, ks2, vs1, n1, h1, tk1, m0, rfl, hR1, hz1, hR2, hz2, hc2, hD1, F1, N1⟩
      dsimp only [List.drop]
      change wpAny _ _ _ _ _ _
      k_fold
      k_with "pyIter ref" => k_state_given ["due"] (fun due pre kept taken => trJ (KBw.bInts due) pre kept taken) "kept" "is_taken"
      k_with "state" => first | exact trJ_start | exact tr1 hR2 (by with_reducible assumption) (by with_reducible assumption) (by with_reducible assumption) (by with_reducible assumption) (by with_reducible assumption) | exact tr2 hR2 (by with_reducible assumption) (by with_reducible assumption) (by with_reducible assumption) (by with_reducible assumption) (by with_reducible assumption) | exact tr3 hR2 (by with_reducible assumption) (by with_reducible assumption) (by with_reducible assumption) (by with_reducible assumption) (by with_reducible assumption) | exact tr4 hR2 (by with_reducible assumption) (by with_reducible assumption) (by with_reducible assumption) (by with_reducible assumption) (by with_reducible assumption) | exact tr5 hR2 (by with_reducible assumption) (by with_reducible assumption) (by with_reducible assumption) (by with_reducible assumption) (by with_reducible assumption) (by with_reducible assumption)
      k_steps
      show LeaveC g s _ _ _
      rename (KBw.bInts (KBy.picked _ _ _) = _) => kp
      refine LeaveC.intro (by k_asm) (by k_asm) [(d, W.listOf vs1.toArray n1)] (fun p hp => by rw [List.mem_singleton.mp hp]; k_mem) ⟨?_, vs1, n1, rfl, hD1⟩
      exact tr_end hR2 hc2 (by with_reducible assumption) (by with_reducible assumption) kp
end Pb93
end
section
open PySem PySem.W PyProof.Rows PySem.Spec PySem.Calls
namespace Pb93
open Builtin
theorem best_lt (val : Nat → Int) : ∀ n, argBest (fun i j => decide (val i < val j)) n ≤ n ∧ ∀ j, j ≤ n → val (argBest (fun i j => decide (val i < val j)) n) ≤ val j
  | 0 => ⟨Nat.le_refl _, fun j hj => by rw [Nat.le_zero.mp hj]; exact Int.le_refl _⟩
  | n + 1 => by
    have ih := best_lt val n
    unfold argBest
    split
    · rename_i h
      rw [decide_eq_true_eq] at h
      refine ⟨Nat.le_refl _, fun j hj => ?_⟩
      rcases Nat.lt_or_ge j (n + 1) with q | q
      · have := ih.2 j (by omega); omega
      · rw [show j = n + 1 by omega]; exact Int.le_refl _
    · rename_i h
      have h : ¬ _ := fun q => h (decide_eq_true q)
      refine ⟨Nat.le_succ_of_le ih.1, fun j hj => ?_⟩
      rcases Nat.lt_or_ge j (n + 1) with q | q
      · exact ih.2 j (by omega)
      · rw [show j = n + 1 by omega]; omega
theorem best_gt (val : Nat → Int) : ∀ n, argBest (fun i j => decide (val i > val j)) n ≤ n ∧ ∀ j, j ≤ n → val j ≤ val (argBest (fun i j => decide (val i > val j)) n)
  | 0 => ⟨Nat.le_refl _, fun j hj => by rw [Nat.le_zero.mp hj]; exact Int.le_refl _⟩
  | n + 1 => by
    have ih := best_gt val n
    unfold argBest
    split
    · rename_i h
      rw [decide_eq_true_eq] at h
      refine ⟨Nat.le_refl _, fun j hj => ?_⟩
      rcases Nat.lt_or_ge j (n + 1) with q | q
      · have := ih.2 j (by omega); omega
      · rw [show j = n + 1 by omega]; exact Int.le_refl _
    · rename_i h
      have h : ¬ _ := fun q => h (decide_eq_true q)
      refine ⟨Nat.le_succ_of_le ih.1, fun j hj => ?_⟩
      rcases Nat.lt_or_ge j (n + 1) with q | q
      · exact ih.2 j (by omega)
      · rw [show j = n + 1 by omega]; omega
section
variable {prog : Program} {w : World} {A : Around} {E : Value → Shared → Prop} {s : Shared} {b : Array UInt8} {t : Tok} {ks : List Int} {h₀ : Heap} {L : Addr} {m : Str → Option Value} {news : Led}
theorem at_val {b : Array UInt8} {i : Nat} {c : UInt8} (h : b[i]? = some c) : (c.toNat : Int) = (KBw.bInts b).getD i 0 := by
  rw [List.getD_eq_getElem?_getD, KBw.ints_get h]; rfl
theorem min_bytes {Q : Value → Shared → Prop} (F : Fr h₀ L s.heap m) (N : News h₀ L s.heap news) (hh : A.handled = none) (hk : KBw.bInts b = ks) (hn : 0 < ks.length)
    (h : ∀ h' k t' tk, Fr h₀ L h' m → News h₀ L h' news → (∀ v ∈ ks, k ≤ v) → k ∈ ks → Q (.int k t') { s with heap := h', toks := tk }) : wpAny (model prog w) A (call (.builtin "min") [.bytes b t]) Q E s := by
  subst hk
  have hn2 := hn
  rw [KBw.ints_length] at hn2
  refine call_min_walk (KBw.pyIter_bytes ?_)
  refine ⟨s.heap.objs.size, [s.heap.objs.size], [s.heap.objs.size], b.size, _, _, _, rfl, KBw.walks (A := A.in1) hh s.heap.objs.size b t, ⟨_, Heap.get?_push_size _ rfl, rfl, rfl⟩, ?_, hn2, CmpOf.ints_lt (fun i => (KBw.bInts b).getD i 0) ?_, ?_⟩
  · intro a ha
    rw [List.mem_singleton.mp ha]
    exact Heap.lt_size (Heap.get?_push_size _ rfl)
  · rintro i v ⟨c, u, hc, rfl⟩
    exact ⟨u, by rw [← at_val hc]⟩
  · rintro v h' tk ⟨c, u, hc, rfl⟩ hk'
    have hb := best_lt (fun i => (KBw.bInts b).getD i 0) (b.size - 1)
    generalize argBest (fun i j => decide ((KBw.bInts b).getD i 0 < (KBw.bInts b).getD j 0)) (b.size - 1) = i at hc hb
    have keep : ∀ a o, s.heap.get? a = some o → h'.get? a = some o := fun a o ha => hk' a o (fun hm => absurd (Heap.lt_size ha) (by rw [List.mem_singleton.mp hm]; exact Nat.lt_irrefl _)) (Heap.get?_push_of_some _ ha)
    refine h h' _ u tk (F.keptAll keep) (N.grown keep) ?_ ?_
    · intro v hv
      obtain ⟨j, hj, e⟩ := List.getElem_of_mem hv
      rw [KBw.ints_length] at hj
      have := hb.2 j (by omega)
      rw [at_val hc, ← e]
      rw [List.getD_eq_getElem?_getD (i := j), List.getElem?_eq_getElem (by rw [KBw.ints_length]; exact hj)] at this
      exact this
    · exact List.mem_of_getElem? (KBw.ints_get hc)
theorem max_bytes {Q : Value → Shared → Prop} (F : Fr h₀ L s.heap m) (N : News h₀ L s.heap news) (hh : A.handled = none) (hk : KBw.bInts b = ks) (hn : 0 < ks.length)
    (h : ∀ h' k t' tk, Fr h₀ L h' m → News h₀ L h' news → (∀ v ∈ ks, v ≤ k) → k ∈ ks → Q (.int k t') { s with heap := h', toks := tk }) : wpAny (model prog w) A (call (.builtin "max") [.bytes b t]) Q E s := by
  subst hk
  have hn2 := hn
  rw [KBw.ints_length] at hn2
  refine call_max_walk (KBw.pyIter_bytes ?_)
  refine ⟨s.heap.objs.size, [s.heap.objs.size], [s.heap.objs.size], b.size, _, _, _, rfl, KBw.walks (A := A.in1) hh s.heap.objs.size b t, ⟨_, Heap.get?_push_size _ rfl, rfl, rfl⟩, ?_, hn2, CmpOf.ints_gt (fun i => (KBw.bInts b).getD i 0) ?_, ?_⟩
  · intro a ha
    rw [List.mem_singleton.mp ha]
    exact Heap.lt_size (Heap.get?_push_size _ rfl)
  · rintro i v ⟨c, u, hc, rfl⟩
    exact ⟨u, by rw [← at_val hc]⟩
  · rintro v h' tk ⟨c, u, hc, rfl⟩ hk'
    have hb := best_gt (fun i => (KBw.bInts b).getD i 0) (b.size - 1)
    generalize argBest (fun i j => decide ((KBw.bInts b).getD i 0 > (KBw.bInts b).getD j 0)) (b.size - 1) = i at hc hb
    have keep : ∀ a o, s.heap.get? a = some o → h'.get? a = some o := fun a o ha => hk' a o (fun hm => absurd (Heap.lt_size ha) (by rw [List.mem_singleton.mp hm]; exact Nat.lt_irrefl _)) (Heap.get?_push_of_some _ ha)
    refine h h' _ u tk (F.keptAll keep) (N.grown keep) ?_ ?_
    · intro v hv
      obtain ⟨j, hj, e⟩ := List.getElem_of_mem hv
      rw [KBw.ints_length] at hj
      have := hb.2 j (by omega)
      rw [at_val hc, ← e]
      rw [List.getD_eq_getElem?_getD (i := j), List.getElem?_eq_getElem (by rw [KBw.ints_length]; exact hj)] at this
      exact this
    · exact List.mem_of_getElem? (KBw.ints_get hc)
end

def FigV (v : Value) : Prop := ∃ k u, v = .int k u ∧ 47 ≤ k ∧ k ≤ 56
theorem figs_of : ∀ {ys : List Value}, (∀ y ∈ ys, FigV y) → ∃ ns, IntsAre ys ns ∧ ∀ n ∈ ns, 47 ≤ n ∧ n ≤ 56
  | [], _ => ⟨[], .nil, by simp⟩
  | y :: ys, h => by
    obtain ⟨ns, h1, h2⟩ := figs_of fun z hz => h z (List.mem_cons_of_mem y hz)
    obtain ⟨k, u, rfl, hk⟩ := h y List.mem_cons_self
    refine ⟨k :: ns, .cons k u h1, fun c hc => ?_⟩
    rcases List.mem_cons.mp hc with rfl | hc
    · exact hk
    · exact h2 c hc
section
variable {prog : Program} {w : World} {A : Around} {E : Value → Shared → Prop} {s : Shared} {h₀ : Heap} {L : Addr} {m : Str → Option Value} {news : Led}
theorem make_figs {D : Addr} {vs : List Value} {n : Nat} {M : Int} {Q : Value → Shared → Prop} (F : Fr h₀ L s.heap m) (N : News h₀ L s.heap news) (hh : A.handled = none) (hm : (D, W.listOf vs.toArray n) ∈ news) (hG : ∀ y ∈ vs, FigV y) (hl : (vs.length : Int) < M) (hM : M ≤ 100)
    (h : ∀ h' b t' tk ks, Fr h₀ L h' m → News h₀ L h' news → KBw.bInts b = ks → (∀ k ∈ ks, 47 ≤ k ∧ k ≤ 56) → (ks.length : Int) < M → Q (.bytes b t') { s with heap := h', toks := tk }) : wpAny (model prog w) A (call (.type "bytes") [.ref D]) Q E s := by
  obtain ⟨ns, h1, h2⟩ := figs_of hG
  have hi : KBa.In ns := fun n hn => by have := h2 n hn; omega
  have e := h1.length
  exact KBa.make_K F N hh ⟨_, (N _ hm).1, rfl, n, rfl⟩ h1 hi (by omega) fun h' t' k F' N' _ => h h' _ t' k ns F' N' (KBa.ints_make hi) h2 (by omega)
end

theorem leave_true {g : Heap} {s : Shared} {d : Addr} {v : Value} {h' : Heap} {tk' : Nat} {L' : Addr} {m' : Str → Option Value} {all : Led} {vs' : List Value} {n' : Nat} (D : DeckIs vs') (F : Fr g L' h' m') (N : News g L' h' all) (hm : (d, W.listOf vs'.toArray n') ∈ all) (e : v = .bool true) :
    LeaveC g s (fun r new => r = .bool true ∧ ∃ vs' n', new = [(d, W.listOf vs'.toArray n')] ∧ DeckIs vs') v { s with heap := h', toks := tk' } :=
  LeaveC.intro F N [(d, W.listOf vs'.toArray n')] (fun p hp => by rw [List.mem_singleton.mp hp]; exact hm) ⟨e, vs', n', rfl, D⟩
end Pb93
end
section
open PySem PySem.W PyProof.Rows PySem.Spec PySem.Calls
namespace Pb93
theorem words_C_wright_1 : True := by
  k_with_none
  k_with "call ref" => (k_here; (with_reducible show wpAny _ _ (call (.ref 150) _) _ _ _); k_dflt ((refine' draw_use ?Dw1 ?h0w1 ?h1w1 ?Bw1 ?Fw1 ?Xw1 ?Nw1 ?Tw1 ?kw1 ?hdw1 ?huw1 ?Uw1 ?_; (case Dw1 => assumption); (case h0w1 => decide); (case h1w1 => decide); (case Bw1 => k_asm); (case Fw1 => k_asm); (case Xw1 => k_asm); (case Nw1 => k_asm); (case Tw1 => k_asm); (case kw1 => exact rfl); (case hdw1 => (dsimp only [ktrTop]; omega)); (case huw1 => (dsimp only [ktrTop]; omega)); (case Uw1 => k_updF); intro kr ku kvs kn kh ktk kLo kHi kDk kF kN; (try dsimp only at kN))))
  k_with "getMethod bytes" => (k_here; with_reducible refine meth_join ?_)
  k_with "TurnD" => (k_here; exact TurnD.mk2 (by with_reducible assumption) (by k_asm) (by k_asm) (by ((try dsimp only [List.cons_append, List.nil_append]); (repeat' (first | exact sub_nil | refine sub_cons ?_ ?_ | k_mem)))) (by first | exact ⟨_, _, rfl, by omega, by omega⟩ | exact ⟨_, _, rfl, by decide⟩))
  k_with "call builtin:bytes.join" => (k_here; k_dflt (refine' join_some ?Nw4 ?mw4 ?Gw4 ?lw4 ?kw4 ?Mw4 ?bw4 ?_; (case Nw4 => k_asm); (case mw4 => k_mem); (case Gw4 => with_reducible assumption); (case lw4 => with_reducible assumption); (case kw4 => decide); (case Mw4 => decide); (case bw4 => decide); intro kb kt kks ktk kHk kHl))
  k_with "eval ListComp" => (k_here; k_dflt (refine LCg.ListComp_U (F₀ := by k_asm) (by with_unfolding_all rfl) (by decide) (by rfl) (by decide) (by rfl) ?_))
  k_with "CompSrc" => (k_here; k_dflt (refine comp_range2 (elt := _) (M := 9) (IsBys 2) (by exact rfl) (by k_asm) (by k_asm) (by with_reducible assumption) (by (first | exact UpdF.head (by k_all) | exact UpdF.tail (by k_ne) (UpdF.head (by k_all)) | exact UpdF.tail (by k_ne) (UpdF.tail (by k_ne) (UpdF.head (by k_all))) | exact UpdF.tail (by k_ne) (UpdF.tail (by k_ne) (UpdF.tail (by k_ne) (UpdF.head (by k_all)))) | exact UpdF.tail (by k_ne) (UpdF.tail (by k_ne) (UpdF.tail (by k_ne) (UpdF.tail (by k_ne) (UpdF.head (by k_all))))) | exact UpdF.tail (by k_ne) (UpdF.tail (by k_ne) (UpdF.tail (by k_ne) (UpdF.tail (by k_ne) (UpdF.tail (by k_ne) (UpdF.head (by k_all)))))) | exact UpdF.tail (by k_ne) (UpdF.tail (by k_ne) (UpdF.tail (by k_ne) (UpdF.tail (by k_ne) (UpdF.tail (by k_ne) (UpdF.tail (by k_ne) (UpdF.head (by k_all))))))))) (by assumption) (by first | with_reducible assumption | decide) (by first | with_reducible assumption | decide) (by decide) ?_ ?_; (focus (intro kI koI kC koC kD km kys kh ktk kvs kn kE kHC kF kN kDk kOff kNe; (try dsimp only [List.nil_append, List.cons_append] at kN); (try simp only [LCg.Off3, and_true] at kOff))); (rotate_left 1); (focus (intro kg kys kvs kn kG kLen kDk)); (rotate_left 1)))
  k_with "call builtin:list.append" => (k_here; k_dflt (refine' append_K ?Fw7 ?Nw7 ?Uw7 ?hw7 ?zw7; (case Fw7 => k_asm); (case Nw7 => k_asm); (case Uw7 => first | exact Upd.head (by with_reducible assumption) | exact Upd.tail (by k_ne) (Upd.head (by with_reducible assumption)) | exact Upd.tail (by k_ne) (Upd.tail (by k_ne) (Upd.head (by with_reducible assumption)))); (case zw7 => with_reducible assumption); intro kh kF kN; (try dsimp only [List.nil_append, List.cons_append] at kN)))
  k_with "subscriptTail" => (k_here; (with_reducible show wpAny _ _ (subscriptTail _ _ (Value.ref _) (Value.int (-1) _)) _ _ _); k_dflt (refine' get_last ?Nw8 ?mw8 ?_ ?bw8; (case Nw8 => k_asm); (case mw8 => k_mem); (case bw8 => with_unfolding_all rfl)))
  k_with "setItem ref int" => (k_here; (with_reducible show wpAny _ _ (setItem (Value.ref _) (Value.int (-1) _) (Value.bytes _ _)) _ _ _); k_dflt (refine' set_last ?Fw9 ?Nw9 ?Uw9 ?_; (case Fw9 => k_asm); (case Nw9 => k_asm); (case Uw9 => first | exact Upd.head (by with_reducible assumption) | exact Upd.tail (by k_ne) (Upd.head (by with_reducible assumption)) | exact Upd.tail (by k_ne) (Upd.tail (by k_ne) (Upd.head (by with_reducible assumption)))); intro kh kF kN; (try dsimp only [List.nil_append, List.cons_append] at kN)))
  k_with "call ref" => (k_here; (with_reducible show wpAny _ _ (call (.ref 122) _) _ _ _); k_dflt ((refine' con_use0 (words_con _ _ _ _ ?hbw10 ?hzw10) ?Bw10 ?Fw10 ?Xw10 ?Nw10 ?Tw10 ?kw10 ?hdw10 ?huw10 ?_; (case hbw10 => kba_ints); (case hzw10 => omega); (case Bw10 => k_asm); (case Fw10 => k_asm); (case Xw10 => k_asm); (case Nw10 => k_asm); (case Tw10 => k_asm); (case kw10 => exact rfl); (case hdw10 => (dsimp only [ktrTop]; omega)); (case huw10 => (dsimp only [ktrTop]; omega)); (rintro _ _ kh ktk kF kN ⟨kD, kvs, kn, kbs, kE, kE2, kB, kS⟩; subst kE kE2; (try dsimp only [List.nil_append, List.cons_append] at kN)))))
  k_with "compareOp NotEq ref ref" => (k_here; k_dflt (refine' ne_bys ?Nw11 ?aw11 ?bw11 ?xw11 ?yw11 ?uw11 ?_; (case Nw11 => k_asm); (case aw11 => k_mem); (case bw11 => k_mem); (case xw11 => with_reducible assumption); (case yw11 => with_reducible assumption); (case uw11 => (dsimp only [ktrTop, Around.deeper]; omega))))
  trivial
inductive MidA (g : Heap) (L' : Addr) (s : Shared) (d : Addr) (o1 : Obj) (s' : Shared) : Prop
  | mk (b : Array UInt8) (t : Tok) (ks : List Int) (vs' : List Value) (n' : Nat) (D : Addr) (k' : Nat) (h' : Heap) (tk' : Nat) (m0 : Str → Option Value) (e0 : s' = { s with heap := h', toks := tk' }) (e1 : KBw.bInts b = ks) (e2 : ks.length ≤ 4000) (e3 : DeckIs vs') (e4 : Fr g L' h' (fun y => if y = Str.ofString "is_begun" then some (.bool false) else if y = Str.ofString "due" then some (.ref D) else if y = Str.ofString "row" then some (.bytes b t) else m0 y)) (e5 : News g L' h' [(D, W.listOf #[] k'), (L' + 1, o1), (d, W.listOf vs'.toArray n')]) (e6 : (@LT.lt Nat _ (@HAdd.hAdd Nat Nat Nat _ L' 1) D)) : MidA g L' s d o1 s'
theorem MidA.intro {g : Heap} {L' : Addr} {s : Shared} {d : Addr} {o1 : Obj} {b : Array UInt8} {t : Tok} {ks : List Int} {vs' : List Value} {n' : Nat} {D : Addr} {k' : Nat} {h' : Heap} {tk' : Nat} {m0 : Str → Option Value} {all : Led} (hk : KBw.bInts b = ks) (hl : ks.length ≤ 4000) (Dk : DeckIs vs')
    (F : Fr g L' h' (fun y => if y = Str.ofString "is_begun" then some (.bool false) else if y = Str.ofString "due" then some (.ref D) else if y = Str.ofString "row" then some (.bytes b t) else m0 y)) (N : News g L' h' all) (sub : ∀ p ∈ [(D, W.listOf #[] k'), (L' + 1, o1), (d, W.listOf vs'.toArray n')], p ∈ all) (lt : (@LT.lt Nat _ (@HAdd.hAdd Nat Nat Nat _ L' 1) D)) :
    MidA g L' s d o1 { s with heap := h', toks := tk' } := ⟨b, t, ks, vs', n', D, k', h', tk', m0, rfl, hk, hl, Dk, F, fun p hp => N p (sub p hp), lt⟩
theorem wr_off {D d L' : Addr} {o1 o2 o3 : Obj} {own : Led} (ne1 : (@Ne Nat D d)) (lt1 : (@LT.lt Nat _ (@HAdd.hAdd Nat Nat Nat _ L' 1) D)) (hoff : OwnOff own (List.map (fun x => x.1) [(D, o3), (L' + 1, o1), (d, o2)])) : ∀ p ∈ ((L' + 1, o1) :: (d, o2) :: own), p.1 ≠ D := by
  intro p hp
  rcases List.mem_cons.mp hp with rfl | hp
  · intro q; have q : L' + 1 = D := q; have : (@HAdd.hAdd Nat Nat Nat _ L' 1) = D := q; omega
  · rcases List.mem_cons.mp hp with rfl | hp
    · exact fun q => ne1 q.symm
    · exact hoff p hp D (by simp)
inductive WJ (d D L1 : Addr) (o1 : Obj) (vs' : List Value) (n' : Nat) (b : Array UInt8) (t : Tok) (ks : List Int) (i : Nat) (m : Str → Option Value) (nx : Led) : Prop
  | mk (us : List Value) (k : Nat) (bs : List (Array UInt8)) (u : Str → Option Value) (e0 : nx = [(D, W.listOf us.toArray k), (L1, o1), (d, W.listOf vs'.toArray n')]) (e1 : BysAre us bs) (e2 : bs.map KBw.bInts = (wRun (ks.take i)).1) (e3 : (∀ c ∈ bs, c.size ≤ i)) (e4 : bs.length ≤ i) (e5 : m = fun y => if y = Str.ofString "is_begun" then some (.bool (wRun (ks.take i)).2) else if y = Str.ofString "due" then some (.ref D) else if y = Str.ofString "row" then some (.bytes b t) else u y) : WJ d D L1 o1 vs' n' b t ks i m nx
theorem WJ_start {d D L1 : Addr} {o1 : Obj} {vs' : List Value} {n' : Nat} {b : Array UInt8} {t : Tok} {ks : List Int} {k : Nat} {m0 : Str → Option Value} : WJ d D L1 o1 vs' n' b t ks 0 (fun y => if y = Str.ofString "is_begun" then some (.bool false) else if y = Str.ofString "due" then some (.ref D) else if y = Str.ofString "row" then some (.bytes b t) else m0 y) [(D, W.listOf #[] k), (L1, o1), (d, W.listOf vs'.toArray n')] :=
  ⟨[], k, [], m0, rfl, .nil, rfl, by simp, by simp, rfl⟩
theorem WJ_m (a b c e f gg : Option Value) (u : Str → Option Value) : (fun y => if y = Str.ofString "is_begun" then a else if y = Str.ofString "is_blank" then b else if y = Str.ofString "octet" then c else if y = Str.ofString "is_begun" then e else if y = Str.ofString "due" then f else if y = Str.ofString "row" then gg else u y) =
    fun y => if y = Str.ofString "is_begun" then a else if y = Str.ofString "due" then f else if y = Str.ofString "row" then gg else (fun y => if y = Str.ofString "is_blank" then b else if y = Str.ofString "octet" then c else u y) y := by
  funext y
  by_cases h1 : y = Str.ofString "is_begun"
  · rw [if_pos h1, if_pos h1]
  · rw [if_neg h1, if_neg h1, if_neg h1]
    by_cases h2 : y = Str.ofString "is_blank"
    · subst h2
      rw [if_pos rfl, if_neg (show ¬ (Str.ofString "is_blank" = Str.ofString "due") from by decide), if_neg (show ¬ (Str.ofString "is_blank" = Str.ofString "row") from by decide)]
      exact (if_pos rfl).symm
    · rw [if_neg h2]
      by_cases h3 : y = Str.ofString "octet"
      · subst h3
        rw [if_pos rfl, if_neg (show ¬ (Str.ofString "octet" = Str.ofString "due") from by decide), if_neg (show ¬ (Str.ofString "octet" = Str.ofString "row") from by decide)]
        exact ((if_neg h2).trans (if_pos rfl)).symm
      · rw [if_neg h3]
        by_cases h4 : y = Str.ofString "due"
        · rw [if_pos h4, if_pos h4]
        · rw [if_neg h4, if_neg h4]
          by_cases h5 : y = Str.ofString "row"
          · rw [if_pos h5, if_pos h5]
          · rw [if_neg h5, if_neg h5]
            exact ((if_neg h2).trans (if_neg h3)).symm
theorem begun_off (a f gg : Option Value) (u : Str → Option Value) : ∀ y, (if y = Str.ofString "is_begun" then a else if y = Str.ofString "due" then f else if y = Str.ofString "row" then gg else u y) = if y = Str.ofString "due" then f else if y = Str.ofString "row" then gg else (fun y => if y = Str.ofString "is_begun" then a else u y) y := by
  intro y
  by_cases h1 : y = Str.ofString "is_begun"
  · subst h1
    rw [if_pos rfl, if_neg (show ¬ (Str.ofString "is_begun" = Str.ofString "due") from by decide), if_neg (show ¬ (Str.ofString "is_begun" = Str.ofString "row") from by decide)]
    exact (if_pos rfl).symm
  · rw [if_neg h1]
    split
    · rfl
    · split
      · rfl
      · exact (if_neg h1).symm
theorem any_bl {k : Int} : ([32, 9, 13].any fun x => x == k) = decide (isBl k) := by
  rw [Bool.eq_iff_iff, decide_eq_true_eq]
  unfold isBl
  simp
  omega
theorem WJ_step {g : Heap} {L' : Addr} {s : Shared} {d D : Addr} {o1 : Obj} {vs' : List Value} {n' : Nat} {b : Array UInt8} {t : Tok} {ks : List Int} {i : Nat} {k : Int} {ws : List (List Int)} {bg : Bool} {us' : List Value} {kk' : Nat} {bs' : List (Array UInt8)} {u : Str → Option Value} {h' : Heap} {tk' : Nat} {own all : Led} {ad : List Addr} {v e : Option Value} {c : Option Value}
    (F : Fr g L' h' (fun y => if y = Str.ofString "is_begun" then some (.bool ![32, 9, 13].any fun x => x == k) else if y = Str.ofString "is_blank" then v else if y = Str.ofString "octet" then c else if y = Str.ofString "is_begun" then e else if y = Str.ofString "due" then some (.ref D) else if y = Str.ofString "row" then some (.bytes b t) else u y)) (N : News g L' h' all)
    (hm : (D, W.listOf us'.toArray kk') ∈ all) (h1 : (L' + 1, o1) ∈ all) (h2 : (d, W.listOf vs'.toArray n') ∈ all) (ho : ∀ p ∈ own, p ∈ all) (had : ad = [D, L' + 1, d])
    (he : ks[i]? = some k) (hst : wRun (ks.take i) = (ws, bg)) (hB' : BysAre us' bs') (hM' : bs'.map KBw.bInts = (wStep (ws, bg) k).1) (hs' : ∀ c ∈ bs', c.size ≤ i + 1) (hl' : bs'.length ≤ i + 1) :
    InvEndN g L' (WJ d D (L' + 1) o1 vs' n' b t ks (i + 1)) own ad s { s with heap := h', toks := tk' } := by
  have e1 : wRun (ks.take (i + 1)) = wStep (ws, bg) k := by
    unfold wRun at hst ⊢
    rw [List.take_add_one, he]
    show List.foldl wStep _ (_ ++ [k]) = _
    rw [List.foldl_append, hst]; rfl
  have e2 : (wStep (ws, bg) k).2 = !([32, 9, 13].any fun x => x == k) := by
    rw [any_bl]
    unfold wStep
    by_cases q : isBl k
    · rw [if_pos q, decide_eq_true q]; rfl
    · rw [if_neg q, decide_eq_false q]; split <;> rfl
  subst had
  refine InvEndN.intro F N (nx := [(D, W.listOf us'.toArray kk'), (L' + 1, o1), (d, W.listOf vs'.toArray n')]) ⟨us', kk', bs', _, rfl, hB', by rw [e1]; exact hM', hs', hl', by rw [e1, e2]; exact WJ_m _ _ _ _ _ _ _⟩ rfl (sub_cons hm (sub_cons h1 (sub_cons h2 sub_nil))) ho
theorem st_blank {k : Int} {ws : List (List Int)} {bg : Bool} (h : ([32, 9, 13].any fun x => x == k) = true) : wStep (ws, bg) k = (ws, false) := by
  rw [any_bl, decide_eq_true_eq] at h; unfold wStep; rw [if_pos h]
theorem st_new {k : Int} {ws : List (List Int)} (h : ([32, 9, 13].any fun x => x == k) = false) : wStep (ws, false) k = (ws ++ [[k]], true) := by
  rw [any_bl, decide_eq_false_iff_not] at h; unfold wStep; rw [if_neg h]; rfl
theorem st_on {k : Int} {ws : List (List Int)} (h : ([32, 9, 13].any fun x => x == k) = false) : wStep (ws, true) k = (ws.dropLast ++ [ws.getLastD [] ++ [k]], true) := by
  rw [any_bl, decide_eq_false_iff_not] at h; unfold wStep; rw [if_neg h]; rfl
inductive MidB (g : Heap) (L' : Addr) (s : Shared) (d : Addr) (o1 : Obj) (vs' : List Value) (n' : Nat) (b : Array UInt8) (t : Tok) (ks : List Int) (s' : Shared) : Prop
  | mk (us : List Value) (k : Nat) (bs : List (Array UInt8)) (u : Str → Option Value) (D : Addr) (h' : Heap) (tk' : Nat) (e0 : s' = { s with heap := h', toks := tk' }) (e1 : BysAre us bs) (e2 : bs.map KBw.bInts = (wRun ks).1) (e3 : (∀ c ∈ bs, c.size ≤ ks.length)) (e4 : bs.length ≤ ks.length) (e5 : Fr g L' h' (fun y => if y = Str.ofString "due" then some (.ref D) else if y = Str.ofString "row" then some (.bytes b t) else u y)) (e6 : News g L' h' [(D, W.listOf us.toArray k), (L' + 1, o1), (d, W.listOf vs'.toArray n')]) (e7 : (@LT.lt Nat _ (@HAdd.hAdd Nat Nat Nat _ L' 1) D)) : MidB g L' s d o1 vs' n' b t ks s'
theorem swap_rd (a b c : Option Value) (u : Str → Option Value) : ∀ y, (if y = Str.ofString "is_begun" then a else if y = Str.ofString "row" then b else if y = Str.ofString "due" then c else u y) = if y = Str.ofString "is_begun" then a else if y = Str.ofString "due" then c else if y = Str.ofString "row" then b else u y := by
  intro y
  by_cases h1 : y = Str.ofString "row"
  · have h2 : ¬ y = Str.ofString "due" := by rw [h1]; decide
    rw [if_pos h1, if_neg h2, if_pos h1]
  · rw [if_neg h1, if_neg h1]
theorem map_inj {as bs : List (Array UInt8)} (h : as.map KBw.bInts = bs.map KBw.bInts) : as = bs := by
  induction as generalizing bs with
  | nil => cases bs with
    | nil => rfl
    | cons b bs => cases h
  | cons a as ih => cases bs with
    | nil => cases h
    | cons b bs =>
      rw [List.map_cons, List.map_cons] at h
      injection h with h1 h2
      rw [bints_inj h1, ih h2]
theorem words_same {kbs bs : List (Array UInt8)} {ks : List Int} (hS : Splits 32 kbs (subI 13 32 (subI 9 32 ks))) (hM : bs.map KBw.bInts = (wRun ks).1) : kbs.filter keepW = bs := by
  refine map_inj ?_
  rw [hM, wRun_eq, ← splits_eq hS, List.filter_map]
  congr 1
  refine List.filter_congr fun b _ => ?_
  unfold keepW neW KBw.bInts
  cases h : b.toList <;> simp [h]
inductive MidC (g : Heap) (L' : Addr) (s : Shared) (d : Addr) (o1 : Obj) (vs' : List Value) (n' : Nat) (s' : Shared) : Prop
  | mk (u : Str → Option Value) (h' : Heap) (tk' : Nat) (e0 : s' = { s with heap := h', toks := tk' }) (e1 : Fr g L' h' u) (e2 : News g L' h' [(L' + 1, o1), (d, W.listOf vs'.toArray n')]) : MidC g L' s d o1 vs' n' s'
theorem opt_cases {x : Option Int} {r : Value} (h : optI x r) : (x = none ∧ r = .none) ∨ ∃ n t, x = some n ∧ r = .int n t := by
  cases x with
  | none => exact .inl ⟨rfl, h⟩
  | some n => obtain ⟨t, h⟩ := h; exact .inr ⟨n, t, rfl, h⟩
theorem oct_some {ks : List Int} {n : Int} (h : octP ks = some n) : (ks.length : Int) = 3 ∧ (∀ v ∈ ks, 48 ≤ v ∧ v ≤ 55) ∧ n < 256 ∧ n = ks.foldl (fun a v => a * 8 + v - 48) 0 := by
  unfold octP at h
  split at h
  · cases h
  · rename_i q
    simp only [not_or, Decidable.not_not] at q
    obtain ⟨q1, q2, q3⟩ := q
    injection h with h
    match ks, q1, q2, q3, h with
    | [a, b, c], _, q2, q3, h =>
      simp only [List.getD_cons_zero, List.foldl_cons, List.foldl_nil, List.mem_cons, List.not_mem_nil, or_false] at q2 q3 h
      refine ⟨rfl, ?_, ?_, ?_⟩
      · intro v hv; simp only [List.mem_cons, List.not_mem_nil, or_false] at hv; exact q3 v hv
      · have := q3 b (by simp); have := q3 c (by simp); omega
      · rw [← h]; simp
theorem oct_is {ks : List Int} {n : Int} (h1 : (ks.length : Int) = 3) (h2 : ∀ v ∈ ks, 48 ≤ v ∧ v ≤ 55) (h3 : n < 256) (h4 : n = ks.foldl (fun a v => a * 8 + v - 48) 0) : octP ks = some n := by
  have h1 : ks.length = 3 := by omega
  match ks, h1, h2, h4 with
  | [a, b, c], _, h2, h4 =>
    have qa := h2 a (by simp); have qb := h2 b (by simp); have qc := h2 c (by simp)
    simp only [List.foldl_cons, List.foldl_nil] at h4
    unfold octP
    rw [if_neg]
    · simp [h4]
    · simp only [not_or, Decidable.not_not]
      refine ⟨rfl, ⟨by simp; omega, by simp; omega⟩, h2⟩
abbrev numJ (pre : List Int) (n : Int) : Prop := n = pre.foldl (fun a v => a * 8 + v - 48) 0
theorem num_start : numJ [] 0 := rfl
theorem num_step {pre : List Int} {n k : Int} (h : n = pre.foldl (fun a v => a * 8 + v - 48) 0) : numJ (pre ++ [k]) (8 * n + k - 48) := by
  show _ = _
  rw [List.foldl_append, ← h]; show _ = n * 8 + k - 48; omega
section
variable {ks : List Int} {kmin kmax n r : Int}
theorem fine_oct (h1 : (ks.length : Int) = 3) (h2 : ∀ v ∈ ks, kmin ≤ v) (h3 : 47 < kmin) (h4 : ∀ v ∈ ks, v ≤ kmax) (h5 : kmax < 56) (h6 : numJ ks n) (h7 : n < 256) : octP ks = some n :=
  oct_is h1 (fun v hv => by have := h2 v hv; have := h4 v hv; omega) h7 h6
theorem fine_none {P : Prop} (h1 : (ks.length : Int) = 3) (h2 : ∀ v ∈ ks, kmin ≤ v) (h3 : 47 < kmin) (h4 : ∀ v ∈ ks, v ≤ kmax) (h5 : kmax < 56) (h6 : numJ ks n) (h7 : n < 256) (e : octP ks = none) : P := by
  rw [fine_oct h1 h2 h3 h4 h5 h6 h7] at e; cases e
theorem fine_some (h1 : (ks.length : Int) = 3) (h2 : ∀ v ∈ ks, kmin ≤ v) (h3 : 47 < kmin) (h4 : ∀ v ∈ ks, v ≤ kmax) (h5 : kmax < 56) (h6 : numJ ks n) (h7 : n < 256) (e : octP ks = some r) : Value.bool (r == n) = .bool true := by
  rw [fine_oct h1 h2 h3 h4 h5 h6 h7] at e; injection e with e; simp [e]
theorem nf1 {P : Prop} (e : octP ks = some r) (h : ¬ (ks.length : Int) = 3) : P := absurd (oct_some e).1 h
theorem nf2 {P : Prop} (e : octP ks = some r) (hm : kmin ∈ ks) (h : ¬ 47 < kmin) : P := by have := (oct_some e).2.1 _ hm; exact absurd (by omega) h
theorem nf3 {P : Prop} (e : octP ks = some r) (hm : kmax ∈ ks) (h : ¬ kmax < 56) : P := by have := (oct_some e).2.1 _ hm; exact absurd (by omega) h
theorem nf4 {P : Prop} (e : octP ks = some r) (hn : numJ ks n) (h : ¬ n < 256) : P := by
  have := oct_some e
  refine absurd ?_ h
  have h2 : n = ks.foldl (fun a v => a * 8 + v - 48) 0 := hn
  rw [h2, ← this.2.2.2]; exact this.2.2.1
end
theorem words_C_wright_2 : True := by
  k_with "call type:bytes" => (k_here; k_dflt (refine' make_figs (M := 5) ?Fw12 ?Nw12 ?hw12 ?mw12 ?Gw12 ?lw12 ?Mw12 ?_; (case Fw12 => k_asm); (case Nw12 => k_asm); (case hw12 => rfl); (case mw12 => k_mem); (case Gw12 => with_reducible assumption); (case lw12 => with_reducible assumption); (case Mw12 => decide); intro kh kb kt ktk kks kF kN kHk kIn kHl))
  k_with "call builtin:min" => (k_here; k_dflt (refine' min_bytes ?Fw13 ?Nw13 ?hw13 ?kw13 ?nw13 ?_; (case Fw13 => k_asm); (case Nw13 => k_asm); (case hw13 => rfl); (case kw13 => kba_ints); (case nw13 => omega); intro kh kk kt ktk kF kN kMin kMem))
  k_with "call builtin:max" => (k_here; k_dflt (refine' max_bytes ?Fw14 ?Nw14 ?hw14 ?kw14 ?nw14 ?_; (case Fw14 => k_asm); (case Nw14 => k_asm); (case hw14 => rfl); (case kw14 => kba_ints); (case nw14 => omega); intro kh kk kt ktk kF kN kMax kMem))
  k_with "call ref" => (k_here; (with_reducible show wpAny _ _ (call (.ref 117) _) _ _ _); k_dflt ((refine' con_useP (octal_con _ _ _ _ ?hbw15 ?hzw15) ?Bw15 ?Fw15 ?Xw15 ?Nw15 ?Tw15 ?kw15 ?hdw15 ?huw15 ?_; (case hbw15 => kba_ints); (case hzw15 => omega); (case Bw15 => k_asm); (case Fw15 => k_asm); (case Xw15 => k_asm); (case Nw15 => k_asm); (case Tw15 => k_asm); (case kw15 => exact rfl); (case hdw15 => (dsimp only [ktrTop]; omega)); (case huw15 => (dsimp only [ktrTop]; omega)); (rintro kr _ kh ktk kF kN kO;  (rcases opt_cases kO with ⟨kE, kR⟩ | ⟨kn, kt, kE, kR⟩ <;> subst kR);(try dsimp only [List.nil_append, List.cons_append] at kN)))))
  k_with "CompSrc" => (k_here; k_dflt (refine comp_range2 (elt := .BinOp _ _ _ _) (M := 5) (FigV) (by exact rfl) (by k_asm) (by k_asm) (by with_reducible assumption) (by (first | exact UpdF.head (by k_all) | exact UpdF.tail (by k_ne) (UpdF.head (by k_all)) | exact UpdF.tail (by k_ne) (UpdF.tail (by k_ne) (UpdF.head (by k_all))) | exact UpdF.tail (by k_ne) (UpdF.tail (by k_ne) (UpdF.tail (by k_ne) (UpdF.head (by k_all)))) | exact UpdF.tail (by k_ne) (UpdF.tail (by k_ne) (UpdF.tail (by k_ne) (UpdF.tail (by k_ne) (UpdF.head (by k_all))))) | exact UpdF.tail (by k_ne) (UpdF.tail (by k_ne) (UpdF.tail (by k_ne) (UpdF.tail (by k_ne) (UpdF.tail (by k_ne) (UpdF.head (by k_all)))))) | exact UpdF.tail (by k_ne) (UpdF.tail (by k_ne) (UpdF.tail (by k_ne) (UpdF.tail (by k_ne) (UpdF.tail (by k_ne) (UpdF.tail (by k_ne) (UpdF.head (by k_all))))))))) (by assumption) (by first | with_reducible assumption | decide) (by omega) (by decide) ?_ ?_; (focus (intro kI koI kC koC kD km kys kh ktk kvs kn kE kHC kF kN kDk kOff kNe; (try dsimp only [List.nil_append, List.cons_append] at kN); (try simp only [LCg.Off3, and_true] at kOff))); (rotate_left 1); (focus (intro kg kys kvs kn kG kLen kDk)); (rotate_left 1)))
  trivial
set_option maxHeartbeats 40000000 in
theorem wright_con (w : World) (d : Addr) (vs : List Value) (n : Nat) (hD : DeckIs vs) : Con w 189 [.ref d] [(d, W.listOf vs.toArray n)] 100 400 (fun r new => r = .bool true ∧ ∃ vs' n', new = [(d, W.listOf vs'.toArray n')] ∧ DeckIs vs') := by
  refine con_enterC (i := 24) (nm := "_law_words_right") (c := 188) [("deck", .ref d)] (by conv => lhs; whnf) (by k_is) (by k_is) rfl rfl (by decide +kernel) ?_
  intro mean mg mb dp un gd cn cs a ccd cl outer base L s hd hu g L' h₁ tk' cells' F' N' Y' B' X' T' l1
  k_lt l1
  k_cells Y'
  rename Obj => o2
  rename Obj => o1
  try simp only [List.cons_append, List.nil_append] at N'
  try dsimp only
  refine execs_cut 3 (MidA g L' s d o1) ?_ ?_
  · dsimp only [List.take]
    k_steps
    refine' MidA.intro ?hk ?hl ?D ?F ?N ?sub ?lt
    case F => exact fr_same (by with_reducible assumption) (swap_rd _ _ _ _)
    case N => with_reducible assumption
    case hk => with_reducible assumption
    case hl => with_reducible assumption
    case D => with_reducible assumption
    case sub => repeat' (first | exact sub_nil | refine sub_cons ?_ ?_ | k_mem)
    case lt => omega
  · rintro s' ⟨b1, t1, ks1, vs1, n1, D1, k1, h1, tk1, m0, rfl, hR1, hz1, hD1, F1, N1, lt1⟩
    clear F' N'
    have ne1 : (@Ne Nat D1 d) := by omega
    refine execs_cut 1 (MidB g L' s d o1 vs1 n1 b1 t1 ks1) ?_ ?_
    · dsimp only [List.take, List.drop]
      change wpAny _ _ _ _ _ _
      k_fold
      k_with "pyIter bytes" => fail
      k_steps
      show wpAny _ _ (pyIter _) _ _ _
      refine KBmo.iter_bytesN (news := [(D1, W.listOf #[] k1), (L' + 1, o1), (d, W.listOf vs1.toArray n1)]) (WJ d D1 (L' + 1) o1 vs1 n1 b1 t1 ks1) hR1 rfl (by k_asm) (by k_asm) WJ_start ?turn ?done
      case done =>
        intro m₁ news₁ h tk hJ F N
        obtain ⟨us, kk, bs, u, rfl, hB, hM, hS, hL, rfl⟩ := hJ
        rw [List.take_length] at hM F
        try k_fold
        k_steps
        exact ⟨us, kk, bs, _, D1, _, _, rfl, hB, hM, hS, hL, fr_same (by k_asm) (begun_off _ _ _ _), (by k_asm), lt1⟩
      case turn =>
        intro i k t m₁ news₁ h tk own he hlo hhi hoff hJ F N
        obtain ⟨us, kk, bs, u, rfl, hB, hM, hS, hL, rfl⟩ := hJ
        simp only [List.cons_append, List.nil_append] at N
        have hUp : ∀ p ∈ ((L' + 1, o1) :: (d, W.listOf vs1.toArray n1) :: own), p.1 ≠ D1 := wr_off ne1 lt1 hoff
        have hW := wRun_ne (ks1.take i)
        generalize hst : wRun (ks1.take i) = st at *
        obtain ⟨ws, bg⟩ := st
        have hk4 : i < ks1.length := (List.getElem?_eq_some_iff.mp he).1
        cases bg
        · dsimp only at *
          have hus : us.toArray.size ≤ sizeLine := by rw [List.size_toArray, bys_len hB, sizeLine_eq]; omega
          k_steps
          · refine WJ_step (by k_asm) (by k_asm) (us' := us) (kk' := kk) (by k_mem) (by k_mem) (by k_mem) (ho := by intro p hp; repeat' (first | exact hp | exact List.Mem.head _ | refine List.Mem.tail _ ?_)) rfl he hst hB ?_ (fun c hc => Nat.le_succ_of_le (hS c hc)) (Nat.le_succ_of_le hL)
            rw [st_blank (by with_reducible assumption)]; exact hM
          · rename News _ _ _ _ => nE
            simp only [List.push_toArray] at nE
            refine WJ_step (by k_asm) (by k_asm) (us' := us ++ [_]) (kk' := kk + 1) (by k_mem) (by k_mem) (by k_mem) (ho := by intro p hp; repeat' (first | exact hp | exact List.Mem.head _ | refine List.Mem.tail _ ?_)) rfl he hst (bys_snoc hB) ?_ ?_ ?_
            · rw [st_new (by with_reducible assumption), List.map_append, hM]
              show _ ++ [[((k.toNat.toUInt8).toNat : Int)]] = _
              rw [‹((k.toNat.toUInt8).toNat : Int) = k›]
            · intro c hc
              rcases List.mem_append.mp hc with q | q
              · exact Nat.le_succ_of_le (hS c q)
              · rw [List.mem_singleton.mp q]; show 1 ≤ _; omega
            · rw [List.length_append]; exact Nat.succ_le_succ hL
        · dsimp only at *
          have hne : bs ≠ [] := fun q => by rw [q] at hM; exact hW rfl hM.symm
          obtain ⟨us2, lb, lt, bs2, rfl, rfl, hB2⟩ := bys_last hB hne
          have hlb : KBw.bInts lb = KBw.bInts lb := rfl
          generalize hlk : KBw.bInts lb = lk at hlb
          have hlz : lk.length ≤ 4000 := by rw [← hlk, KBw.ints_length]; have := hS lb (by simp); omega
          clear hlb
          k_steps
          · refine WJ_step (by k_asm) (by k_asm) (us' := us2 ++ [_]) (kk' := kk) (by k_mem) (by k_mem) (by k_mem) (ho := by intro p hp; repeat' (first | exact hp | exact List.Mem.head _ | refine List.Mem.tail _ ?_)) rfl he hst hB ?_ (fun c hc => Nat.le_succ_of_le (hS c hc)) (Nat.le_succ_of_le hL)
            rw [st_blank (by with_reducible assumption)]; exact hM
          · refine WJ_step (by k_asm) (by k_asm) (us' := us2 ++ [_]) (kk' := kk) (by k_mem) (by k_mem) (by k_mem) (ho := by intro p hp; repeat' (first | exact hp | exact List.Mem.head _ | refine List.Mem.tail _ ?_)) rfl he hst (bys_snoc hB2) ?_ ?_ ?_
            · rw [st_on (by with_reducible assumption), List.map_append, ← hM]
              rw [List.map_append]
              simp only [List.map_cons, List.map_nil, List.dropLast_concat, List.getLastD_eq_getLast?, List.getLast?_concat, Option.getD_some]
              rw [‹KBw.bInts (lb ++ #[k.toNat.toUInt8]) = _›, hlk]
              simp only [List.map_cons, List.map_nil]
              rw [‹((k.toNat.toUInt8).toNat : Int) = k›]
            · intro c hc
              rcases List.mem_append.mp hc with q | q
              · exact Nat.le_succ_of_le (hS c (List.mem_append.mpr (.inl q)))
              · rw [List.mem_singleton.mp q, Array.size_append]; exact Nat.succ_le_succ (hS lb (by simp))
            · rw [List.length_append] at hL ⊢; exact Nat.le_succ_of_le hL
    · rintro s' ⟨us, kk, bs, u, D2, h2, tk2, rfl, hB, hM, hS, hL, F2, N2, lt2⟩
      clear F1 N1
      refine execs_cut 1 (MidC g L' s d o1 vs1 n1) ?_ ?_
      · dsimp only [List.take, List.drop]
        change wpAny _ _ _ _ _ _
        k_fold
        k_steps
        all_goals (rename (Splits _ _ _) => kS; have same := words_same kS hM)
        all_goals first
          | exact ⟨_, _, _, rfl, (by with_reducible assumption), fun p hp => (by with_reducible assumption : News _ _ _ _) p (by rcases List.mem_cons.mp hp with rfl | hp; k_mem; rw [List.mem_singleton.mp hp]; k_mem)⟩
          | exact absurd same (by with_reducible assumption)
      · rintro s' ⟨u, h3, tk3, rfl, F3, N3⟩
        clear F2 N2
        dsimp only [List.drop]
        change wpAny _ _ _ _ _ _
        k_fold
        k_with "pyIter bytes" => k_state numJ "number"
        k_with "state" => first | exact num_start | exact num_step (by with_reducible assumption)
        k_steps
        all_goals (
          show LeaveC g s _ _ _
          refine' leave_true ?D ?F ?N ?m ?_
          case D => with_reducible assumption
          case F => with_reducible assumption
          case N => with_reducible assumption
          case m => k_mem)
        all_goals first
          | rfl
          | exact fine_none (by with_reducible assumption) (by with_reducible assumption) (by with_reducible assumption) (by with_reducible assumption) (by with_reducible assumption) (by with_reducible assumption) (by with_reducible assumption) (by with_reducible assumption)
          | exact fine_some (by with_reducible assumption) (by with_reducible assumption) (by with_reducible assumption) (by with_reducible assumption) (by with_reducible assumption) (by with_reducible assumption) (by with_reducible assumption) (by with_reducible assumption)
          | exact nf1 (by with_reducible assumption) (by with_reducible assumption)
          | exact nf2 (by with_reducible assumption) (by with_reducible assumption) (by with_reducible assumption)
          | exact nf3 (by with_reducible assumption) (by with_reducible assumption) (by with_reducible assumption)
          | exact nf4 (by with_reducible assumption) (by with_reducible assumption) (by with_reducible assumption)
          | (exfalso; omega)
end Pb93
end
section
open PySem PySem.W PyProof.Rows PySem.Spec PySem.Calls
namespace Pb93
def escV (k : Int) : Option Int :=
  if k = 97 then some 7 else if k = 98 then some 8 else if k = 116 then some 9 else if k = 110 then some 10 else if k = 118 then some 11 else if k = 102 then some 12 else if k = 114 then some 13 else if k = 34 then some 34 else if k = 92 then some 92 else none
def escH : List Int → Option Int
  | [] => none
  | e :: _ => escV e
/-- what matching_unquoted makes of the rest of a row: the octets so far, the place -/
inductive Unq : List Int → List Int → Nat → Option (List Int × Nat) → Prop
  | nil {f : List Int} {a : Nat} : Unq [] f a none
  | quote {k : Int} {r f : List Int} {a : Nat} : k = 34 → Unq (k :: r) f a (some (f, a + 1))
  | plain {k : Int} {r f : List Int} {a : Nat} {R : Option (List Int × Nat)} : k ≠ 34 → k ≠ 92 → Unq r (f ++ [k]) (a + 1) R → Unq (k :: r) f a R
  | esc {k v : Int} {r f : List Int} {a : Nat} {R : Option (List Int × Nat)} : k = 92 → escH r = some v → Unq (r.drop 1) (f ++ [v]) (a + 2) R → Unq (k :: r) f a R
  | oct {k n : Int} {r f : List Int} {a : Nat} {R : Option (List Int × Nat)} : k = 92 → escH r = none → octP (r.take 3) = some n → Unq (r.drop 3) (f ++ [n]) (a + 4) R → Unq (k :: r) f a R
  | bad {k : Int} {r f : List Int} {a : Nat} : k = 92 → escH r = none → octP (r.take 3) = none → Unq (k :: r) f a none
theorem Unq.det {r f : List Int} {a : Nat} {R R' : Option (List Int × Nat)} (h : Unq r f a R) (h' : Unq r f a R') : R = R' := by
  induction h generalizing R' with
  | nil => cases h'; rfl
  | quote e => cases h' <;> first | rfl | (exfalso; omega)
  | plain e1 e2 _ ih =>
    cases h' with
    | plain _ _ q => exact ih q
    | quote e => exact absurd e e1
    | esc e => exact absurd e e2
    | oct e => exact absurd e e2
    | bad e => exact absurd e e2
  | esc e1 e2 _ ih =>
    cases h' with
    | esc _ e3 q => rw [e2] at e3; cases e3; exact ih q
    | plain _ e => exact absurd e1 e
    | quote e => exfalso; omega
    | oct _ e3 => rw [e2] at e3; cases e3
    | bad _ e3 => rw [e2] at e3; cases e3
  | oct e1 e2 e4 _ ih =>
    cases h' with
    | oct _ _ e5 q => rw [e4] at e5; cases e5; exact ih q
    | plain _ e => exact absurd e1 e
    | quote e => exfalso; omega
    | esc _ e3 => rw [e2] at e3; cases e3
    | bad _ _ e5 => rw [e4] at e5; cases e5
  | bad e1 e2 e4 =>
    cases h' with
    | bad => rfl
    | plain _ e => exact absurd e1 e
    | quote e => exfalso; omega
    | esc _ e3 => rw [e2] at e3; cases e3
    | oct _ _ e5 => rw [e4] at e5; cases e5
theorem oct_lt {ks : List Int} {n : Int} (h : octP ks = some n) : 0 ≤ n ∧ n < 256 ∧ ks.length = 3 := by
  unfold octP at h
  split at h
  · cases h
  · rename_i q
    simp only [not_or, Decidable.not_not] at q
    obtain ⟨q1, q2, q3⟩ := q
    cases h
    match ks, q1 with
    | [x, y, z], _ =>
      have hx := q3 x (by simp)
      have hy := q3 y (by simp)
      have hz := q3 z (by simp)
      have q2 : 48 ≤ x ∧ x ≤ 51 := q2
      show 0 ≤ (((0 * 8 + x - 48) * 8 + y - 48) * 8 + z - 48 : Int) ∧ (((0 * 8 + x - 48) * 8 + y - 48) * 8 + z - 48 : Int) < 256 ∧ 3 = 3
      omega
end Pb93
end
section
open PySem PySem.W PyProof.Rows PySem.Spec PySem.Calls
namespace Pb93
theorem oct_slice {ks : List Int} {a : Nat} (h : (a : Int) < (ks.length : Int)) : List.take (clipAt ks.length ((a : Int) + 4) - clipAt ks.length ((a : Int) + 1)) (List.drop (clipAt ks.length ((a : Int) + 1)) ks) = (ks.drop (a + 1)).take 3 := by
  have e1 : clipAt ks.length ((a : Int) + 1) = a + 1 := by unfold clipAt; split <;> omega
  have e4 : clipAt ks.length ((a : Int) + 4) = min (a + 4) ks.length := by unfold clipAt; split <;> omega
  rw [e1, e4, List.take_eq_take_iff, List.length_drop]
  omega
/-- no escape: the key is none, or there is no key -/
theorem no_esc {ks : List Int} {a : Nat} (h : (a : Int) + 1 < (ks.length : Int)) (hv : escV (ks.getD ((a : Int) + 1).toNat 0) = none) : escH (ks.drop (a + 1)) = none := by
  have h' : a + 1 < ks.length := by omega
  have e : ((a : Int) + 1).toNat = a + 1 := by omega
  rw [e] at hv
  rw [List.drop_eq_getElem_cons h']
  have : ks.getD (a + 1) 0 = ks[a + 1] := by simp [List.getD, h']
  rw [this] at hv
  exact hv
theorem no_esc_end {ks : List Int} {a : Nat} (h : ¬ (a : Int) + 1 < (ks.length : Int)) : escH (ks.drop (a + 1)) = none := by
  rw [List.drop_eq_nil_of_le (by omega)]; rfl
theorem esc_none {k : Int} (h : (decide (k = 97) || (decide (k = 98) || (decide (k = 116) || (decide (k = 110) || (decide (k = 118) || (decide (k = 102) || (decide (k = 114) || (decide (k = 34) || (decide (k = 92) || false))))))))) = false) : escV k = none := by
  simp only [Bool.or_eq_false_iff, decide_eq_false_iff_not, and_true] at h
  obtain ⟨h1, h2, h3, h4, h5, h6, h7, h8, h9⟩ := h
  simp only [escV, if_neg h1, if_neg h2, if_neg h3, if_neg h4, if_neg h5, if_neg h6, if_neg h7, if_neg h8, if_neg h9]
abbrev tup2 (x y : Value) : Obj := { cls := .type "tuple", data := .seq #[x, y] }
theorem esc_range {k v : Int} (h : escV k = some v) : 0 ≤ v ∧ v < 256 := by
  unfold escV at h
  repeat' split at h
  all_goals first
    | (cases h; done)
    | (cases h; exact ⟨by decide, by decide⟩)
theorem each_cons {h : Heap} {k x : Int} {d : KTD.Dat} {P : Value → Prop} {D : List (Int × KTD.Dat)} (h1 : k = x → KTD.Opened h P d) (h2 : k ≠ x → KTD.EachL h k P D) : KTD.EachL h k P ((x, d) :: D) := by
  by_cases e : k = x
  · exact KTD.eachL_hit e (h1 e)
  · exact KTD.eachL_miss e (h2 e)
/-- an item of MATCHING_ESCAPES, by its value alone -/
theorem each_esc {h : Heap} {k : Int} {P : Value → Prop} (H : ∀ v u, escV k = some v → P (.int v u)) : KTD.EachL h k P [(97, .flat (.int 7)), (98, .flat (.int 8)), (116, .flat (.int 9)), (110, .flat (.int 10)), (118, .flat (.int 11)), (102, .flat (.int 12)), (114, .flat (.int 13)), (34, .flat (.int 34)), (92, .flat (.int 92))] := by
  repeat' refine each_cons (fun e t => H _ t (by subst e; rfl)) fun _ => ?_
  exact trivial
end Pb93
end
section
open PySem PySem.W PyProof.Rows PySem.Spec PySem.Calls
namespace Pb93
/-- the pieces of _law_quoted_right: what stands in the row, and what it tells -/
abbrev Pc := List Int × Option (List Int)
def pcs : List Pc := [([97], some [97]), ([92, 92], some [92]), ([92, 34], some [34]), ([92, 116], some [9]), ([92, 49, 48, 49], some [65]), ([32], some [32]), ([92, 110], some [10]), ([92, 97, 92, 98], some [7, 8]), ([92, 118, 92, 102, 92, 114], some [11, 12, 13]), ([92, 48, 48, 48], some [0]), ([92, 51, 55, 55], some [255]), ([195], some [195]), ([92, 113], none), ([92, 52, 48, 48], none), ([92, 57], none), ([47], some [47])]
def pcText (l : List Pc) : List Int := (l.map (·.1)).flatten
def pcTold (l : List Pc) : List Int := (l.map fun p => p.2.getD []).flatten
theorem pc_good {p : Pc} (hp : p ∈ pcs) {v : List Int} (hv : p.2 = some v) {r f : List Int} {a : Nat} {R : Option (List Int × Nat)} (h : Unq r (f ++ v) (a + p.1.length) R) : Unq (p.1 ++ r) f a R := by
  simp only [pcs, List.mem_cons, List.not_mem_nil, or_false] at hp
  rcases hp with rfl | rfl | rfl | rfl | rfl | rfl | rfl | rfl | rfl | rfl | rfl | rfl | rfl | rfl | rfl | rfl <;> cases hv
  · exact .plain (by decide) (by decide) h
  · exact .esc rfl rfl h
  · exact .esc rfl rfl h
  · exact .esc rfl rfl h
  · exact .oct rfl rfl rfl h
  · exact .plain (by decide) (by decide) h
  · exact .esc rfl rfl h
  · exact .esc rfl rfl (.esc rfl rfl (by rw [List.append_assoc]; exact h))
  · exact .esc rfl rfl (.esc rfl rfl (.esc rfl rfl (by rw [List.append_assoc, List.append_assoc]; exact h)))
  · exact .oct rfl rfl rfl h
  · exact .oct rfl rfl rfl h
  · exact .plain (by decide) (by decide) h
  · exact .plain (by decide) (by decide) h
theorem oct_bad1 {x : Int} {r : List Int} (h : ¬ (48 ≤ x ∧ x ≤ 51)) : octP ((x :: r).take 3) = none := by
  unfold octP
  rw [if_pos]
  right; left
  exact h
theorem pc_bad {p : Pc} (hp : p ∈ pcs) (hv : p.2 = none) {r f : List Int} {a : Nat} : Unq (p.1 ++ r) f a none := by
  simp only [pcs, List.mem_cons, List.not_mem_nil, or_false] at hp
  rcases hp with rfl | rfl | rfl | rfl | rfl | rfl | rfl | rfl | rfl | rfl | rfl | rfl | rfl | rfl | rfl | rfl <;> cases hv
  all_goals exact .bad rfl rfl (oct_bad1 (by decide))
/-- the quote that ends them -/
theorem pc_ended {rest : List Int} : ∀ {l : List Pc} (_ : ∀ p ∈ l, p ∈ pcs) {f : List Int} {a : Nat},
    Unq (pcText l ++ 34 :: rest) f a (if (l.any fun p => p.2.isNone) = true then none else some (f ++ pcTold l, a + (pcText l).length + 1))
  | [], _, f, a => by
    have : Unq (34 :: rest) f a (some (f, a + 1)) := .quote rfl
    simpa [pcText, pcTold] using this
  | p :: l, h, f, a => by
    have hp := h p List.mem_cons_self
    have ht : pcText (p :: l) ++ 34 :: rest = p.1 ++ (pcText l ++ 34 :: rest) := by simp [pcText]
    rw [ht]
    cases hv : p.2 with
    | none =>
      rw [if_pos (by rw [List.any_cons, hv]; rfl)]
      exact pc_bad hp hv
    | some v =>
      refine pc_good hp hv ?_
      have z := pc_ended (rest := rest) (l := l) (fun q hq => h q (List.mem_cons_of_mem _ hq)) (f := f ++ v) (a := a + p.1.length)
      have e1 : ((p :: l).any fun p => p.2.isNone) = l.any fun p => p.2.isNone := by rw [List.any_cons, hv]; rfl
      have e2 : f ++ pcTold (p :: l) = f ++ v ++ pcTold l := by simp [pcTold, hv]
      have e3 : a + (pcText (p :: l)).length + 1 = a + p.1.length + (pcText l).length + 1 := by
        simp only [pcText, List.map_cons, List.flatten_cons, List.length_append]; omega
      rw [e1, e2, e3]
      exact z
/-- without the quote -/
theorem pc_open : ∀ {l : List Pc} (_ : ∀ p ∈ l, p ∈ pcs) {f : List Int} {a : Nat}, Unq (pcText l) f a none
  | [], _, f, a => .nil
  | p :: l, h, f, a => by
    have hp := h p List.mem_cons_self
    have ht : pcText (p :: l) = p.1 ++ pcText l := by simp [pcText]
    rw [ht]
    cases hv : p.2 with
    | none => exact pc_bad hp hv
    | some v => exact pc_good hp hv (pc_open (fun q hq => h q (List.mem_cons_of_mem _ hq)))
theorem pc_len {l : List Pc} (h : ∀ p ∈ l, p ∈ pcs) : (pcText l).length ≤ 6 * l.length ∧ (pcTold l).length ≤ 3 * l.length := by
  induction l with
  | nil => exact ⟨Nat.le_refl _, Nat.le_refl _⟩
  | cons p l ih =>
    obtain ⟨i1, i2⟩ := ih fun q hq => h q (List.mem_cons_of_mem _ hq)
    have hp : p.1.length ≤ 6 ∧ (p.2.getD []).length ≤ 3 := by
      have : ∀ p ∈ pcs, p.1.length ≤ 6 ∧ (p.2.getD []).length ≤ 3 := by decide
      exact this p (h p List.mem_cons_self)
    simp only [pcText, pcTold, List.map_cons, List.flatten_cons, List.length_append, List.length_cons] at i1 i2 ⊢
    omega
theorem pc_texts {l : List Pc} (h : ∀ p ∈ l, p ∈ pcs) : ∀ x ∈ l.map (·.1), x.length ≤ 6 := fun x hx => by
  obtain ⟨p, hp, rfl⟩ := List.mem_map.mp hx
  have : ∀ p ∈ pcs, p.1.length ≤ 6 := by decide
  exact this p (h p hp)
theorem pc_tolds {l : List Pc} (h : ∀ p ∈ l, p ∈ pcs) : ∀ x ∈ (l.map (·.2)).map (fun o => o.getD []), x.length ≤ 6 := fun x hx => by
  obtain ⟨o, ho, rfl⟩ := List.mem_map.mp hx
  obtain ⟨p, hp, rfl⟩ := List.mem_map.mp ho
  have : ∀ p ∈ pcs, (p.2.getD []).length ≤ 6 := by decide
  exact this p (h p hp)
end Pb93
end
section
open PySem PySem.W PyProof.Rows PySem.Spec PySem.Calls
namespace Pb93
open PySem.SeqAt
open Builtin.Bytes
theorem sub_none_bytes : isSubtype (.type "NoneType") (.type "bytes") = pure false := by rw [isSubtype_type]; kernel_rfl
theorem bytes_eq_none (b : Array UInt8) (t : Tok) : Gives (Builtin.«bytes.__eq__» ⟨[.bytes b t, .none], []⟩) (.val (Value.notImplemented)) := by
  refine .of_wp fun M A E s Q hq => ?_
  show wpAny M A (isInstance .none (.type "bytes") >>= fun r => _) _ E s
  refine wpAny_bind (wpAny_isInstance (T := "NoneType") rfl sub_none_bytes ?_)
  show wpAny M A (rule _ >>= fun _ => ret .notImplemented) _ _ _
  exact wpAny_bind (wpAny_rule (wpAny_pure ⟨_, rfl, hq⟩))
theorem none_eq_bytes (b : Array UInt8) (t : Tok) : Gives (Builtin.«NoneType.__eq__» ⟨[.none, .bytes b t], []⟩) (.val (Value.notImplemented)) :=
  .of_wp fun M A E s Q h => by obtain ⟨hp, g, d, tk, os⟩ := s; wp_walk; exact ⟨_, rfl, h⟩
section
variable {A : Around} {s : Shared}
theorem rc_bytes_none (a : Array UInt8) (t : Tok) : RcAt A s (.bytes a t) .none false := fun prog w E Q h =>
  rc_eq_decline_or (k := false) (typeIs_bytes s a t) rfl (by decide) sub_none_bytes FB.slot_bytes_eq F.slot_NoneType_eq_refl
    (fun _ hq => call_gives FB.slot_bytes_eq (typeIs_bytes s a t) FB.entry_bytes_eq (FB.args_bytes_eq_2 _ _) (bytes_eq_none a t) hq)
    (fun _ hq => call_gives F.slot_NoneType_eq_refl rfl F.entry_NoneType_eq (F.args_NoneType_eq_2 _ _) (none_eq_bytes a t) hq)
    (fun _ hq => wpAny_of_eq (rfl : isSame (.bytes a t) .none = pure false) hq) (.inl rfl) h
theorem eq_bytes_none (a : Array UInt8) (t : Tok) : EqAt A s (.bytes a t) .none false := fun prog w E Q h => by
  unfold eqBool
  refine wpAny_holding ?_
  refine wpAny_ite_split (fun hab => absurd (eq_of_beq hab) nofun) (fun _ => ?_)
  exact wpAny_bind (rc_bytes_none a t prog w E _ (wpAny_truthy_bool h))
theorem eq_bytes_same (a : Array UInt8) (t u : Tok) : EqAt A s (.bytes a t) (.bytes a u) true := fun prog w E Q h => eqBool_bytes (by rw [decide_eq_true rfl]; exact h)
end
/-- the text and what it tells, as objects -/
def optB (o : Option (List Int)) (y : Value) : Prop := match o with
  | none => y = .none
  | some v => ∃ b t, y = .bytes b t ∧ KBw.bInts b = v
def PcV (p : Pc) (x y : Value) : Prop := (∃ b t, x = .bytes b t ∧ KBw.bInts b = p.1) ∧ optB p.2 y
def PcIn (tl : Led) (p : Pc) (r : Value) : Prop := ∃ T x y, r = .ref T ∧ (T, tup2 x y) ∈ tl ∧ PcV p x y
inductive PcsIn (tl : Led) : List Value → List Pc → Prop
  | nil : PcsIn tl [] []
  | cons {r : Value} {p : Pc} {rs : List Value} {ps : List Pc} : PcIn tl p r → PcsIn tl rs ps → PcsIn tl (r :: rs) (p :: ps)
theorem PcIn.mono {tl tl' : Led} {p : Pc} {r : Value} (h : PcIn tl p r) (k : ∀ q ∈ tl, q ∈ tl') : PcIn tl' p r := by
  obtain ⟨T, x, y, e, hm, hv⟩ := h
  exact ⟨T, x, y, e, k _ hm, hv⟩
theorem PcsIn.mono {tl tl' : Led} {rs : List Value} {ps : List Pc} (h : PcsIn tl rs ps) (k : ∀ q ∈ tl, q ∈ tl') : PcsIn tl' rs ps := by
  induction h with
  | nil => exact .nil
  | cons a _ ih => exact .cons (a.mono k) ih
theorem PcsIn.len {tl : Led} {rs : List Value} {ps : List Pc} (h : PcsIn tl rs ps) : rs.length = ps.length := by
  induction h with
  | nil => rfl
  | cons _ _ ih => rw [List.length_cons, List.length_cons, ih]
theorem PcsIn.at {tl : Led} {rs : List Value} {ps : List Pc} {i : Nat} {r : Value} (h : PcsIn tl rs ps) (e : rs[i]? = some r) : ∃ p, ps[i]? = some p ∧ PcIn tl p r := by
  induction h generalizing i with
  | nil => simp at e
  | cons a _ ih => cases i with
    | zero => rw [List.getElem?_cons_zero] at e; cases e; exact ⟨_, rfl, a⟩
    | succ i => exact ih (by simpa using e)
/-- one of the pieces -/
def IsPc (tl : Led) (r : Value) : Prop := ∃ p ∈ pcs, PcIn tl p r
theorem pcs_of {tl : Led} {rs : List Value} (h : ∀ y ∈ rs, IsPc tl y) : ∃ ps, PcsIn tl rs ps ∧ ∀ p ∈ ps, p ∈ pcs := by
  induction rs with
  | nil => exact ⟨[], .nil, fun _ q => nomatch q⟩
  | cons r rs ih =>
    obtain ⟨ps, h1, h2⟩ := ih fun y hy => h y (List.mem_cons_of_mem _ hy)
    obtain ⟨p, h3, h4⟩ := h r List.mem_cons_self
    refine ⟨p :: ps, .cons h4 h1, fun q hq => ?_⟩
    rcases List.mem_cons.mp hq with rfl | hq
    · exact h3
    · exact h2 q hq
/-- how the pieces stand in the text -/
inductive PcE : PySem.Expr → Pc → Prop
  | good {x y : List UInt8} {k1 k2 k3 : Nat} {p1 p2 p3 : Pos} {t v : List Int} : KBw.bInts x.toArray = t → KBw.bInts y.toArray = v → PcE (.Tuple [.Constant (.bytes x) k1 p1, .Constant (.bytes y) k2 p2] k3 p3) (t, some v)
  | bad {x : List UInt8} {k1 k2 k3 : Nat} {p1 p2 p3 : Pos} {t : List Int} : KBw.bInts x.toArray = t → PcE (.Tuple [.Constant (.bytes x) k1 p1, .Constant .none k2 p2] k3 p3) (t, none)
inductive PcsE : List PySem.Expr → List Pc → Prop
  | nil : PcsE [] []
  | cons {e : PySem.Expr} {p : Pc} {es : List PySem.Expr} {ps : List Pc} : PcE e p → PcsE es ps → PcsE (e :: es) (p :: ps)
section
variable {M : Model} {A : Around} {E : Value → Shared → Prop} {env : Env} {h₀ : Heap} {L : Addr} {m : Str → Option Value}
theorem tuple_pc {e : PySem.Expr} {p : Pc} (he : PcE e p) {s : Shared} {news : Led} {Q : Value → Shared → Prop} (F : Fr h₀ L s.heap m) (N : News h₀ L s.heap news)
    (h : ∀ T x y h' tk, Fr h₀ L h' m → News h₀ L h' ((T, tup2 x y) :: news) → (∀ q ∈ news, q.1 < T) → PcV p x y → Q (.ref T) { s with heap := h', toks := tk }) : wpAny M A (eval e env) Q E s := by
  cases he with
  | good e1 e2 =>
    refine Tuple_ (spliced_more (Constant_bytes (spliced_more (Constant_bytes (spliced_none ?_)))))
    exact kup_newTuple (s := { s with toks := s.toks + 1 + 1 }) F N (fun T h' F' N' lt => h T _ _ h' _ F' N' lt ⟨⟨_, _, rfl, e1⟩, _, _, rfl, e2⟩) (by rw [sizeLine_eq]; simp)
  | bad e1 =>
    refine Tuple_ (spliced_more (Constant_bytes (spliced_more (Constant_none (spliced_none ?_)))))
    exact kup_newTuple (s := { s with toks := s.toks + 1 }) F N (fun T h' F' N' lt => h T _ _ h' _ F' N' lt ⟨⟨_, _, rfl, e1⟩, rfl⟩) (by rw [sizeLine_eq]; simp)
theorem list_pcs {pos : Pos} {es : List PySem.Expr} {ps : List Pc} (he : PcsE es ps) : ∀ {s : Shared} {news : Led} {Q : List Value → Shared → Prop} (_ : Fr h₀ L s.heap m) (_ : News h₀ L s.heap news)
    (_ : ∀ vs tl h' tk, Fr h₀ L h' m → News h₀ L h' (tl ++ news) → (∀ q ∈ news, ∀ p ∈ tl, q.1 < p.1) → PcsIn tl vs ps → Q vs { s with heap := h', toks := tk }), wpAny M A (spliced (backTo pos (starEach es env))) Q E s := by
  induction he with
  | nil =>
    intro s news Q F N h
    exact spliced_none (h [] [] s.heap s.toks F N (fun _ _ _ q => nomatch q) .nil)
  | @cons e p es ps h1 _ ih =>
    intro s news Q F N h
    refine spliced_more ?_ (by cases h1 <;> rfl)
    refine tuple_pc h1 F N fun T x y h' tk F' N' lt hv => ?_
    refine ih (s := { s with heap := h', toks := tk }) F' N' fun vs tl h'' tk' F'' N'' lt' hp => ?_
    refine h _ (tl ++ [(T, tup2 x y)]) h'' tk' F'' (fun q hq => N'' q ?_) (fun q hq p hp => ?_) (.cons ⟨T, x, y, rfl, by simp, hv⟩ (hp.mono fun q hq => by simp [hq]))
    · simp only [List.mem_append, List.mem_cons, List.not_mem_nil, or_false] at hq ⊢
      rcases hq with (hq | hq) | hq <;> simp [hq]
    · rcases List.mem_append.mp hp with hp | hp
      · exact lt' q (List.mem_cons_of_mem _ hq) p hp
      · rw [List.mem_singleton.mp hp]; exact lt q hq
theorem assign_pcs {x : Str} {px lp pos : Pos} {es : List PySem.Expr} {ps : List Pc} {s : Shared} {news : Led} {Q : Flow → Shared → Prop} (he : PcsE es ps) (hl : ps.length ≤ 1000) (F : Fr h₀ L s.heap m) (N : News h₀ L s.heap news) (hs : swapsWith (.List es lp) (some (.Name x px)) pos.line env = pure false)
    (h : ∀ P vs tl h' tk, Fr h₀ L h' m → News h₀ L h' ((P, W.listOf vs.toArray 0) :: (tl ++ news)) → PcsIn tl vs ps → (∀ q ∈ news, ∀ p ∈ tl, q.1 < p.1) → (∀ p ∈ tl ++ news, p.1 < P) → wpAny M A (storeName env x (.ref P)) (fun _ => Q .next) E { s with heap := h', toks := tk }) :
    wpAny M A (exec (.Assign [.Name x px] (.List es lp) pos) env) Q E s := by
  refine wpAny_Assign_Name ?_ hs
  rw [arm_eval_List]
  refine wpAny_bind (wpAny_standAt (wpAny_bind ?_))
  refine list_pcs he F N fun vs tl h' tk F' N' lt hP => ?_
  exact newList_K (s := { s with heap := h', toks := tk }) F' N' (fun P h'' F'' N'' lt' => h P vs tl h'' tk F'' N'' hP lt lt') (by rw [hP.len, sizeLine_eq]; omega)
end
section
variable {prog : Program} {w : World} {A : Around} {E : Value → Shared → Prop} {s : Shared} {h₀ : Heap} {L : Addr} {news tl : Led} {D : Addr} {vs : List Value} {n : Nat} {r : Int} {u : Tok}
/-- a draw of the pieces -/
theorem get_pc {value slice : PySem.Expr} {Q : Value → Shared → Prop} (N : News h₀ L s.heap news) (hm : (D, W.listOf vs.toArray n) ∈ news) (hP : PcsIn tl vs pcs) (h0 : 0 ≤ r) (h1 : r < 16) (h : ∀ x, IsPc tl x → Q x s)
    (hb : subscripted slice false (.ref D) (.int r u) = operate [.ref D, .int r u] (getItem (.ref D) (.int r u)) := by with_unfolding_all rfl) :
    wpAny (model prog w) A (subscriptTail value slice (.ref D) (.int r u)) Q E s := by
  have hl : s.heap.IsList D vs.toArray := ⟨_, (N _ hm).1, rfl, n, rfl⟩
  have e16 : vs.length = 16 := hP.len
  have hi : r.toNat < vs.length := by omega
  obtain ⟨p, e1, e2⟩ := hP.at (List.getElem?_eq_getElem hi)
  exact tail_any hl.typeIs slot_list_getitem.lookup (wpAny_getItem_list hl h0 (by omega) (by simpa using List.getElem?_eq_getElem hi) (h _ ⟨p, List.mem_of_getElem? e1, e2⟩)) hb
/-- what is told, as a list of objects -/
inductive OptsB : List Value → List (Option (List Int)) → Prop
  | nil : OptsB [] []
  | cons {r : Value} {p : Option (List Int)} {rs : List Value} {ps : List (Option (List Int))} : optB p r → OptsB rs ps → OptsB (r :: rs) (p :: ps)
theorem OptsB.snoc {rs : List Value} {ps : List (Option (List Int))} {r : Value} {p : Option (List Int)} (h : OptsB rs ps) (a : optB p r) : OptsB (rs ++ [r]) (ps ++ [p]) := by
  induction h with
  | nil => exact .cons a .nil
  | cons b _ ih => exact .cons b ih
theorem OptsB.len {rs : List Value} {ps : List (Option (List Int))} (h : OptsB rs ps) : rs.length = ps.length := by
  induction h with
  | nil => rfl
  | cons _ _ ih => rw [List.length_cons, List.length_cons, ih]
theorem OptsB.all {rs : List Value} {ps : List (Option (List Int))} (h : OptsB rs ps) (k : (ps.any fun o => o.isNone) = false) : ∃ bs, BysAre rs bs ∧ bs.map KBw.bInts = ps.map fun o => o.getD [] := by
  induction h with
  | nil => exact ⟨[], .nil, rfl⟩
  | @cons r p rs ps a _ ih =>
    rw [List.any_cons, Bool.or_eq_false_iff] at k
    obtain ⟨bs, h1, h2⟩ := ih k.2
    cases p with
    | none => exact absurd k.1 (by decide)
    | some v =>
      obtain ⟨b, t, rfl, e⟩ := a
      exact ⟨b :: bs, .cons b t h1, by rw [List.map_cons, List.map_cons, h2, e]; rfl⟩
/-- what is told, and none of it is None -/
theorem none_notin {os : List (Option (List Int))} {Q : Value → Shared → Prop} (N : News h₀ L s.heap news) (m1 : (D, W.listOf vs.toArray n) ∈ news) (h : OptsB vs os) (hq : Q (.bool (!(os.any fun o => o.isNone))) s) :
    wpAny (model prog w) A (compareOp .NotIn .none (.ref D)) Q E s := by
  refine notIn_listAt (fun y => match y with | .none => true | _ => false) ⟨_, (N _ m1).1, rfl, n, rfl⟩ (fun y hy => ?_) ?_
  · replace hy : y ∈ vs := by simpa using hy
    clear hq m1 N
    induction h with
    | nil => exact nomatch hy
    | @cons r p rs ps a _ ih =>
      rcases List.mem_cons.mp hy with rfl | hy
      · cases p with
        | none => have a : y = .none := a; rw [a]; exact EqAt.same _
        | some v => obtain ⟨b, t, rfl, e⟩ := a; exact eq_bytes_none b t
      · exact ih hy
  · have : (vs.any fun y => match y with | .none => true | _ => false) = os.any fun o => o.isNone := by
      clear hq m1 N
      induction h with
      | nil => rfl
      | @cons r p rs ps a _ ih =>
        rw [List.any_cons, List.any_cons, ih]
        congr 1
        cases p with
        | none => have a : r = .none := a; rw [a]; rfl
        | some v => obtain ⟨b, t, rfl, e⟩ := a; rfl
    rw [List.any_toArray, this]; exact hq
theorem none_notin_t {os : List (Option (List Int))} {Q : Value → Shared → Prop} (N : News h₀ L s.heap news) (m1 : (D, W.listOf vs.toArray n) ∈ news) (h : OptsB vs os) (hA : (os.any fun o => o.isNone) = false) (hq : Q (.bool true) s) :
    wpAny (model prog w) A (compareOp .NotIn .none (.ref D)) Q E s := none_notin N m1 h (by rw [hA]; exact hq)
theorem none_notin_f {os : List (Option (List Int))} {Q : Value → Shared → Prop} (N : News h₀ L s.heap news) (m1 : (D, W.listOf vs.toArray n) ∈ news) (h : OptsB vs os) (hA : (os.any fun o => o.isNone) = true) (hq : Q (.bool false) s) :
    wpAny (model prog w) A (compareOp .NotIn .none (.ref D)) Q E s := none_notin N m1 h (by rw [hA]; exact hq)
theorem join_lists {bs : List (Array UInt8)} {ls : List (List Int)} {b : Array UInt8} {t : Tok} {Q : Value → Shared → Prop} (N : News h₀ L s.heap news) (hm : (D, W.listOf vs.toArray n) ∈ news) (hB : BysAre vs bs) (hM : bs.map KBw.bInts = ls) (hZ : ∀ l ∈ ls, l.length ≤ 6) (hl : ls.length < 6) (hb : b = #[])
    (h : ∀ b' t' ks k', KBw.bInts b' = ks → ks = ls.flatten → ks.length ≤ 36 → Q (.bytes b' t') { s with toks := k' }) : wpAny (model prog w) A (call (.builtin "bytes.join") [.bytes b t, .ref D]) Q E s := by
  subst hb
  have e : bs.length = ls.length := by rw [← hM, List.length_map]
  have hk : ∀ x ∈ bs, x.size ≤ 6 := fun x hx => by
    have := hZ (KBw.bInts x) (by rw [← hM]; exact List.mem_map_of_mem hx)
    rwa [KBw.ints_length] at this
  refine call_join N hm hB hk (by omega) (by omega) (by decide) fun t' k' => h _ t' _ k' rfl (by rw [joined_nil, hM]) ?_
  rw [KBw.ints_length]
  have s2 := joined_size (sep := #[]) hk
  have s3 : bs.length * (6 + (#[] : Array UInt8).size) ≤ 5 * 6 := Nat.mul_le_mul (by omega) (by decide)
  omega
theorem pc_items {ps : List Pc} {i : Nat} {v : Value} {h : Heap} (hP : PcsIn tl vs ps) (e : vs[i]? = some v) (N : News h₀ L h news) (sub : ∀ p ∈ tl, p ∈ news) : ∃ T x y, v = .ref T ∧ h.IsTuple T #[x, y] ∧ ∃ p, ps[i]? = some p ∧ PcV p x y := by
  obtain ⟨p, e1, T, x, y, e2, hm, hv⟩ := hP.at e
  exact ⟨T, x, y, e2, ⟨_, (N _ (sub _ hm)).1, rfl, 0, rfl⟩, p, e1, hv⟩
theorem take_one_more {α : Type} {l : List α} {i : Nat} {x : α} (h : l[i]? = some x) : l.take (i + 1) = l.take i ++ [x] := by
  rw [List.take_succ, h]; rfl
/-- the texts of the pieces, gathered -/
def PTJ (led : Led) (pl : List Pc) (i : Nat) (ys : List Value) (nw : Led) : Prop := nw = led ∧ ∃ bs, BysAre ys bs ∧ bs.map KBw.bInts = (pl.take i).map (·.1)
theorem PTJ_step {led : Led} {pl : List Pc} {i : Nat} {ys : List Value} {nw : Led} {x y : Value} {p : Pc} (h : PTJ led pl i ys nw) (e : pl[i]? = some p) (hv : PcV p x y) : PTJ led pl (i + 1) (ys ++ [x]) nw := by
  obtain ⟨rfl, bs, hB, hM⟩ := h
  obtain ⟨⟨b, t, rfl, hb⟩, _⟩ := hv
  refine ⟨rfl, bs ++ [b], bys_snoc hB, ?_⟩
  rw [take_one_more e, List.map_append, List.map_append, hM, List.map_singleton, List.map_singleton, hb]
/-- what they tell, gathered -/
def OJ (led : Led) (pl : List Pc) (i : Nat) (ys : List Value) (nw : Led) : Prop := nw = led ∧ OptsB ys ((pl.take i).map (·.2))
theorem OJ_step {led : Led} {pl : List Pc} {i : Nat} {ys : List Value} {nw : Led} {x y : Value} {p : Pc} (h : OJ led pl i ys nw) (e : pl[i]? = some p) (hv : PcV p x y) : OJ led pl (i + 1) (ys ++ [y]) nw := by
  obtain ⟨rfl, hO⟩ := h
  refine ⟨rfl, ?_⟩
  rw [take_one_more e, List.map_append, List.map_singleton]
  exact hO.snoc hv.2
/-- two tuples of the same -/
theorem tup2_eq {a1 a2 : Addr} {x y x' y' : Value} {Q : Value → Shared → Prop} (N : News h₀ L s.heap news) (m1 : (a1, tup2 x y) ∈ news) (m2 : (a2, tup2 x' y') ∈ news) (hx : EqAt A.in1 s x x' true) (hy : EqAt A.in1 s y y' true) (hu : A.units + 4 < cLine) (hq : Q (.bool true) s) :
    wpAny (model prog w) A (compareOp .Eq (.ref a1) (.ref a2)) Q E s := by
  show wpAny _ _ (richCompare .Eq _ _) _ _ _
  refine RcAt.tuples (e := fun _ => true) ⟨_, (N _ m1).1, rfl, 0, rfl⟩ ⟨_, (N _ m2).1, rfl, 0, rfl⟩ (by omega) (fun j h1 h2 => ?_) prog w E Q ?_
  · match j, h1, h2 with
    | 0, _, _ => exact hx
    | 1, _, _ => exact hy
  · exact hq
end
end Pb93
end
section
open PySem PySem.W PyProof.Rows PySem.Spec PySem.Calls
namespace Pb93
open Sem (wp)
inductive UI (g : Heap) (L' : Addr) (s : Shared) (D : Addr) (b : Array UInt8) (t : Tok) (ks : List Int) (n : Nat) (s' : Shared) : Prop
  | mk (h : Heap) (tk : Nat) (f : List Int) (a : Nat) (ta : Tok) (u : Str → Option Value) (e0 : s' = { s with heap := h, toks := tk }) (e1 : n = ks.length + 1 - a) (e2 : 1 ≤ a) (e3 : a ≤ ks.length + 1) (e4 : (∀ k ∈ f, 0 ≤ k ∧ k < 256)) (e5 : f.length ≤ a) (e6 : Fr g L' h (fun y => if y = Str.ofString "found" then some (.ref D) else if y = Str.ofString "at" then some (.int (a : Int) ta) else if y = Str.ofString "row" then some (.bytes b t) else u y)) (e7 : News g L' h [(D, arrO (byteArr f))]) (e8 : ∀ R, Unq (ks.drop a) f a R → Unq (ks.drop 1) [] 1 R) : UI g L' s D b t ks n s'
def UnqV (R : Option (List Int × Nat)) (r : Value) (new : Led) : Prop := match R with
  | none => ∃ T t, r = .ref T ∧ new = [(T, tup2 .none (.int 0 t))]
  | some (f, a) => ∃ T t u, r = .ref T ∧ new = [(T, tup2 (.bytes (byteArr f) t) (.int (a : Int) u))]
theorem drop_cons {ks : List Int} {a : Nat} (h : (a : Int) < (ks.length : Int)) : ks.drop a = ks.getD (a : Int).toNat 0 :: ks.drop (a + 1) := by
  have h : a < ks.length := by omega
  rw [Int.toNat_natCast, List.drop_eq_getElem_cons h]
  simp [List.getD, h]
theorem UI_at {A B C O : Option Value} {u : Str → Option Value} : (fun y => if y = Str.ofString "at" then A else if y = Str.ofString "found" then B else if y = Str.ofString "at" then O else if y = Str.ofString "row" then C else u y) =
    fun y => if y = Str.ofString "found" then B else if y = Str.ofString "at" then A else if y = Str.ofString "row" then C else u y := by
  funext y
  by_cases h1 : y = Str.ofString "at"
  · subst h1; rfl
  · simp only [if_neg h1]
theorem UI_num {A B C O Z : Option Value} {u : Str → Option Value} : (fun y => if y = Str.ofString "at" then A else if y = Str.ofString "number" then Z else if y = Str.ofString "found" then B else if y = Str.ofString "at" then O else if y = Str.ofString "row" then C else u y) =
    fun y => if y = Str.ofString "found" then B else if y = Str.ofString "at" then A else if y = Str.ofString "row" then C else (fun y => if y = Str.ofString "number" then Z else u y) y := by
  funext y
  by_cases h1 : y = Str.ofString "at"
  · subst h1; rfl
  · by_cases h2 : y = Str.ofString "found"
    · subst h2; rfl
    · by_cases h3 : y = Str.ofString "row"
      · subst h3; rfl
      · simp only [if_neg h1, if_neg h2, if_neg h3]
theorem UI_step {g : Heap} {L' : Addr} {s : Shared} {D : Addr} {b : Array UInt8} {t ta : Tok} {ks f : List Int} {a d : Nat} {k v : Int} {u : Str → Option Value} {h' : Heap} {tk : Nat} (F : Fr g L' h' (fun y => if y = Str.ofString "found" then some (.ref D) else if y = Str.ofString "at" then some (.int v ta) else if y = Str.ofString "row" then some (.bytes b t) else u y)) (N : News g L' h' [(D, arrO (byteArr (f ++ [k])))])
    (hv : v = ((a + d : Nat) : Int)) (hd : 1 ≤ d) (h1 : 1 ≤ a) (h2 : a + d ≤ ks.length + 1) (hf : ∀ k ∈ f, 0 ≤ k ∧ k < 256) (hk : 0 ≤ k ∧ k < 256) (hl : f.length ≤ a) (hU : ∀ R, Unq (ks.drop a) f a R → Unq (ks.drop 1) [] 1 R) (hS : ∀ R, Unq (ks.drop (a + d)) (f ++ [k]) (a + d) R → Unq (ks.drop a) f a R) :
    ∃ m, m < ks.length + 1 - a ∧ UI g L' s D b t ks m { s with heap := h', toks := tk } := by
  subst hv
  refine ⟨ks.length + 1 - (a + d), by omega, h', tk, f ++ [k], a + d, ta, u, rfl, rfl, by omega, h2, fun x hx => ?_, by rw [List.length_append, List.length_singleton]; omega, F, N, fun R hR => hU R (hS R hR)⟩
  rcases List.mem_append.mp hx with hx | hx
  · exact hf x hx
  · rw [List.mem_singleton.mp hx]; exact hk
theorem slice_some {b : Array UInt8} {ks : List Int} {a : Nat} {l : List UInt8} (h1 : KBw.bInts (KBy.picked b (some ((a : Int) + 1)) (some ((a : Int) + 2))) = List.take (clipAt ks.length ((a : Int) + 2) - clipAt ks.length ((a : Int) + 1)) (List.drop (clipAt ks.length ((a : Int) + 1)) ks)) (hl : l = []) (h2 : ((KBy.picked b (some ((a : Int) + 1)) (some ((a : Int) + 2))).toList != l) = true) : (a : Int) + 1 < (ks.length : Int) := by
  subst hl
  have n0 : (KBw.bInts (KBy.picked b (some ((a : Int) + 1)) (some ((a : Int) + 2)))).length ≠ 0 := by
    intro e
    rw [KBw.ints_length] at e
    have : (KBy.picked b (some ((a : Int) + 1)) (some ((a : Int) + 2))).toList = [] := by
      rw [← List.length_eq_zero_iff, Array.length_toList]; exact e
    rw [this] at h2
    simp at h2
  rw [h1, List.length_take, List.length_drop] at n0
  have e1 : clipAt ks.length ((a : Int) + 1) ≥ ks.length ∨ (a : Int) + 1 < (ks.length : Int) := by
    by_cases q : (a : Int) + 1 < (ks.length : Int)
    · exact .inr q
    · left
      unfold clipAt
      split <;> omega
  rcases e1 with e1 | e1
  · omega
  · exact e1
theorem slice_none {b : Array UInt8} {ks : List Int} {a : Nat} {l : List UInt8} (h1 : KBw.bInts (KBy.picked b (some ((a : Int) + 1)) (some ((a : Int) + 2))) = List.take (clipAt ks.length ((a : Int) + 2) - clipAt ks.length ((a : Int) + 1)) (List.drop (clipAt ks.length ((a : Int) + 1)) ks)) (hl : l = []) (h2 : ((KBy.picked b (some ((a : Int) + 1)) (some ((a : Int) + 2))).toList != l) = false) : ¬ (a : Int) + 1 < (ks.length : Int) := by
  subst hl
  intro q
  have e0 : (KBy.picked b (some ((a : Int) + 1)) (some ((a : Int) + 2))).toList = [] := by simpa using h2
  have n0 : (KBw.bInts (KBy.picked b (some ((a : Int) + 1)) (some ((a : Int) + 2)))).length = 0 := by
    rw [KBw.ints_length, ← Array.length_toList, e0]; rfl
  have e1 : clipAt ks.length ((a : Int) + 1) = a + 1 := by unfold clipAt; split <;> omega
  have e2 : clipAt ks.length ((a : Int) + 2) = a + 2 := by unfold clipAt; split <;> omega
  rw [h1, List.length_take, List.length_drop, e1, e2] at n0
  omega
theorem drop_cons' {ks : List Int} {a : Nat} (h : (a : Int) + 1 < (ks.length : Int)) : ks.drop (a + 1) = ks.getD ((a : Int) + 1).toNat 0 :: ks.drop (a + 2) := drop_cons (ks := ks) (a := a + 1) (by push_cast; exact h)
theorem esc_step {ks f : List Int} {a : Nat} {e v : Int} {R : Option (List Int × Nat)} (h1 : (a : Int) < (ks.length : Int)) (h2 : (a : Int) + 1 < (ks.length : Int)) (h92 : ks.getD (a : Int).toNat 0 = 92) (he : ks.getD ((a : Int) + 1).toNat 0 = e) (hv : escV e = some v) (h : Unq (ks.drop (a + 2)) (f ++ [v]) (a + 2) R) : Unq (ks.drop a) f a R := by
  rw [drop_cons h1]
  refine .esc h92 (v := v) ?_ ?_
  · rw [drop_cons' h2, he]; exact hv
  · rw [List.drop_drop]; exact h
theorem opt_casesU {x : Option Int} {r : Value} (h : optI x r) : (x = none ∧ r = .none) ∨ ∃ n t, x = some n ∧ r = .int n t := by
  cases x with
  | none => exact .inl ⟨rfl, h⟩
  | some n => obtain ⟨t, h⟩ := h; exact .inr ⟨n, t, rfl, h⟩
theorem UI_map {D : Addr} {b : Array UInt8} {t ta : Tok} : (fun y => if y = Str.ofString "found" then some (Value.ref D) else if y = Str.ofString "at" then some (Value.int 1 ta) else List.lookup y [(Str.ofString "row", Value.bytes b t)].reverse) =
    fun y => if y = Str.ofString "found" then some (.ref D) else if y = Str.ofString "at" then some (.int ((1 : Nat) : Int) ta) else if y = Str.ofString "row" then some (.bytes b t) else (fun _ => none) y := by
  funext y
  by_cases h1 : y = Str.ofString "found"
  · rw [if_pos h1, if_pos h1]
  · rw [if_neg h1, if_neg h1]
    by_cases h2 : y = Str.ofString "at"
    · rw [if_pos h2, if_pos h2]; rfl
    · rw [if_neg h2, if_neg h2]
      by_cases h3 : y = Str.ofString "row"
      · subst h3; rfl
      · rw [if_neg h3]
        simp only [List.reverse_cons, List.reverse_nil, List.nil_append, List.lookup_cons, List.lookup_nil, beq_eq_false_iff_ne.mpr h3]
theorem bytes_K {prog : Program} {w : World} {A : Around} {E : Value → Shared → Prop} {s : Shared} {h₀ : Heap} {L D : Addr} {news : Led} {f : List Int} {Q : Value → Shared → Prop} (N : News h₀ L s.heap news) (hm : (D, arrO (byteArr f)) ∈ news) (hz : f.length ≤ 16777216) (hQ : ∀ t k, Q (.bytes (byteArr f) t) { s with toks := k }) : wpAny (model prog w) A (call (.type "bytes") [.ref D]) Q E s :=
  bytes_of_ba (N _ hm).1 (by rw [byteArr_size, sizeLine_eq]; exact hz) hQ
theorem words_D_unq_1 : True := by
  k_with_none
  k_with "EachL" => (k_here; refine each_esc ?_; intro kv ku kV)
  k_with "call type:bytes" => (k_here; k_dflt (refine bytes_K (by k_asm) (by k_mem) (by omega) ?_; intro kbt kbk))
  k_with "call ref" => (k_here; (with_reducible show wpAny _ _ (call (.ref 117) _) _ _ _); k_dflt (refine con_useP (octal_con _ _ _ _ (by kba_ints) (by first | omega | (simp only [List.length_take, List.length_drop]; omega))) (by k_asm) (by k_asm) (by k_asm) (by k_asm) (by k_asm) (by exact rfl) (by dsimp only [ktrTop, Around.deeper]; omega) (by dsimp only [ktrTop, Around.deeper]; omega) ?_; (rintro kr knew kh ktk kF kN kO; (rcases opt_casesU kO with ⟨kE, kR⟩ | ⟨kn, kt, kE, kR⟩ <;> subst kR);all_goals (try dsimp only [List.nil_append, List.cons_append] at kN))))
  k_with "getMethod ref" => (k_here; k_dflt (refine getMethod_append (by k_asm) (by k_mem) ?_))
  trivial
set_option maxHeartbeats 4000000 in
theorem unq_con (w : World) (b : Array UInt8) (t : Tok) (ks : List Int) (hks : KBw.bInts b = ks) (hz : ks.length ≤ 4000) : ConK w 110 [.bytes b t] [] 100 300 (fun r new => ∃ R, Unq (ks.drop 1) [] 1 R ∧ UnqV R r new) := by
  refine con_enterK (i := 10) (nm := "matching_unquoted") (c := 109) [("row", .bytes b t)] (by conv => lhs; whnf) (by k_is) (by k_is) rfl rfl ?_
  intro mean mg mb dp un gd cn cs a ccd cl outer base L s hd hu g L' h₁ F' N' B' X' T'
  refine wpS_execs_cons ?_
  refine Assign_swappedS (names := ["found", "at"]) (TupleS ?_)
  refine spliced_consS (t := eval _ _) (CallS ?_)
  k_fold
  k_steps
  rename Fr _ _ _ _ => F'
  refine callWithS_machine rfl rfl (evalArgs_nil3 ?_)
  refine call_bytearray fun h₂ hk₂ hD => ?_
  have F₂ := F'.keeps hk₂
  have N₂ : News g L' h₂ [(h₁.objs.size, arrO #[])] := fun p hp => by
    rw [List.mem_singleton.mp hp]
    exact ⟨hD, Ne.symm (Nat.ne_of_lt F'.ns.lt), next_is_new F'⟩
  obtain ⟨D, hDe⟩ : ∃ D, h₁.objs.size = D := ⟨_, rfl⟩
  rw [hDe] at N₂
  dsimp only
  rw [hDe]
  clear N' F' hD hk₂
  k_steps
  rename_i Dt _ l1 _ _ hq Fq Nq
  rw [UI_map] at Fq
  refine wpS_execs_cons (wpS_While (UI g L' s D b t ks) ?turn (ks.length + 1 - 1) ⟨hq, _, [], 1, _, _, rfl, rfl, Nat.le_refl _, by omega, by simp, by simp, Fq, fun p hp => Nq p (List.mem_cons_of_mem _ hp), fun R h => h⟩)
  clear Fq Nq
  rintro n s₁ ⟨h, tk, f, at', ta, u, rfl, hn, ha1, ha2, hf, hfl, F, N, hU⟩
  refine wpS_of ?_
  k_fold
  k_steps
  · rename_i hlt _ _ klo khi h34
    refine wpS_execs_cons (wpS_If (wpS_of ?_))
    k_fold
    k_steps
    · refine wpS_execs_cons (wpS_Expr (MethodCallS ?_))
      k_fold
      k_steps
      refine callWithS_machine rfl rfl (evalArgsB ?_)
      k_fold
      k_steps
      refine append_BA (by k_asm) (by k_asm) klo khi (by omega) fun h₃ F₃ N₃ => ⟨rfl, ?_⟩
      rename (ks.getD _ _ ≠ 92) => h92
      refine wpS_of ?_
      k_fold
      k_steps
      rename_i hq Fq Nq
      rw [UI_at] at Fq
      refine wpS_execs_nil ?_
      rw [hn]
      exact UI_step (d := 1) Fq Nq (by push_cast; rfl) (Nat.le_refl _) ha1 (by omega) hf ⟨klo, khi⟩ hfl hU (fun R h => by rw [drop_cons hlt]; exact .plain h34 h92 h)
    · rename (ks.getD _ _ = 92) => h92
      refine wpS_execs_cons (wpS_If (wpS_of ?_))
      k_fold
      k_steps
      · rename (KBw.bInts (KBy.picked _ _ _) = _) => kp
        rename (((KBy.picked _ _ _).toList != _) = true) => kn
        have hlt2 := slice_some kp rfl kn
        k_steps
        · refine wpS_execs_cons (wpS_Expr (MethodCallS ?_))
          k_fold
          k_steps
          refine callWithS_machine rfl rfl (evalArgsB ?_)
          k_fold
          k_steps
          refine append_BA (by k_asm) (by k_asm) (esc_range kV).1 (esc_range kV).2 (by omega) fun h₃ F₃ N₃ => ⟨rfl, ?_⟩
          refine wpS_of ?_
          k_fold
          k_steps
          rename_i hq Fq Nq
          rw [UI_at] at Fq
          refine wpS_execs_nil ?_
          dsimp only
          refine wpS_execs_nil ?_
          dsimp only
          rw [hn]
          exact UI_step (s := s) (d := 2) Fq Nq (by push_cast; rfl) (by decide) ha1 (by omega) hf (esc_range kV) hfl hU (fun R h => esc_step hlt hlt2 h92 rfl kV h)
        · rename ((decide _ || _) = false) => hno
          have hesc := no_esc hlt2 (esc_none hno)
          refine wpS_execs_cons (wpS_of ?_)
          k_fold
          k_steps
          · rename (octP _ = none) => ho
            rw [oct_slice hlt] at ho
            refine wpS_of ?_
            k_fold
            k_steps
            rename_i Dr hr Fr' Nr _
            show LeaveC g s _ _ _
            exact LeaveC.intro Fr' Nr [(Dr, _)] (fun p hp => by rw [List.mem_singleton.mp hp]; exact List.mem_cons_self) ⟨none, hU _ (by rw [drop_cons hlt]; exact .bad h92 hesc ho), Dr, _, rfl, rfl⟩
          · rename (octP _ = some _) => ho
            rw [oct_slice hlt] at ho
            refine wpS_execs_cons (wpS_If (wpS_of ?_))
            k_fold
            k_steps
            refine wpS_execs_nil ?_
            dsimp only
            refine wpS_execs_cons (wpS_Expr (MethodCallS ?_))
            k_fold
            k_steps
            refine callWithS_machine rfl rfl (evalArgsB ?_)
            k_fold
            k_steps
            refine append_BA (by k_asm) (by k_asm) (oct_lt ho).1 (oct_lt ho).2.1 (by omega) fun h₃ F₃ N₃ => ⟨rfl, ?_⟩
            refine wpS_of ?_
            k_fold
            k_steps
            rename_i hq Fq Nq
            rw [UI_num] at Fq
            refine wpS_execs_nil ?_
            dsimp only
            refine wpS_execs_nil ?_
            dsimp only
            rw [hn]
            exact UI_step (s := s) (d := 4) Fq Nq (by push_cast; rfl) (by decide) ha1 (by have q3 := (oct_lt ho).2.2; simp only [List.length_take, List.length_drop] at q3; omega) hf ⟨(oct_lt ho).1, (oct_lt ho).2.1⟩ hfl hU (fun R h => by rw [drop_cons hlt]; exact .oct h92 hesc ho (by rw [List.drop_drop]; exact h))
      · rename (KBw.bInts (KBy.picked _ _ _) = _) => kp
        rename (((KBy.picked _ _ _).toList != _) = false) => kn
        have hesc := no_esc_end (slice_none kp rfl kn)
        refine wpS_execs_cons (wpS_of ?_)
        k_fold
        k_steps
        · rename (octP _ = none) => ho
          rw [oct_slice hlt] at ho
          refine wpS_of ?_
          k_fold
          k_steps
          rename_i Dr hr Fr' Nr _
          show LeaveC g s _ _ _
          exact LeaveC.intro Fr' Nr [(Dr, _)] (fun p hp => by rw [List.mem_singleton.mp hp]; exact List.mem_cons_self) ⟨none, hU _ (by rw [drop_cons hlt]; exact .bad h92 hesc ho), Dr, _, rfl, rfl⟩
        · rename (octP _ = some _) => ho
          rw [oct_slice hlt] at ho
          refine wpS_execs_cons (wpS_If (wpS_of ?_))
          k_fold
          k_steps
          refine wpS_execs_nil ?_
          dsimp only
          refine wpS_execs_cons (wpS_Expr (MethodCallS ?_))
          k_fold
          k_steps
          refine callWithS_machine rfl rfl (evalArgsB ?_)
          k_fold
          k_steps
          refine append_BA (by k_asm) (by k_asm) (oct_lt ho).1 (oct_lt ho).2.1 (by omega) fun h₃ F₃ N₃ => ⟨rfl, ?_⟩
          refine wpS_of ?_
          k_fold
          k_steps
          rename_i hq Fq Nq
          rw [UI_num] at Fq
          refine wpS_execs_nil ?_
          dsimp only
          refine wpS_execs_nil ?_
          dsimp only
          rw [hn]
          exact UI_step (s := s) (d := 4) Fq Nq (by push_cast; rfl) (by decide) ha1 (by have q3 := (oct_lt ho).2.2; simp only [List.length_take, List.length_drop] at q3; omega) hf ⟨(oct_lt ho).1, (oct_lt ho).2.1⟩ hfl hU (fun R h => by rw [drop_cons hlt]; exact .oct h92 hesc ho (by rw [List.drop_drop]; exact h))
  all_goals (refine wpS_of ?_; k_fold; k_steps)
  · rename (((at' : Nat) : Int) < _) => hlt
    rename (ks.getD _ _ = 34) => h34
    rename_i Dr hr Fr' Nr _
    show LeaveC g s _ _ _
    refine LeaveC.intro Fr' Nr [(Dr, _)] (fun p hp => by rw [List.mem_singleton.mp hp]; exact List.mem_cons_self) ⟨some (f, at' + 1), hU _ (by rw [drop_cons hlt]; exact .quote h34), Dr, _, _, rfl, rfl⟩
  · rename (¬ ((at' : Nat) : Int) < _) => hlt
    rename_i Dr hr Fr' Nr _
    show LeaveC g s _ _ _
    refine LeaveC.intro Fr' Nr [(Dr, _)] (fun p hp => by rw [List.mem_singleton.mp hp]; exact List.mem_cons_self) ⟨none, hU _ (by rw [List.drop_eq_nil_of_le (by omega)]; exact .nil), Dr, _, rfl, rfl⟩
end Pb93
end
section
open PySem PySem.W PyProof.Rows PySem.Spec PySem.Calls
namespace Pb93
open PySem.SeqAt
/-- what is due -/
def DueV (e : Bool) (pl : List Pc) (x y : Value) : Prop :=
  if e = true ∧ ((pl.map (·.2)).any fun o => o.isNone) = false then ∃ b t u, x = .bytes b t ∧ KBw.bInts b = pcTold pl ∧ y = .int ((1 + (pcText pl).length + 1 : Nat) : Int) u else x = .none ∧ ∃ u, y = .int 0 u
theorem DueV_no {e : Bool} {pl : List Pc} {u : Tok} (h : ¬ (e = true ∧ ((pl.map (·.2)).any fun o => o.isNone) = false)) : DueV e pl .none (.int 0 u) := by
  unfold DueV
  rw [if_neg h]
  exact ⟨rfl, u, rfl⟩
theorem DueV_yes {pl : List Pc} {b : Array UInt8} {t u : Tok} {ks rk : List Int} (hA : ((pl.map (·.2)).any fun o => o.isNone) = false) (hb : KBw.bInts b = ks) (hk : ks = ((pl.map (·.2)).map fun o => o.getD []).flatten) (hz : rk.length = (pcText pl).length + 1) : DueV true pl (.bytes b t) (.int ((rk.length : Int) + 1) u) := by
  unfold DueV
  rw [if_pos ⟨rfl, hA⟩]
  refine ⟨b, t, u, rfl, ?_, ?_⟩
  · rw [hb, hk, List.map_map]; rfl
  · rw [hz]; congr 1; omega
theorem ba_of_ints {b : Array UInt8} {f : List Int} (h : KBw.bInts b = f) : byteArr f = b := by
  subst h
  unfold byteArr KBw.bInts
  rw [List.map_map]
  have : ((fun n : Int => n.toNat.toUInt8) ∘ fun c : UInt8 => (c.toNat : Int)) = id := by
    funext c
    show ((c.toNat : Int).toNat).toUInt8 = c
    rw [Int.toNat_natCast]
    exact UInt8.ofNat_toNat
  rw [this, List.map_id, Array.toArray_toList]
theorem unq_false {pl : List Pc} {rk ks : List Int} {R : Option (List Int × Nat)} (hAll : ∀ p ∈ pl, p ∈ pcs) (hr : rk = 34 :: pcText pl) (hk : ks = rk) (hU : Unq (ks.drop 1) [] 1 R) : R = if false = true ∧ ((pl.map (·.2)).any fun o => o.isNone) = false then some (pcTold pl, 1 + (pcText pl).length + 1) else none := by
  subst hk
  subst hr
  rw [if_neg (fun q => Bool.noConfusion q.1)]
  exact hU.det (pc_open hAll)
theorem unq_true {pl : List Pc} {rk qk ks rr : List Int} {R : Option (List Int × Nat)} (hAll : ∀ p ∈ pl, p ∈ pcs) (hr : rk = 34 :: pcText pl) (hq : qk = 34 :: rr) (hk : ks = rk ++ qk) (hU : Unq (ks.drop 1) [] 1 R) : R = if true = true ∧ ((pl.map (·.2)).any fun o => o.isNone) = false then some (pcTold pl, 1 + (pcText pl).length + 1) else none := by
  subst hk
  subst hr
  subst hq
  have z := hU.det (pc_ended (rest := rr) hAll)
  have e : ((pl.map (·.2)).any fun o => o.isNone) = pl.any fun p => p.2.isNone := List.any_map ..
  rw [z, e]
  cases (pl.any fun p => p.2.isNone) <;> simp
theorem cmp_due {prog : Program} {w : World} {A : Around} {E : Value → Shared → Prop} {s : Shared} {h₀ : Heap} {L T : Addr} {new : Led} {q : Addr × Obj} {e : Bool} {pl : List Pc} {x y r : Value} {R : Option (List Int × Nat)} {Q : Value → Shared → Prop} (N : News h₀ L s.heap (new ++ [(T, tup2 x y), q])) (hU : UnqV R r new) (hV : DueV e pl x y)
    (hR : R = if e = true ∧ ((pl.map (·.2)).any fun o => o.isNone) = false then some (pcTold pl, 1 + (pcText pl).length + 1) else none) (hu : A.units + 4 < cLine) (hq : Q (.bool true) s) :
    wpAny (model prog w) A (compareOp .Eq r (.ref T)) Q E s := by
  have m2 : (T, tup2 x y) ∈ new ++ [(T, tup2 x y), q] := by simp
  subst hR
  unfold DueV at hV
  by_cases h : e = true ∧ ((pl.map (·.2)).any fun o => o.isNone) = false
  · rw [if_pos h] at hU hV
    obtain ⟨b, t, u, rfl, hb, rfl⟩ := hV
    obtain ⟨T', t', u', rfl, rfl⟩ := hU
    rw [ba_of_ints hb] at N m2
    refine tup2_eq N List.mem_cons_self m2 (eq_bytes_same _ _ _) ?_ hu hq
    have z := EqAt.int_int (A := A.in1) (s := s) ((1 + (pcText pl).length + 1 : Nat) : Int) u' ((1 + (pcText pl).length + 1 : Nat) : Int) u
    rwa [beq_self_eq_true] at z
  · rw [if_neg h] at hU hV
    obtain ⟨rfl, u, rfl⟩ := hV
    obtain ⟨T', t', rfl, rfl⟩ := hU
    refine tup2_eq N List.mem_cons_self m2 (EqAt.same _) ?_ hu hq
    have z := EqAt.int_int (A := A.in1) (s := s) (0 : Int) t' (0 : Int) u
    rwa [beq_self_eq_true] at z
end Pb93
end
section
open PySem PySem.W PyProof.Rows PySem.Spec PySem.Calls
namespace Pb93
local macro_rules | `(tactic| k_all) => `(tactic| with_reducible assumption)
theorem words_D_q_1 : True := by
  k_with_none
  k_with "call ref" => (k_here; (with_reducible show wpAny _ _ (call (.ref 150) _) _ _ _); k_dflt ((refine' draw_use ?D ?h0 ?h1 ?B ?F ?X ?N ?T ?k ?hd ?hu ?U ?_; (case D => assumption); (case h0 => decide); (case h1 => decide); (case B => k_asm); (case F => k_asm); (case X => k_asm); (case N => k_asm); (case T => k_asm); (case k => exact rfl); (case hd => (dsimp only [ktrTop]; omega)); (case hu => (dsimp only [ktrTop]; omega)); (case U => k_updF); intro kr ku kvs kn kh ktk kLo kHi kDk kF kN; (try dsimp only at kN))))
  k_with "getMethod bytes" => (k_here; with_reducible refine meth_join ?_)
  k_with "call builtin:bytes.join" => (k_here; k_dflt (refine join_lists (by k_asm) (by k_mem) (by with_reducible assumption) (by with_reducible assumption) (by with_reducible assumption) (by with_reducible assumption) (by rfl) ?_; intro kjb kjt kjs kjk kjH kjE kjL))
  k_with "exec Assign cons ListComp" => (k_here; (with_reducible show wpAny _ _ (exec (PySem.Stmt.Assign _ (PySem.Expr.ListComp _ [PySem.Comprehension.mk _ (PySem.Expr.Call _ _ _ _) [] _] _ _) _) _) _ _ _); k_dflt (refine LCg.Assign_ListComp_U (F₀ := by k_asm) (by rfl) (by with_unfolding_all rfl) (by with_unfolding_all rfl) (by decide) (by rfl) (by decide) (by rfl) (by rfl) (by rfl) ?_))
  k_with "eval ListComp" => (k_here; (with_reducible show wpAny _ _ (eval (PySem.Expr.ListComp _ [PySem.Comprehension.mk _ _ [] _] _ _) _) _ _ _); k_dflt (refine cmp_eval0 (F₀ := by k_asm) (by with_unfolding_all rfl) (by decide) (by rfl) (by decide) ?_))
  trivial
theorem news_pick {h₀ h : Heap} {L : Addr} {a b c e f : Addr × Obj} {tl : Led} (N : News h₀ L h (a :: b :: c :: e :: f :: tl)) : News h₀ L h (a :: e :: f :: tl) := fun p hp => N p (by
  simp only [List.mem_cons] at hp ⊢
  rcases hp with hp | hp | hp | hp <;> simp [hp])
abbrev GOf {tl : Led} {rs : List Value} {ps : List Pc} (_ : PcsIn tl rs ps) : Value → Prop := IsPc tl
theorem words_D_q_2 : True := by
  k_with "subscriptTail" => (k_here; (with_reducible show wpAny _ _ (subscriptTail _ _ (Value.ref _) (Value.int _ _)) _ _ _); k_dflt (refine get_pc (by k_asm) (by k_mem) (by with_reducible assumption) (by with_reducible assumption) (by with_reducible assumption) ?_; intro kx kIs))
  k_with "TurnD" => (k_here; exact TurnD.mk2 (by with_reducible assumption) (by k_asm) (by k_asm) (by exact fun p hp => hp) (by with_reducible assumption))
  k_with "CompSrc" => (k_here; k_dflt (refine comp_range2 (elt := _) (M := 6) (GOf (ps := pcs) (by assumption)) (by exact rfl) (by k_asm) (by k_asm) (by with_reducible assumption) (by (first | exact UpdF.tail (by k_ne) (UpdF.tail (by k_ne) (UpdF.tail (by k_ne) (UpdF.head (by k_all)))))) (by assumption) (by with_reducible assumption) (by with_reducible assumption) (by decide) ?_ ?_; (focus (intro kI koI kC koC kD km kys kh ktk kvs kn kE kHC kF kN kDk kOff kNe; (try dsimp only [List.nil_append, List.cons_append] at kN); (try simp only [LCg.Off3, and_true] at kOff))); (rotate_left 1); (focus (intro kg kys kvs kn kG kLen kDk)); (rotate_left 1)))
  trivial
inductive MQ1 (g : Heap) (L' : Addr) (s : Shared) (d : Addr) (oD : Obj) (s' : Shared) : Prop
  | mk (P : Addr) (ps : List Value) (tl : Led) (oP : Obj) (vs' : List Value) (n' : Nat) (h' : Heap) (tk' : Nat) (u : Str → Option Value) (e0 : s' = { s with heap := h', toks := tk' }) (e1 : PcsIn tl ps pcs) (e2 : oP.data = .cell (some (.ref P))) (e3 : DeckIs vs') (e4 : (∀ p ∈ tl, p.1 ≠ d)) (e5 : (@LT.lt Nat _ d P)) (e6 : Fr g L' h' u) (e7 : News g L' h' ((P, W.listOf ps.toArray 0) :: (L' + 1 + 1, oP) :: (L' + 1, oD) :: (d, W.listOf vs'.toArray n') :: tl)) : MQ1 g L' s d oD s'
inductive MQ2 (g : Heap) (L' : Addr) (s : Shared) (d : Addr) (oD : Obj) (s' : Shared) : Prop
  | mk (S : Addr) (ys : List Value) (k : Nat) (tl : Led) (pl : List Pc) (vs' : List Value) (n' : Nat) (h' : Heap) (tk' : Nat) (u : Str → Option Value) (e0 : s' = { s with heap := h', toks := tk' }) (e1 : PcsIn tl ys pl) (e2 : (∀ p ∈ pl, p ∈ pcs)) (e3 : pl.length < 6) (e4 : DeckIs vs') (e5 : (∀ p ∈ tl, p.1 ≠ d)) (e6 : (@Ne Nat S d)) (e7 : Fr g L' h' (fun y => if y = Str.ofString "some" then some (.ref S) else u y)) (e8 : News g L' h' ((S, W.listOf ys.toArray k) :: (L' + 1, oD) :: (d, W.listOf vs'.toArray n') :: tl)) : MQ2 g L' s d oD s'
inductive MQ3 (g : Heap) (L' : Addr) (s : Shared) (d : Addr) (oD : Obj) (s' : Shared) : Prop
  | mk (S : Addr) (ys : List Value) (k : Nat) (tl : Led) (pl : List Pc) (rb : Array UInt8) (rt : Tok) (vs' : List Value) (n' : Nat) (h' : Heap) (tk' : Nat) (u : Str → Option Value) (e0 : s' = { s with heap := h', toks := tk' }) (e1 : PcsIn tl ys pl) (e2 : (∀ p ∈ pl, p ∈ pcs)) (e3 : pl.length < 6) (e4 : DeckIs vs') (e5 : KBw.bInts rb = 34 :: pcText pl) (e6 : (∀ p ∈ tl, p.1 ≠ d)) (e7 : (@Ne Nat S d)) (e8 : Fr g L' h' (fun y => if y = Str.ofString "row" then some (.bytes rb rt) else if y = Str.ofString "some" then some (.ref S) else u y)) (e9 : News g L' h' ((S, W.listOf ys.toArray k) :: (L' + 1, oD) :: (d, W.listOf vs'.toArray n') :: tl)) : MQ3 g L' s d oD s'
inductive MQ4 (g : Heap) (L' : Addr) (s : Shared) (d : Addr) (oD : Obj) (s' : Shared) : Prop
  | mk (S : Addr) (ys : List Value) (k : Nat) (tl : Led) (pl : List Pc) (rb : Array UInt8) (rt : Tok) (e : Bool) (vs' : List Value) (n' : Nat) (h' : Heap) (tk' : Nat) (u : Str → Option Value) (e0 : s' = { s with heap := h', toks := tk' }) (e1 : PcsIn tl ys pl) (e2 : (∀ p ∈ pl, p ∈ pcs)) (e3 : pl.length < 6) (e4 : DeckIs vs') (e5 : KBw.bInts rb = 34 :: pcText pl) (e6 : (∀ p ∈ tl, p.1 ≠ d)) (e7 : (@Ne Nat S d)) (e8 : Fr g L' h' (fun y => if y = Str.ofString "is_ended" then some (.bool e) else if y = Str.ofString "row" then some (.bytes rb rt) else if y = Str.ofString "some" then some (.ref S) else u y)) (e9 : News g L' h' ((S, W.listOf ys.toArray k) :: (L' + 1, oD) :: (d, W.listOf vs'.toArray n') :: tl)) : MQ4 g L' s d oD s'
inductive MQ5 (g : Heap) (L' : Addr) (s : Shared) (d : Addr) (oD : Obj) (s' : Shared) : Prop
  | mk (T : Addr) (u0 : Tok) (S : Addr) (ys : List Value) (k : Nat) (tl : Led) (pl : List Pc) (rb : Array UInt8) (rt : Tok) (e : Bool) (vs' : List Value) (n' : Nat) (h' : Heap) (tk' : Nat) (u : Str → Option Value) (e0 : s' = { s with heap := h', toks := tk' }) (e1 : PcsIn tl ys pl) (e2 : (∀ p ∈ pl, p ∈ pcs)) (e3 : pl.length < 6) (e4 : DeckIs vs') (e5 : KBw.bInts rb = 34 :: pcText pl) (e6 : (∀ p ∈ tl, p.1 ≠ d)) (e7 : (@Ne Nat S d)) (e8 : (@Ne Nat T d)) (e9 : Fr g L' h' (fun y => if y = Str.ofString "due" then some (.ref T) else if y = Str.ofString "is_ended" then some (.bool e) else if y = Str.ofString "row" then some (.bytes rb rt) else if y = Str.ofString "some" then some (.ref S) else u y)) (e10 : News g L' h' ((T, tup2 .none (.int 0 u0)) :: (S, W.listOf ys.toArray k) :: (L' + 1, oD) :: (d, W.listOf vs'.toArray n') :: tl)) : MQ5 g L' s d oD s'
inductive MQ6 (g : Heap) (L' : Addr) (s : Shared) (d : Addr) (oD : Obj) (s' : Shared) : Prop
  | mk (T : Addr) (x y : Value) (pl : List Pc) (rb : Array UInt8) (rt : Tok) (e : Bool) (vs' : List Value) (n' : Nat) (h' : Heap) (tk' : Nat) (u : Str → Option Value) (e0 : s' = { s with heap := h', toks := tk' }) (e1 : DueV e pl x y) (e2 : (∀ p ∈ pl, p ∈ pcs)) (e3 : pl.length < 6) (e4 : DeckIs vs') (e5 : KBw.bInts rb = 34 :: pcText pl) (e6 : (@Ne Nat T d)) (e7 : Fr g L' h' (fun y => if y = Str.ofString "due" then some (.ref T) else if y = Str.ofString "is_ended" then some (.bool e) else if y = Str.ofString "row" then some (.bytes rb rt) else u y)) (e8 : News g L' h' [(T, tup2 x y), (L' + 1, oD), (d, W.listOf vs'.toArray n')]) : MQ6 g L' s d oD s'
inductive MQ7 (g : Heap) (L' : Addr) (s : Shared) (d : Addr) (s' : Shared) : Prop
  | mk (T : Addr) (x y : Value) (pl : List Pc) (rb qb : Array UInt8) (rt qt : Tok) (rr : List Int) (e : Bool) (vs' : List Value) (n' : Nat) (h' : Heap) (tk' : Nat) (u : Str → Option Value) (e0 : s' = { s with heap := h', toks := tk' }) (e1 : DueV e pl x y) (e2 : (∀ p ∈ pl, p ∈ pcs)) (e3 : pl.length < 6) (e4 : DeckIs vs') (e5 : KBw.bInts rb = 34 :: pcText pl) (e6 : KBw.bInts qb = 34 :: rr) (e7 : rr.length ≤ 5) (e8 : (@Ne Nat T d)) (e9 : Fr g L' h' (fun y => if y = Str.ofString "rest" then some (.bytes qb qt) else if y = Str.ofString "due" then some (.ref T) else if y = Str.ofString "is_ended" then some (.bool e) else if y = Str.ofString "row" then some (.bytes rb rt) else u y)) (e10 : News g L' h' [(T, tup2 x y), (d, W.listOf vs'.toArray n')]) : MQ7 g L' s d s'
theorem news_pick2 {h₀ h : Heap} {L : Addr} {a b c e : Addr × Obj} {tl : Led} (N : News h₀ L h (a :: b :: c :: e :: tl)) : News h₀ L h [a, c, e] := fun p hp => N p (by
  simp only [List.mem_cons, List.not_mem_nil, or_false] at hp ⊢
  rcases hp with hp | hp | hp <;> simp [hp])
theorem news_pick3 {h₀ h : Heap} {L : Addr} {a b c e : Addr × Obj} (N : News h₀ L h [a, b, c, e]) : News h₀ L h [b, e] := fun p hp => N p (by
  simp only [List.mem_cons, List.not_mem_nil, or_false] at hp ⊢
  rcases hp with hp | hp <;> simp [hp])
theorem news_pick4 {h₀ h : Heap} {L : Addr} {a b c e f i j : Addr × Obj} {tl : Led} (N : News h₀ L h (a :: b :: c :: e :: f :: i :: j :: tl)) : News h₀ L h [a, i, j] := fun p hp => N p (by
  simp only [List.mem_cons, List.not_mem_nil, or_false] at hp ⊢
  rcases hp with hp | hp | hp <;> simp [hp])
theorem fr_due {h₀ h : Heap} {L : Addr} {A B : Option Value} {u : Str → Option Value} (F : Fr h₀ L h (fun y => if y = Str.ofString "due" then A else if y = Str.ofString "due" then B else u y)) : Fr h₀ L h (fun y => if y = Str.ofString "due" then A else u y) := fr_same F fun y => by
  by_cases h1 : y = Str.ofString "due"
  · rw [if_pos h1, if_pos h1]
  · rw [if_neg h1, if_neg h1, if_neg h1]
theorem words_D_q_3 : True := by
  k_with "compareOp NotIn none ref" => (k_here; k_dflt (first | refine none_notin_t (by k_asm) (by k_mem) (by with_reducible assumption) (by with_reducible assumption) ?_ | refine none_notin_f (by k_asm) (by k_mem) (by with_reducible assumption) (by with_reducible assumption) ?_))
  k_with "subscriptTail" => (k_here; (with_reducible show wpAny _ _ (subscriptTail _ _ (Value.ref _) (Value.int _ _)) _ _ _); k_dflt (refine get_bys 5 (by k_asm) (by k_mem) (by with_reducible assumption) (by with_reducible assumption) (by rfl) (by rfl) (by rfl) ?_; rintro kmx ⟨kmb, kmt, kmE, kmZ⟩; subst kmE; obtain ⟨kmk, kmH, kmL⟩ := small_ints kmZ))
  trivial
set_option maxHeartbeats 1000000 in
theorem qright_con (w : World) (d : Addr) (vs : List Value) (n : Nat) (hD : DeckIs vs) : ConK w 194 [.ref d] [(d, W.listOf vs.toArray n)] 120 420 (fun r new => r = .bool true ∧ ∃ vs' n', new = [(d, W.listOf vs'.toArray n')] ∧ DeckIs vs') := by
  refine con_enterCK (i := 25) (nm := "_law_quoted_right") (c := 193) [("deck", .ref d)] (by conv => lhs; whnf) (by k_is) (by k_is) rfl rfl (by decide +kernel) ?_
  intro mean mg mb dp un gd cn cs a ccd cl outer base L s hd hu g L' h₁ tk' cells' F' N' Y' B' X' T' l1
  k_lt l1
  k_cells Y'
  rename_i oP oD eP eD
  try simp only [List.cons_append, List.nil_append] at N'
  try dsimp only
  with_reducible refine stepS (MQ1 g L' s d oD) ?_ ?_
  · with_reducible refine assign_pcs (ps := pcs) ?he ?hl F' N' ?hs ?_
    case he => unfold pcs; repeat' (first | exact PcsE.nil | exact PcE.good (by rfl) (by rfl) | exact PcE.bad (by rfl) | with_reducible refine PcsE.cons ?_ ?_)
    case hl => decide
    case hs => rfl
    intro P ps tl h tk F N hP l2 l3
    have a1 : ∀ p ∈ tl, p.1 ≠ d := fun p hp => Ne.symm (Nat.ne_of_lt (l2 (d, W.listOf vs.toArray n) (by simp) p hp))
    have a2 : ∀ p ∈ tl, p.1 ≠ L' + 1 := fun p hp => Ne.symm (Nat.ne_of_lt (l2 (L' + 1, _) (List.mem_cons_of_mem _ List.mem_cons_self) p hp))
    have a3 : ∀ p ∈ tl, p.1 ≠ L' + 1 + 1 := fun p hp => Ne.symm (Nat.ne_of_lt (l2 (L' + 1 + 1, _) List.mem_cons_self p hp))
    have a4 : ∀ p ∈ tl, p.1 ≠ P := fun p hp => Nat.ne_of_lt (l3 p (List.mem_append_left _ hp))
    have p1 : (@LT.lt Nat _ d P) := l3 (d, W.listOf vs.toArray n) (by simp)
    have p2 : (@LT.lt Nat _ (L' + 1) P) := l3 (L' + 1, _) (List.mem_append_right _ (List.mem_cons_of_mem _ List.mem_cons_self))
    have p3 : (@LT.lt Nat _ (L' + 1 + 1) P) := l3 (L' + 1 + 1, _) (List.mem_append_right _ List.mem_cons_self)
    clear l2 l3
    replace N : News g L' h ((P, W.listOf ps.toArray 0) :: (L' + 1 + 1, oP) :: (L' + 1, oD) :: (d, W.listOf vs.toArray n) :: tl) := fun p hp => N p (by
      simp only [List.mem_cons, List.mem_append, List.not_mem_nil, or_false] at hp ⊢
      rcases hp with hp | hp | hp | hp | hp <;> simp [hp])
    clear F' N'
    k_steps
    rename Fr _ _ _ _ => hF
    rename News _ _ _ _ => hN
    rename (_ = Data.cell (some (Value.ref P))) => hC
    exact ⟨P, ps, tl, _, vs, n, _, _, _, rfl, hP, hC, hD, a1, p1, hF, hN⟩
  rintro s' ⟨P, ps, tl, oP', vs1, n1, h1, tk1, u1, rfl, hP, hC, hD1, a1, p1, F1, N1⟩
  clear F' N'
  with_reducible refine stepS (MQ2 g L' s d oD) ?_ ?_
  · k_fold
    k_steps
    rename Fr _ _ _ _ => hF
    rename News _ _ _ _ => hN
    rename (∀ y ∈ _, GOf _ y) => hG
    obtain ⟨pl, hPl, hAll⟩ := pcs_of hG
    have hLn := hPl.len
    exact ⟨_, _, _, tl, pl, _, _, _, _, u1, rfl, hPl, hAll, by omega, by with_reducible assumption, a1, by omega, hF, news_pick hN⟩
  rintro s' ⟨S, ys, k, tl, pl, vs1, n1, h1, tk1, u1, rfl, hP, hAll, hLen, hD1, a1, s1, F1, N1⟩
  have hLn := hP.len
  with_reducible refine stepS (MQ3 g L' s d oD) ?_ ?_
  · k_fold
    k_steps
    refine src_pairs (PTJ _ pl) (fun i x y => ∃ p, pl[i]? = some p ∧ PcV p x y) rfl (by k_mem) (by omega) F1 N1 rfl rfl rfl (by decide) ⟨rfl, [], .nil, rfl⟩ ?_ ?_ ?_
    · rintro i v ys2 nw h hv ⟨rfl, _⟩ hFr hNw
      exact pc_items hP hv hNw fun p hp => by simp [hp]
    · rintro S₂ i x y I ⟨p, hp, hv⟩ hi hS hlt
      refine CmpTurn.none ?_
      intro C oC Dd m' ys2 nw h tk own E' hJ hle hNs hLook F N hoff hown hne hCf hDf hIo
      obtain ⟨gS, rfl⟩ := hS
      obtain ⟨hL1, hL2⟩ := hLook
      k_steps
      exact CmpEnd.mk2 (PTJ_step hJ hp hv) hoff hNs (by k_asm) (by k_asm) (fun p hp => hp)
    · rintro gS ys2 nw ⟨rfl, bs, hB, hM⟩
      rw [hLn, List.take_length] at hM
      have hZ : ∀ l ∈ pl.map (·.1), l.length ≤ 6 := pc_texts hAll
      have hL6 : (pl.map (·.1)).length < 6 := by rw [List.length_map]; exact hLen
      k_steps
      rename Fr _ _ _ _ => hF
      rename News _ _ _ _ => hN
      rename (_ = (List.map (fun x => x.1) pl).flatten) => hE
      rename (KBw.bInts (#[34] ++ _) = _) => hR
      rw [hE] at hR
      exact ⟨S, ys, k, tl, pl, _, _, vs1, n1, _, _, u1, rfl, hP, hAll, hLen, hD1, hR, a1, s1, hF, fun p hp => hN p (List.mem_cons_of_mem _ hp)⟩
  rintro s' ⟨S, ys, k, tl, pl, rb, rt, vs1, n1, h1, tk1, u1, rfl, hP, hAll, hLen, hD1, hR, a1, s1, F1, N1⟩
  have hLn := hP.len
  with_reducible refine stepS (MQ4 g L' s d oD) ?_ ?_
  · k_fold
    k_steps
    rename Fr _ _ _ _ => hF
    rename News _ _ _ _ => hN
    exact ⟨S, ys, k, tl, pl, rb, rt, _, _, _, _, _, u1, rfl, hP, hAll, hLen, by with_reducible assumption, hR, a1, s1, hF, hN⟩
  rintro s' ⟨S, ys, k, tl, pl, rb, rt, e, vs1, n1, h1, tk1, u1, rfl, hP, hAll, hLen, hD1, hR, a1, s1, F1, N1⟩
  with_reducible refine stepS (MQ5 g L' s d oD) ?_ ?_
  · k_fold
    k_steps
    rename Fr _ _ _ _ => hF
    rename News _ _ _ _ => hN
    rename (_ ∧ _) => hLt
    exact ⟨_, tk1, S, ys, k, tl, pl, rb, rt, e, vs1, n1, _, _, u1, rfl, hP, hAll, hLen, hD1, hR, a1, s1, Ne.symm (Nat.ne_of_lt hLt.2.2.1), hF, hN⟩
  rintro s' ⟨T, u0, S, ys, k, tl, pl, rb, rt, e, vs1, n1, h1, tk1, u1, rfl, hP, hAll, hLen, hD1, hR, a1, s1, s2, F1, N1⟩
  have hLn := hP.len
  with_reducible refine stepS (MQ6 g L' s d oD) ?_ ?_
  · rcases e with _ | _
    · k_fold
      k_steps
      exact ⟨T, .none, .int 0 u0, pl, rb, rt, false, vs1, n1, h1, tk1, _, rfl, DueV_no (fun q => Bool.noConfusion q.1), hAll, hLen, hD1, hR, s2, F1, news_pick2 N1⟩
    · rcases hA : (pl.map (·.2)).any fun o => o.isNone with _ | _
      all_goals (
        k_fold
        k_steps
        refine src_pairs (OJ _ pl) (fun i x y => ∃ p, pl[i]? = some p ∧ PcV p x y) rfl (by k_mem) (by omega) F1 N1 rfl rfl rfl (by decide) ⟨rfl, .nil⟩ ?_ ?_ ?_
        · rintro i v ys2 nw h hv ⟨rfl, _⟩ hFr hNw
          exact pc_items hP hv hNw fun p hp => by simp [hp]
        · rintro S₂ i x y I ⟨p, hp, hv⟩ hi hS hlt
          refine CmpTurn.none ?_
          intro C oC Dd m' ys2 nw h tk own E' hJ hle hNs hLook F N hoff hown hne hCf hDf hIo
          obtain ⟨gS, rfl⟩ := hS
          obtain ⟨hL1, hL2⟩ := hLook
          k_steps
          exact CmpEnd.mk2 (OJ_step hJ hp hv) hoff hNs (by k_asm) (by k_asm) (fun p hp => hp)
        rintro gS ys2 nw ⟨rfl, hO⟩
        rw [hLn, List.take_length] at hO
        k_steps)
      · rename Fr _ _ _ _ => F2
        rename News _ _ _ _ => N2
        clear hO
        refine src_pairs (OJ _ pl) (fun i x y => ∃ p, pl[i]? = some p ∧ PcV p x y) rfl (by k_mem) (by omega) F2 N2 rfl rfl rfl (by decide) ⟨rfl, .nil⟩ ?_ ?_ ?_
        · rintro i v ys2 nw h hv ⟨rfl, _⟩ hFr hNw
          exact pc_items hP hv hNw fun p hp => by simp [hp]
        · rintro S₂ i x y I ⟨p, hp, hv⟩ hi hS hlt
          refine CmpTurn.none ?_
          intro C oC Dd m' ys2 nw h tk own E' hJ hle hNs hLook F N hoff hown hne hCf hDf hIo
          obtain ⟨gS, rfl⟩ := hS
          obtain ⟨hL1, hL2⟩ := hLook
          k_steps
          exact CmpEnd.mk2 (OJ_step hJ hp hv) hoff hNs (by k_asm) (by k_asm) (fun p hp => hp)
        rintro gS ys3 nw ⟨rfl, hO⟩
        rw [hLn, List.take_length] at hO
        obtain ⟨bs, hB, hM⟩ := OptsB.all hO hA
        have hZ := pc_tolds hAll
        obtain ⟨rk, hrk⟩ : ∃ l, l = 34 :: pcText pl := ⟨_, rfl⟩
        have hRz : rk.length = (pcText pl).length + 1 := by rw [hrk]; rfl
        have hRz2 : rk.length ≤ 4000 := by have := (pc_len hAll).1; omega
        rw [← hrk] at hR
        have hL6 : ((pl.map (·.2)).map fun o => o.getD []).length < 6 := by rw [List.length_map, List.length_map]; exact hLen
        k_steps
        rename Fr _ _ _ _ => hF
        rename News _ _ _ _ => hN
        rename (_ = List.flatten _) => hE
        rename (KBw.bInts _ = _) => hH
        rename (_ ∧ _) => hLt
        exact ⟨_, _, _, pl, rb, rt, true, vs1, n1, _, _, _, rfl, DueV_yes hA hH hE hRz, hAll, hLen, hD1, hR.trans hrk, Ne.symm (Nat.ne_of_lt hLt.2.2.2.2.2.1), fr_due hF, news_pick4 hN⟩
      · rename Fr _ _ _ _ => hF
        rename News _ _ _ _ => hN
        exact ⟨T, .none, .int 0 u0, pl, rb, rt, true, vs1, n1, _, _, _, rfl, DueV_no (fun q => Bool.noConfusion (hA.symm.trans q.2)), hAll, hLen, hD1, hR, s2, hF, news_pick2 fun p hp => hN p (List.mem_cons_of_mem _ hp)⟩
  rintro s' ⟨T, x, y, pl, rb, rt, e, vs1, n1, h1, tk1, u1, rfl, hV, hAll, hLen, hD1, hR, s1, F1, N1⟩
  with_reducible refine stepS (MQ7 g L' s d) ?_ ?_
  · k_fold
    k_steps
    rename Fr _ _ _ _ => hF
    rename News _ _ _ _ => hN
    rename (KBw.bInts (#[34] ++ _) = _) => hQ
    rename (List.length _ ≤ 5) => hL5
    exact ⟨T, x, y, pl, rb, _, rt, _, _, e, _, _, _, _, u1, rfl, hV, hAll, hLen, by with_reducible assumption, hR, hQ, hL5, s1, hF, news_pick3 hN⟩
  rintro s' ⟨T, x, y, pl, rb, qb, rt, qt, rr, e, vs1, n1, h1, tk1, u1, rfl, hV, hAll, hLen, hD1, hR, hQ, hQl, s1, F1, N1⟩
  obtain ⟨o, fd, ho, hfd⟩ : ∃ o fd, (K w.params).lookup 110 = some o ∧ o.data = .func fd := ⟨⟨.type "function", none, .func (fnOf "matching_unquoted" "matching_unquoted" (part 10).1 (part 10).2.1 (part 10).2.2 .none .none .none _ none (.ref 109) .none), #[]⟩, _, by k_is, rfl⟩
  obtain ⟨rk, hrk⟩ : ∃ l, l = 34 :: pcText pl := ⟨_, rfl⟩
  have hRz : rk.length = (pcText pl).length + 1 := by rw [hrk]; rfl
  have hRz2 : rk.length ≤ 3000 := by have := (pc_len hAll).1; omega
  rw [← hrk] at hR
  obtain ⟨qk', hqk⟩ : ∃ l, l = 34 :: rr := ⟨_, rfl⟩
  have hQz : qk'.length ≤ 6 := by rw [hqk, List.length_cons]; omega
  rw [← hqk] at hQ
  rcases e with _ | _
  all_goals (
    with_reducible refine wpS_execs_cons ?_
    with_reducible refine wpS_Return ?_
    with_reducible refine CompareS ?_ ?hm
    case hm => with_unfolding_all rfl
    with_reducible refine CallS ?_ ?he
    case he => rfl
    k_fold
    k_steps
    with_reducible refine callWithS_defK o fd ?hp (evalArgsB ?_ ?he)
    case he => rfl
    case hp => rfl
    k_fold
    k_steps
    rename Fr _ _ _ _ => hF
    rename News _ _ _ _ => hN
    rename (KBw.bInts (rb ++ _) = _) => hK
    refine ⟨⟨(Frag.In.keeps X' hF.keep) _ _ ho, hfd⟩, ?_⟩
    refine con_useK (all := [(T, tup2 x y), (d, W.listOf vs1.toArray n1)]) (rest := [(T, tup2 x y), (d, W.listOf vs1.toArray n1)]) (unq_con w _ _ _ hK ?_) (by k_asm) (by k_asm) (by k_asm) (by k_asm) (by k_asm) (by exact rfl) (by dsimp only [ktrTop, Around.deeper]; omega) (by dsimp only [ktrTop, Around.deeper]; omega) (fun _ q => nomatch q) (fun _ q => q) (fun _ _ q => nomatch q) ?_
    · rw [List.length_append]
      first | (simp only [List.map_nil, List.length_nil]; omega) | omega
    clear hF hN
    rintro r new h' tk' F2 N2 _ ⟨R, hU, hUV⟩
    k_fold
    k_steps)
  · refine cmp_due N2 hUV hV (unq_false hAll hrk (by simp) hU) (by dsimp only [ktrTop, Around.deeper]; omega) ?_
    show LeaveC g s _ _ _
    exact LeaveC.intro F2 N2 [(d, W.listOf vs1.toArray n1)] (fun p hp => by rw [List.mem_singleton.mp hp]; simp) ⟨rfl, vs1, n1, rfl, hD1⟩
  · refine cmp_due N2 hUV hV (unq_true hAll hrk hqk rfl hU) (by dsimp only [ktrTop, Around.deeper]; omega) ?_
    show LeaveC g s _ _ _
    exact LeaveC.intro F2 N2 [(d, W.listOf vs1.toArray n1)] (fun p hp => by rw [List.mem_singleton.mp hp]; simp) ⟨rfl, vs1, n1, rfl, hD1⟩
end Pb93
end
section
open PySem PySem.W PyProof.Rows PySem.Spec PySem.Calls
namespace Pb93
theorem law_enter {w : World} {s : Shared} {mean : ExcName → Option Value} {mg mb : Str → Option Value} {fa ax c : Addr} {o : Obj} {pm doc kV : Value} {nm : Str} {params : Arguments} {body : List Stmt} {scope : Scope} {Q E : Value → Shared → Prop}
    (hp : part 27 = (params, body, scope)) (T : Tp mean mg mb s.heap) (ho : s.heap.get? fa = some o) (hd : o.data = .func { docDef nm (part 27).1 (part 27).2.1 (part 27).2.2 pm (.ref c) doc with defaults := .none, kwdefaults := kV }) (hcd : s.heap.CodeRec (.ref c) nm)
    (hbind : bindArgs { docDef nm params body scope pm (Value.ref c) doc with defaults := .none, kwdefaults := kV } ⟨[Value.ref ax], []⟩ = pure [(Str.ofString "script", Value.ref ax)])
    (h : ∀ h₁, Fr s.heap s.heap.objs.size h₁ (fun y => [(Str.ofString "script", Value.ref ax)].reverse.lookup y) → News s.heap s.heap.objs.size h₁ [] → Below callerA s.heap [] s.heap →
      wpS (model pw w) (callerA.deeper (envOf nm scope s.heap.objs.size fa (.ref c))) (execs body (envOf nm scope s.heap.objs.size fa (.ref c))) (fun fl s' => Q (match fl with | .ret v => v | _ => .none) s') (fun _ _ => False) { s with heap := h₁, toks := s.toks + 1 })
    (hloc : ([(Str.ofString "script", Value.ref ax)].all fun x => decide (scope.names.lookup x.1 = some .local)) = true)
    (hco : scope.isCoroutine = false := by rfl) (hgen : scope.isGenerator = false := by rfl) (hk : scope.kind = .function := by rfl) (hcell : ∀ x ∈ scope.names, x.2 ≠ .cell := by decide) :
    wpS (model pw w) callerA (call (.ref fa) [.ref ax]) Q E s := by
  rw [hp] at hd
  refine wpS_call (codeS_call_function (by decide) ho hd hco hgen rfl hcd (BindsTo.of_eq (binds := [(Str.ofString "script", Value.ref ax)]) hbind _ _ _ _ ?_))
  refine wpAny_newFunctionEnv hcell (locs hloc) (fun h₁ hns hsb => ⟨T.nolimit.fresh _ hsb, codeS_func ?_⟩) hk
  exact h h₁ ⟨hns, fun b o e => hsb.extBut b o (Nat.ne_of_lt (Heap.lt_size e)) (Heap.get?_push_of_some _ e), Nat.le_refl _⟩ News.nil (below_caller _)
inductive ML1 (g : Heap) (s : Shared) (s' : Shared) : Prop
  | mk (d : Addr) (vs : List Value) (n : Nat) (h' : Heap) (tk' : Nat) (u : Str → Option Value) (e0 : s' = { s with heap := h', toks := tk' }) (e1 : DeckIs vs) (e2 : Fr g g.objs.size h' (fun y => if y = Str.ofString "deck" then some (.ref d) else u y)) (e3 : News g g.objs.size h' [(d, W.listOf vs.toArray n)]) : ML1 g s s'
theorem deck_use {w : World} {f d : Addr} {vs : List Value} {n dn un' : Nat} (C : ∀ d vs n, DeckIs vs → Con w f [.ref d] [(d, W.listOf vs.toArray n)] dn un' (fun r new => r = .bool true ∧ ∃ vs' n', new = [(d, W.listOf vs'.toArray n')] ∧ DeckIs vs'))
    {mean : ExcName → Option Value} {mg mb : Str → Option Value} {dp un : Nat} {gd : Option (List Code)} {cn : Str} {cs : Scope} {a : Addr} {ccd : Value} {cl : List (Str × Addr)} {outer : List Env} {A₀ : Around} {base h₀ : Heap} {L : Addr} {m : Str → Option Value} {s : Shared} {Q E : Value → Shared → Prop}
    (B : Below A₀ base outer h₀) (F : Fr h₀ L s.heap m) (X : (K w.params).In h₀) (N : News h₀ L s.heap [(d, W.listOf vs.toArray n)]) (T : Tp mean mg mb h₀) (hk : cs.kind = .function) (hd : dp + dn < recursionLimit) (hu : un + un' < cLine) (hD : DeckIs vs)
    (ret : ∀ h' tk' vs' n', Fr h₀ L h' m → News h₀ L h' [(d, W.listOf vs'.toArray n')] → DeckIs vs' → Q (.bool true) { s with heap := h', toks := tk' }) :
    wpAny (model pw w) (ktrTop dp un gd cn cs L a ccd cl outer) (call (.ref f) [.ref d]) Q E s := by
  refine con_use (rest := []) (C d vs n hD) B F X N T hk hd hu (fun _ q => q) (fun _ q => nomatch q) (fun _ q => nomatch q) fun r new h' tk' F' N' _ P => ?_
  obtain ⟨rfl, vs', n', rfl, hD'⟩ := P
  exact ret h' tk' vs' n' F' N' hD'
theorem deck_useK {w : World} {f d : Addr} {vs : List Value} {n dn un' : Nat} (C : ∀ d vs n, DeckIs vs → ConK w f [.ref d] [(d, W.listOf vs.toArray n)] dn un' (fun r new => r = .bool true ∧ ∃ vs' n', new = [(d, W.listOf vs'.toArray n')] ∧ DeckIs vs'))
    {mean : ExcName → Option Value} {mg mb : Str → Option Value} {dp un : Nat} {gd : Option (List Code)} {cn : Str} {cs : Scope} {a : Addr} {ccd : Value} {cl : List (Str × Addr)} {outer : List Env} {A₀ : Around} {base h₀ : Heap} {L : Addr} {m : Str → Option Value} {s : Shared} {Q E : Value → Shared → Prop}
    (B : Below A₀ base outer h₀) (F : Fr h₀ L s.heap m) (X : (K w.params).In h₀) (N : News h₀ L s.heap [(d, W.listOf vs.toArray n)]) (T : Tp mean mg mb h₀) (hk : cs.kind = .function) (hd : dp + dn < recursionLimit) (hu : un + un' < cLine) (hD : DeckIs vs)
    (ret : ∀ h' tk' vs' n', Fr h₀ L h' m → News h₀ L h' [(d, W.listOf vs'.toArray n')] → DeckIs vs' → Q (.bool true) { s with heap := h', toks := tk' }) :
    wpS (model pw w) (ktrTop dp un gd cn cs L a ccd cl outer) (call (.ref f) [.ref d]) Q E s := by
  refine con_useK (rest := []) (C d vs n hD) B F X N T hk hd hu (fun _ q => q) (fun _ q => nomatch q) (fun _ q => nomatch q) fun r new h' tk' F' N' _ P => ?_
  obtain ⟨rfl, vs', n', rfl, hD'⟩ := P
  exact ret h' tk' vs' n' F' N' hD'
theorem deck_made {ys : List Value} {ns : List Int} (hI : IntsAre ys (List.map (fun k => k.fmod (10 ^ Int.toNat 15)) (List.take 40 ns))) : DeckIs ys := by
  have e : (10 : Int) ^ Int.toNat 15 = 1000000000000000 := by decide
  rw [e] at hI
  refine ⟨_, hI, by rw [List.length_map, List.length_take]; omega, fun z hz => ?_⟩
  obtain ⟨k, _, rfl⟩ := List.mem_map.mp hz
  exact ⟨Int.fmod_nonneg_of_pos _ (by decide), Int.fmod_lt_of_pos _ (by decide)⟩
theorem words_D_law_1 : True := by
  k_with_none
  k_with "call ref" => (k_here; (with_reducible show wpAny _ _ (call (.ref 184) _) _ _ _); k_dflt (refine aright_use (by k_asm) (by k_asm) (by k_asm) (by k_asm) (by k_asm) (by k_asm) (by k_asm) (by exact rfl) (by decide) (by decide) (by with_reducible assumption) ?_; intro kh ktk kvs kn kF kN kD))
  k_with "call ref" => (k_here; (with_reducible show wpAny _ _ (call (.ref 189) _) _ _ _); k_dflt (refine deck_use (wright_con _) (by k_asm) (by k_asm) (by k_asm) (by k_asm) (by k_asm) (by exact rfl) (by decide) (by decide) (by with_reducible assumption) ?_; intro kh ktk kvs kn kF kN kD))
  k_with "call ref" => (k_here; (with_reducible show wpAny _ _ (call (.ref 199) _) _ _ _); k_dflt (refine deck_use (tright_con _) (by k_asm) (by k_asm) (by k_asm) (by k_asm) (by k_asm) (by exact rfl) (by decide) (by decide) (by with_reducible assumption) ?_; intro kh ktk kvs kn kF kN kD))
  trivial
set_option maxHeartbeats 1000000 in
theorem law_S {w : World} {s : Shared} {mean : ExcName → Option Value} {mg mb : Str → Option Value} {fa ax c : Addr} {vals : List Value} {ns : List Int} {o : Obj} {pm doc kV : Value} {nm : Str} {Q E : Value → Shared → Prop}
    (X : (K w.params).In s.heap) (T : Tp mean mg mb s.heap) (ho : s.heap.get? fa = some o) (hd : o.data = .func { docDef nm (part 27).1 (part 27).2.1 (part 27).2.2 pm (.ref c) doc with defaults := .none, kwdefaults := kV }) (hcd : s.heap.CodeRec (.ref c) nm)
    (hL : s.heap.IsList ax vals.toArray) (hI : IntsAre vals ns) (hz : ns.length ≤ 63) (ret : ∀ h' tk', (∀ b o, s.heap.get? b = some o → h'.get? b = some o) → Q (.bool true) { s with heap := h', toks := tk' }) :
    wpS (model pw w) callerA (call (.ref fa) [.ref ax]) Q E s := by
  refine law_enter (by conv => lhs; whnf) T ho hd hcd rfl (fun h₁ F N B => ?_) rfl
  clear ho hd hcd
  with_reducible refine stepS (ML1 s.heap s) ?_ ?_
  · k_fold
    k_steps
    rename Fr _ _ _ _ => hF
    rename News _ _ _ _ => hN
    rename (IntsAre _ (List.map _ _)) => hM
    exact ⟨_, _, _, _, _, _, rfl, deck_made hM, hF, fun p hp => hN p (by rw [List.mem_singleton.mp hp]; exact List.mem_cons_self)⟩
  rintro s' ⟨d, vs1, n1, h1, tk1, u1, rfl, hD1, F1, N1⟩
  clear F N
  with_reducible refine stepS (ML1 s.heap s) ?_ ?_
  · k_fold
    k_steps
    rename Fr _ _ _ _ => hF
    rename News _ _ _ _ => hN
    exact ⟨d, _, _, _, _, u1, rfl, by with_reducible assumption, hF, hN⟩
  rintro s' ⟨d, vs1, n1, h1, tk1, u1, rfl, hD1, F1, N1⟩
  obtain ⟨o, fd, ho, hfd⟩ : ∃ o fd, (K w.params).lookup 194 = some o ∧ o.data = .func fd := ⟨⟨.type "function", none, .func (fnOf "_law_quoted_right" "_law_quoted_right" (part 25).1 (part 25).2.1 (part 25).2.2 .none .none .none _ none (.ref 193) .none), #[]⟩, _, by k_is, rfl⟩
  with_reducible refine wpS_execs_cons ?_
  with_reducible refine wpS_Return ?_
  with_reducible refine BoolOp_andS ?_
  with_reducible refine CallS ?_ ?he
  case he => rfl
  k_fold
  k_steps
  with_reducible refine callWithS_defK o fd ?hp (evalArgsB ?_ ?he)
  case he => rfl
  case hp => rfl
  k_fold
  k_steps
  refine ⟨⟨(Frag.In.keeps X F1.keep) _ _ ho, hfd⟩, ?_⟩
  refine deck_useK (qright_con w) (by k_asm) (by k_asm) (by k_asm) (by k_asm) (by k_asm) (by exact rfl) (by decide) (by decide) (by with_reducible assumption) ?_
  intro h2 tk2 vs2 n2 F2 N2 hD2
  clear F1 N1
  k_fold
  k_steps
  rename Fr _ _ _ _ => hF
  exact ret _ _ hF.keep
end Pb93
end
section
open PySem PySem.W PyProof.Rows
set_option maxHeartbeats 8000000 in
theorem Pb93.said93 : PySem.Challenge.rw_pb0093_01.wellSaid = true := by
  unfold OpenLaw.wellSaid
  repeat' (with_reducible refine look_both ?_ ?_)
  · unfold OpenRow.wellSaid
    repeat' (with_reducible refine look_both ?_ ?_)
    all_goals decide +kernel
  all_goals decide +kernel
open Pb93 in
set_option maxHeartbeats 8000000 in
theorem PySem.Challenge.cw_pb0093_01_holds : PySem.Challenge.rw_pb0093_01.Holds := by
  w_on
  refine holds_law (Pb93.said93) fun said => ?_
  refine holds_clean (q := qv) (loose := lo) (Xt := xt) (XP := XL qv []) (Yf := Hook.obs hk) (Ya := Hook.val hk) (YP := Hook.says hk) (N := 20000) left93 (Hook.of hk) (Hook.keeps hk) (fun s e => xl_of s (Bool.and_eq_true_iff.mp e).1) XL.keeps (by rfl) (by rfl) (by rfl) (fun s e => recFacts_of (Bool.and_eq_true_iff.mp e).2) (by rfl) (by first | assumption | decide +kernel) (by decide +kernel) ⟨rfl, rfl, rfl, rfl, rfl, by decide +kernel⟩ ?hw ?hc
  case hw => w_witness2
  case hc =>
    k_fill
    intro w s₀ s₁ mg mb G Y fa o pm cd doc dV kV ho hd hcd hD hmg hg args vals as hpre hlay hrd hwl hlo
    have KX := kIn_of Y
    refine Ground.open G ?_
    intro T B D TE TW
    obtain ⟨_, _, he, B0⟩ := based_of_top T rfl hmg ho hd; have he' : cd = _ := he; subst he'; clear he
    clear hmg
    wrow_args hpre hlay hrd hwl hlo
    have he := Dflts.none hD rfl
    subst he
    rename IntsAre _ _ => hI
    rename Heap.IsList _ _ _ => hL
    rename (¬ (_ < _)) => hc
    refine ⟨law_S KX T ho hd hcd hL hI (by omega) (fun h' tk' hk => ?_), ?_⟩
    · exact GoodW.toG ⟨.inl ⟨_, .bool true, [], rfl, raisesW_false (by wrow_none_raised), .bool true, postW_of (by wrow_shape) (by wtm_val) (by str_meet; first | done | w_fin), unshared_nil⟩, hk, rfl, hg⟩
    · exact GoodW.toG ⟨.inl ⟨_, .bool true, [], rfl, raisesW_false (by wrow_none_raised), .bool true, postW_of (by wrow_shape) (by wtm_val) (by str_meet; first | done | w_fin), unshared_nil⟩, fun _ _ e => e, rfl, hg⟩
end
