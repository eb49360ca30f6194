import PyProof.Rows.All
import Wide.All
import OpenK.AllK
import Wide.FinOn
import PySem.Challenge.RW_pq1183_01
open PySem PySem.W PyProof.Rows
set_option Elab.async false
set_option maxRecDepth 100000
set_option maxHeartbeats 8000000
set_option compiler.extract_closed false
set_option pp.deepTerms false
set_option pp.deepTerms.threshold 8
set_option linter.all false
namespace Mine
/-- a statement of the text, by its place -/
noncomputable def stm (i : Nat) : Stmt := match PySem.Challenge.pw_pq1183_01.main.body[i]? with
  | some s => s
  | none => .Pass ⟨0, 0, 0, 0⟩
noncomputable def sub (s : Stmt) (j : Nat) : Stmt := match s with
  | .ClassDef _ _ _ body _ _ _ _ _ _ _ => (match body[j]? with
    | some s => s
    | none => .Pass ⟨0, 0, 0, 0⟩)
  | _ => .Pass ⟨0, 0, 0, 0⟩
/-- the object that a def's statement makes -/
noncomputable def fnO (s : Stmt) (qual : String) (dV doc pm cd : Value) : Obj := match s with
  | .FunctionDef name params body _ _ _ scope _ _ _ => ⟨.type "function", none, .func ⟨name, Str.ofString qual, params, .stmts body, scope, 3, [], dV, .none, doc, pm, none, cd, .none, 0⟩, #[]⟩
  | _ => ⟨.none, none, .seq #[], #[]⟩
/-- the part of the top's heap that the walks read -/
noncomputable def KK : Params → Frag := fun P =>
  (nat_lit 2, Obj.mk Value.none none (Data.dict #[]) #[]) ::
  (nat_lit 3, Obj.mk (Value.type "dict") none (Data.dict #[DictEntry.mk (PyData.keyHash P (Str.ofString "__name__")) (Value.str (Str.ofString "__name__") 165) (Value.str (Str.ofString "law_pq1183_01") 550), DictEntry.mk (PyData.keyHash P (Str.ofString "__doc__")) (Value.str (Str.ofString "__doc__") 166) Value.none, DictEntry.mk (PyData.keyHash P (Str.ofString "__package__")) (Value.str (Str.ofString "__package__") 167) Value.none, DictEntry.mk (PyData.keyHash P (Str.ofString "__loader__")) (Value.str (Str.ofString "__loader__") 168) (Value.builtin "__main__.__loader__#opaque"), DictEntry.mk (PyData.keyHash P (Str.ofString "__spec__")) (Value.str (Str.ofString "__spec__") 169) Value.none, DictEntry.mk (PyData.keyHash P (Str.ofString "__annotations__")) (Value.str (Str.ofString "__annotations__") 170) (Value.ref 6), DictEntry.mk (PyData.keyHash P (Str.ofString "__builtins__")) (Value.str (Str.ofString "__builtins__") 171) (Value.ref 4), DictEntry.mk (PyData.keyHash P (Str.ofString "__file__")) (Value.str (Str.ofString "__file__") 173) (Value.str (Str.ofString "/claim/cut.py") 172), DictEntry.mk (PyData.keyHash P (Str.ofString "__cached__")) (Value.str (Str.ofString "__cached__") 174) Value.none, DictEntry.mk (PyData.keyHash P (Str.ofString "_wall")) (Value.str (Str.ofString "_wall") 193) (Value.ref 21), DictEntry.mk (PyData.keyHash P (Str.ofString "MOST_FIGURES")) (Value.str (Str.ofString "MOST_FIGURES") 197) (Value.int 1000 196), DictEntry.mk (PyData.keyHash P (Str.ofString "number_of")) (Value.str (Str.ofString "number_of") 207) (Value.ref 28), DictEntry.mk (PyData.keyHash P (Str.ofString "SHIFT")) (Value.str (Str.ofString "SHIFT") 211) (Value.int 1 210), DictEntry.mk (PyData.keyHash P (Str.ofString "META")) (Value.str (Str.ofString "META") 213) (Value.int 2 212), DictEntry.mk (PyData.keyHash P (Str.ofString "CONTROL")) (Value.str (Str.ofString "CONTROL") 215) (Value.int 4 214), DictEntry.mk (PyData.keyHash P (Str.ofString "KEY_PRESSED")) (Value.str (Str.ofString "KEY_PRESSED") 217) (Value.int 1 216), DictEntry.mk (PyData.keyHash P (Str.ofString "KEY_RELEASED")) (Value.str (Str.ofString "KEY_RELEASED") 219) (Value.int 3 218), DictEntry.mk (PyData.keyHash P (Str.ofString "KEY_LETTERS")) (Value.str (Str.ofString "KEY_LETTERS") 240) (Value.ref 39), DictEntry.mk (PyData.keyHash P (Str.ofString "KEY_NUMBERS")) (Value.str (Str.ofString "KEY_NUMBERS") 281) (Value.ref 60), DictEntry.mk (PyData.keyHash P (Str.ofString "KEY_CODES")) (Value.str (Str.ofString "KEY_CODES") 290) (Value.ref 65), DictEntry.mk (PyData.keyHash P (Str.ofString "KEY_PAD")) (Value.str (Str.ofString "KEY_PAD") 363) (Value.ref 84), DictEntry.mk (PyData.keyHash P (Str.ofString "Key")) (Value.str (Str.ofString "Key") 414) (Value.ref 116), DictEntry.mk (PyData.keyHash P (Str.ofString "key_is_capital")) (Value.str (Str.ofString "key_is_capital") 421) (Value.ref 127), DictEntry.mk (PyData.keyHash P (Str.ofString "key_is_small")) (Value.str (Str.ofString "key_is_small") 428) (Value.ref 134), DictEntry.mk (PyData.keyHash P (Str.ofString "key_settled")) (Value.str (Str.ofString "key_settled") 438) (Value.ref 142), DictEntry.mk (PyData.keyHash P (Str.ofString "key_of_code")) (Value.str (Str.ofString "key_of_code") 452) (Value.ref 150), DictEntry.mk (PyData.keyHash P (Str.ofString "key_name")) (Value.str (Str.ofString "key_name") 462) (Value.ref 157), DictEntry.mk (PyData.keyHash P (Str.ofString "KEY_HELD")) (Value.str (Str.ofString "KEY_HELD") 467) (Value.int 7 466), DictEntry.mk (PyData.keyHash P (Str.ofString "KEY_OTHER_NUMBERS")) (Value.str (Str.ofString "KEY_OTHER_NUMBERS") 484) (Value.ref 166), DictEntry.mk (PyData.keyHash P (Str.ofString "key_fields")) (Value.str (Str.ofString "key_fields") 496) (Value.ref 173), DictEntry.mk (PyData.keyHash P (Str.ofString "key_field")) (Value.str (Str.ofString "key_field") 506) (Value.ref 180), DictEntry.mk (PyData.keyHash P (Str.ofString "key_by_letter")) (Value.str (Str.ofString "key_by_letter") 517) (Value.ref 187), DictEntry.mk (PyData.keyHash P (Str.ofString "key_by_number")) (Value.str (Str.ofString "key_by_number") 528) (Value.ref 194), DictEntry.mk (PyData.keyHash P (Str.ofString "key_by_code")) (Value.str (Str.ofString "key_by_code") 538) (Value.ref 201), DictEntry.mk (PyData.keyHash P (Str.ofString "key_of_csi")) (Value.str (Str.ofString "key_of_csi") 549) (Value.ref 208), DictEntry.mk (PyData.keyHash P (Str.ofString "_law_letters")) (Value.str (Str.ofString "_law_letters") 557) (Value.ref 215), DictEntry.mk (PyData.keyHash P (Str.ofString "_law_finals")) (Value.str (Str.ofString "_law_finals") 575) (Value.ref 216), DictEntry.mk (PyData.keyHash P (Str.ofString "_law_firsts")) (Value.str (Str.ofString "_law_firsts") 583) (Value.ref 217), DictEntry.mk (PyData.keyHash P (Str.ofString "_law_numbers")) (Value.str (Str.ofString "_law_numbers") 608) (Value.ref 218), DictEntry.mk (PyData.keyHash P (Str.ofString "_law_codes")) (Value.str (Str.ofString "_law_codes") 627) (Value.ref 219), DictEntry.mk (PyData.keyHash P (Str.ofString "_law_seconds")) (Value.str (Str.ofString "_law_seconds") 642) (Value.ref 220), DictEntry.mk (PyData.keyHash P (Str.ofString "_law_tape")) (Value.str (Str.ofString "_law_tape") 648) (Value.ref 225), DictEntry.mk (PyData.keyHash P (Str.ofString "_law_next")) (Value.str (Str.ofString "_law_next") 656) (Value.ref 232), DictEntry.mk (PyData.keyHash P (Str.ofString "_law_pick")) (Value.str (Str.ofString "_law_pick") 664) (Value.ref 239), DictEntry.mk (PyData.keyHash P (Str.ofString "_law_fields")) (Value.str (Str.ofString "_law_fields") 670) (Value.ref 244), DictEntry.mk (PyData.keyHash P (Str.ofString "_law_by_number")) (Value.str (Str.ofString "_law_by_number") 682) (Value.ref 251), DictEntry.mk (PyData.keyHash P (Str.ofString "_law_by_code")) (Value.str (Str.ofString "_law_by_code") 695) (Value.ref 258), DictEntry.mk (PyData.keyHash P (Str.ofString "_law_due")) (Value.str (Str.ofString "_law_due") 712) (Value.ref 265), DictEntry.mk (PyData.keyHash P (Str.ofString "law")) (Value.str (Str.ofString "law") 718) (Value.ref 270)] 49) #[]) ::
  (nat_lit 27, Obj.mk (Value.type "code") none (Data.fields #[(Value.str (Str.ofString "number_of") 198), (Value.str (Str.ofString "number_of") 199), (Value.str (Str.ofString "/claim/cut.py") 200), (Value.int 6 0), (Value.int 1 0), (Value.int 0 0), (Value.int 0 0), (Value.int 3 0), (Value.ref 22), (Value.bool true), (Value.int 181 0), (Value.ref 23), Value.none, (Value.ref 24), (Value.ref 25), (Value.ref 26), (Value.int 205 0), (Value.int 6 0), (Value.str (Str.ofString "/claim/cut.py") 206)]) #[]) ::
  (nat_lit 28, fnO (stm 3) "number_of" Value.none Value.none (Value.str (Str.ofString "termcore.base") 194) (Value.ref 27)) ::
  (nat_lit 29, Obj.mk (Value.type "tuple") none (Data.seq #[(Value.bytes #[85, 112] 220), (Value.int 65 221)]) #[]) ::
  (nat_lit 30, Obj.mk (Value.type "tuple") none (Data.seq #[(Value.bytes #[68, 111, 119, 110] 222), (Value.int 66 223)]) #[]) ::
  (nat_lit 31, Obj.mk (Value.type "tuple") none (Data.seq #[(Value.bytes #[82, 105, 103, 104, 116] 224), (Value.int 67 225)]) #[]) ::
  (nat_lit 32, Obj.mk (Value.type "tuple") none (Data.seq #[(Value.bytes #[76, 101, 102, 116] 226), (Value.int 68 227)]) #[]) ::
  (nat_lit 33, Obj.mk (Value.type "tuple") none (Data.seq #[(Value.bytes #[69, 110, 100] 228), (Value.int 70 229)]) #[]) ::
  (nat_lit 34, Obj.mk (Value.type "tuple") none (Data.seq #[(Value.bytes #[72, 111, 109, 101] 230), (Value.int 72 231)]) #[]) ::
  (nat_lit 35, Obj.mk (Value.type "tuple") none (Data.seq #[(Value.bytes #[70, 49] 232), (Value.int 80 233)]) #[]) ::
  (nat_lit 36, Obj.mk (Value.type "tuple") none (Data.seq #[(Value.bytes #[70, 50] 234), (Value.int 81 235)]) #[]) ::
  (nat_lit 37, Obj.mk (Value.type "tuple") none (Data.seq #[(Value.bytes #[70, 51] 236), (Value.int 82 237)]) #[]) ::
  (nat_lit 38, Obj.mk (Value.type "tuple") none (Data.seq #[(Value.bytes #[70, 52] 238), (Value.int 83 239)]) #[]) ::
  (nat_lit 39, Obj.mk (Value.type "tuple") none (Data.seq #[(Value.ref 29), (Value.ref 30), (Value.ref 31), (Value.ref 32), (Value.ref 33), (Value.ref 34), (Value.ref 35), (Value.ref 36), (Value.ref 37), (Value.ref 38)]) #[]) ::
  (nat_lit 40, Obj.mk (Value.type "tuple") none (Data.seq #[(Value.bytes #[73, 110, 115, 101, 114, 116] 241), (Value.int 2 242)]) #[]) ::
  (nat_lit 41, Obj.mk (Value.type "tuple") none (Data.seq #[(Value.bytes #[68, 101, 108, 101, 116, 101] 243), (Value.int 3 244)]) #[]) ::
  (nat_lit 42, Obj.mk (Value.type "tuple") none (Data.seq #[(Value.bytes #[80, 97, 103, 101, 85, 112] 245), (Value.int 5 246)]) #[]) ::
  (nat_lit 43, Obj.mk (Value.type "tuple") none (Data.seq #[(Value.bytes #[80, 97, 103, 101, 68, 111, 119, 110] 247), (Value.int 6 248)]) #[]) ::
  (nat_lit 44, Obj.mk (Value.type "tuple") none (Data.seq #[(Value.bytes #[70, 53] 249), (Value.int 15 250)]) #[]) ::
  (nat_lit 45, Obj.mk (Value.type "tuple") none (Data.seq #[(Value.bytes #[70, 54] 251), (Value.int 17 252)]) #[]) ::
  (nat_lit 46, Obj.mk (Value.type "tuple") none (Data.seq #[(Value.bytes #[70, 55] 253), (Value.int 18 254)]) #[]) ::
  (nat_lit 47, Obj.mk (Value.type "tuple") none (Data.seq #[(Value.bytes #[70, 56] 255), (Value.int 19 256)]) #[]) ::
  (nat_lit 48, Obj.mk (Value.type "tuple") none (Data.seq #[(Value.bytes #[70, 57] 257), (Value.int 20 258)]) #[]) ::
  (nat_lit 49, Obj.mk (Value.type "tuple") none (Data.seq #[(Value.bytes #[70, 49, 48] 259), (Value.int 21 260)]) #[]) ::
  (nat_lit 50, Obj.mk (Value.type "tuple") none (Data.seq #[(Value.bytes #[70, 49, 49] 261), (Value.int 23 262)]) #[]) ::
  (nat_lit 51, Obj.mk (Value.type "tuple") none (Data.seq #[(Value.bytes #[70, 49, 50] 263), (Value.int 24 264)]) #[]) ::
  (nat_lit 52, Obj.mk (Value.type "tuple") none (Data.seq #[(Value.bytes #[70, 49, 51] 265), (Value.int 25 266)]) #[]) ::
  (nat_lit 53, Obj.mk (Value.type "tuple") none (Data.seq #[(Value.bytes #[70, 49, 52] 267), (Value.int 26 268)]) #[]) ::
  (nat_lit 54, Obj.mk (Value.type "tuple") none (Data.seq #[(Value.bytes #[70, 49, 53] 269), (Value.int 28 270)]) #[]) ::
  (nat_lit 55, Obj.mk (Value.type "tuple") none (Data.seq #[(Value.bytes #[70, 49, 54] 271), (Value.int 29 272)]) #[]) ::
  (nat_lit 56, Obj.mk (Value.type "tuple") none (Data.seq #[(Value.bytes #[70, 49, 55] 273), (Value.int 31 274)]) #[]) ::
  (nat_lit 57, Obj.mk (Value.type "tuple") none (Data.seq #[(Value.bytes #[70, 49, 56] 275), (Value.int 32 276)]) #[]) ::
  (nat_lit 58, Obj.mk (Value.type "tuple") none (Data.seq #[(Value.bytes #[70, 49, 57] 277), (Value.int 33 278)]) #[]) ::
  (nat_lit 59, Obj.mk (Value.type "tuple") none (Data.seq #[(Value.bytes #[70, 50, 48] 279), (Value.int 34 280)]) #[]) ::
  (nat_lit 60, Obj.mk (Value.type "tuple") none (Data.seq #[(Value.ref 40), (Value.ref 41), (Value.ref 42), (Value.ref 43), (Value.ref 44), (Value.ref 45), (Value.ref 46), (Value.ref 47), (Value.ref 48), (Value.ref 49), (Value.ref 50), (Value.ref 51), (Value.ref 52), (Value.ref 53), (Value.ref 54), (Value.ref 55), (Value.ref 56), (Value.ref 57), (Value.ref 58), (Value.ref 59)]) #[]) ::
  (nat_lit 61, Obj.mk (Value.type "tuple") none (Data.seq #[(Value.bytes #[84, 97, 98] 282), (Value.int 9 283)]) #[]) ::
  (nat_lit 62, Obj.mk (Value.type "tuple") none (Data.seq #[(Value.bytes #[69, 110, 116, 101, 114] 284), (Value.int 13 285)]) #[]) ::
  (nat_lit 63, Obj.mk (Value.type "tuple") none (Data.seq #[(Value.bytes #[69, 115, 99, 97, 112, 101] 286), (Value.int 27 287)]) #[]) ::
  (nat_lit 64, Obj.mk (Value.type "tuple") none (Data.seq #[(Value.bytes #[66, 83, 112, 97, 99, 101] 288), (Value.int 127 289)]) #[]) ::
  (nat_lit 65, Obj.mk (Value.type "tuple") none (Data.seq #[(Value.ref 61), (Value.ref 62), (Value.ref 63), (Value.ref 64)]) #[]) ::
  (nat_lit 66, Obj.mk (Value.type "tuple") none (Data.seq #[(Value.bytes #[75, 80, 48] 291), (Value.int 112 292), (Value.int 48 293), (Value.int 57399 294)]) #[]) ::
  (nat_lit 67, Obj.mk (Value.type "tuple") none (Data.seq #[(Value.bytes #[75, 80, 49] 295), (Value.int 113 296), (Value.int 49 297), (Value.int 57400 298)]) #[]) ::
  (nat_lit 68, Obj.mk (Value.type "tuple") none (Data.seq #[(Value.bytes #[75, 80, 50] 299), (Value.int 114 300), (Value.int 50 301), (Value.int 57401 302)]) #[]) ::
  (nat_lit 69, Obj.mk (Value.type "tuple") none (Data.seq #[(Value.bytes #[75, 80, 51] 303), (Value.int 115 304), (Value.int 51 305), (Value.int 57402 306)]) #[]) ::
  (nat_lit 70, Obj.mk (Value.type "tuple") none (Data.seq #[(Value.bytes #[75, 80, 52] 307), (Value.int 116 308), (Value.int 52 309), (Value.int 57403 310)]) #[]) ::
  (nat_lit 71, Obj.mk (Value.type "tuple") none (Data.seq #[(Value.bytes #[75, 80, 53] 311), (Value.int 117 312), (Value.int 53 313), (Value.int 57404 314)]) #[]) ::
  (nat_lit 72, Obj.mk (Value.type "tuple") none (Data.seq #[(Value.bytes #[75, 80, 54] 315), (Value.int 118 316), (Value.int 54 317), (Value.int 57405 318)]) #[]) ::
  (nat_lit 73, Obj.mk (Value.type "tuple") none (Data.seq #[(Value.bytes #[75, 80, 55] 319), (Value.int 119 320), (Value.int 55 321), (Value.int 57406 322)]) #[]) ::
  (nat_lit 74, Obj.mk (Value.type "tuple") none (Data.seq #[(Value.bytes #[75, 80, 56] 323), (Value.int 120 324), (Value.int 56 325), (Value.int 57407 326)]) #[]) ::
  (nat_lit 75, Obj.mk (Value.type "tuple") none (Data.seq #[(Value.bytes #[75, 80, 57] 327), (Value.int 121 328), (Value.int 57 329), (Value.int 57408 330)]) #[]) ::
  (nat_lit 76, Obj.mk (Value.type "tuple") none (Data.seq #[(Value.bytes #[75, 80, 46] 331), (Value.int 110 332), (Value.int 46 333), (Value.int 57409 334)]) #[]) ::
  (nat_lit 77, Obj.mk (Value.type "tuple") none (Data.seq #[(Value.bytes #[75, 80, 47] 335), (Value.int 111 336), (Value.int 47 337), (Value.int 57410 338)]) #[]) ::
  (nat_lit 78, Obj.mk (Value.type "tuple") none (Data.seq #[(Value.bytes #[75, 80, 42] 339), (Value.int 106 340), (Value.int 42 341), (Value.int 57411 342)]) #[]) ::
  (nat_lit 79, Obj.mk (Value.type "tuple") none (Data.seq #[(Value.bytes #[75, 80, 45] 343), (Value.int 109 344), (Value.int 45 345), (Value.int 57412 346)]) #[]) ::
  (nat_lit 80, Obj.mk (Value.type "tuple") none (Data.seq #[(Value.bytes #[75, 80, 43] 347), (Value.int 107 348), (Value.int 43 349), (Value.int 57413 350)]) #[]) ::
  (nat_lit 81, Obj.mk (Value.type "tuple") none (Data.seq #[(Value.bytes #[75, 80, 69, 110, 116, 101, 114] 351), (Value.int 77 352), (Value.int 13 353), (Value.int 57414 354)]) #[]) ::
  (nat_lit 82, Obj.mk (Value.type "tuple") none (Data.seq #[(Value.bytes #[75, 80, 61] 355), (Value.int 88 356), (Value.int 61 357), (Value.int 57415 358)]) #[]) ::
  (nat_lit 83, Obj.mk (Value.type "tuple") none (Data.seq #[(Value.bytes #[75, 80, 44] 359), (Value.int 108 360), (Value.int 44 361), (Value.int 57416 362)]) #[]) ::
  (nat_lit 84, Obj.mk (Value.type "tuple") none (Data.seq #[(Value.ref 66), (Value.ref 67), (Value.ref 68), (Value.ref 69), (Value.ref 70), (Value.ref 71), (Value.ref 72), (Value.ref 73), (Value.ref 74), (Value.ref 75), (Value.ref 76), (Value.ref 77), (Value.ref 78), (Value.ref 79), (Value.ref 80), (Value.ref 81), (Value.ref 82), (Value.ref 83)]) #[]) ::
  (nat_lit 92, Obj.mk (Value.type "tuple") none (Data.seq #[(Value.int 0 376), (Value.int 1 216)]) #[]) ::
  (nat_lit 98, Obj.mk (Value.type "code") none (Data.fields #[(Value.str (Str.ofString "__init__") 377), (Value.str (Str.ofString "Key.__init__") 378), (Value.str (Str.ofString "/claim/cut.py") 379), (Value.int 30 0), (Value.int 5 0), (Value.int 0 0), (Value.int 0 0), (Value.int 3 0), (Value.ref 93), (Value.bool true), (Value.int 181 0), (Value.ref 94), Value.none, (Value.ref 95), (Value.ref 96), (Value.ref 97), (Value.int 385 0), (Value.int 30 0), (Value.str (Str.ofString "/claim/cut.py") 386)]) #[]) ::
  (nat_lit 99, fnO (sub (stm 14) 0) "Key.__init__" (Value.ref 92) Value.none (Value.str (Str.ofString "termcore.keyboard") 208) (Value.ref 98)) ::
  (nat_lit 115, Obj.mk (Value.type "dict") none (Data.dict #[DictEntry.mk (PyData.keyHash P (Str.ofString "__module__")) (Value.str (Str.ofString "__module__") 371) (Value.str (Str.ofString "termcore.keyboard") 208), DictEntry.mk (PyData.keyHash P (Str.ofString "__firstlineno__")) (Value.str (Str.ofString "__firstlineno__") 375) (Value.int 28 374), DictEntry.mk (PyData.keyHash P (Str.ofString "__init__")) (Value.str (Str.ofString "__init__") 387) (Value.ref 99), DictEntry.mk (PyData.keyHash P (Str.ofString "with_held")) (Value.str (Str.ofString "with_held") 395) (Value.ref 106), DictEntry.mk (PyData.keyHash P (Str.ofString "told")) (Value.str (Str.ofString "told") 402) (Value.ref 113), DictEntry.mk (PyData.keyHash P (Str.ofString "__static_attributes__")) (Value.str (Str.ofString "__static_attributes__") 407) (Value.ref 114), DictEntry.mk (PyData.keyHash P (Str.ofString "__dict__")) (Value.str (Str.ofString "__dict__") 409) (Value.ref 117), DictEntry.mk (PyData.keyHash P (Str.ofString "__weakref__")) (Value.str (Str.ofString "__weakref__") 411) (Value.ref 118), DictEntry.mk (PyData.keyHash P (Str.ofString "__doc__")) (Value.str (Str.ofString "__doc__") 412) Value.none] 4) #[]) ::
  (nat_lit 116, Obj.mk (Value.type "type") none (Data.cls (ClassData.mk (Str.ofString "Key") [(Value.type "object")] [(Value.ref 116), (Value.type "object")] 115 (Str.ofString "Key") true [] [] false none false)) #[none, none, some (Value.str (Str.ofString "Key") 364), some (Value.str (Str.ofString "Key") 372), some (Value.builtin "object.__new__"), some (Value.bool true)]) ::
  (nat_lit 117, Obj.mk (Value.type "getset_descriptor") none (Data.fields #[(Value.str (Str.ofString "__dict__") 408), (Value.ref 116), (Value.builtin "function.__dict__"), (Value.builtin "function.__dict__#set")]) #[]) ::
  (nat_lit 118, Obj.mk (Value.type "getset_descriptor") none (Data.fields #[(Value.str (Str.ofString "__weakref__") 410), (Value.ref 116), (Value.builtin "ExceptionGroup.__weakref__"), Value.none]) #[]) ::
  (nat_lit 126, Obj.mk (Value.type "code") none (Data.fields #[(Value.str (Str.ofString "key_is_capital") 415), (Value.str (Str.ofString "key_is_capital") 416), (Value.str (Str.ofString "/claim/cut.py") 417), (Value.int 41 0), (Value.int 1 0), (Value.int 0 0), (Value.int 0 0), (Value.int 3 0), (Value.ref 121), (Value.bool true), (Value.int 181 0), (Value.ref 122), Value.none, (Value.ref 123), (Value.ref 124), (Value.ref 125), (Value.int 419 0), (Value.int 41 0), (Value.str (Str.ofString "/claim/cut.py") 420)]) #[]) ::
  (nat_lit 127, fnO (stm 15) "key_is_capital" Value.none Value.none (Value.str (Str.ofString "termcore.keyboard") 208) (Value.ref 126)) ::
  (nat_lit 133, Obj.mk (Value.type "code") none (Data.fields #[(Value.str (Str.ofString "key_is_small") 422), (Value.str (Str.ofString "key_is_small") 423), (Value.str (Str.ofString "/claim/cut.py") 424), (Value.int 43 0), (Value.int 1 0), (Value.int 0 0), (Value.int 0 0), (Value.int 3 0), (Value.ref 128), (Value.bool true), (Value.int 181 0), (Value.ref 129), Value.none, (Value.ref 130), (Value.ref 131), (Value.ref 132), (Value.int 426 0), (Value.int 43 0), (Value.str (Str.ofString "/claim/cut.py") 427)]) #[]) ::
  (nat_lit 134, fnO (stm 16) "key_is_small" Value.none Value.none (Value.str (Str.ofString "termcore.keyboard") 208) (Value.ref 133)) ::
  (nat_lit 135, Obj.mk (Value.type "tuple") none (Data.seq #[(Value.int 1 216)]) #[]) ::
  (nat_lit 141, Obj.mk (Value.type "code") none (Data.fields #[(Value.str (Str.ofString "key_settled") 429), (Value.str (Str.ofString "key_settled") 430), (Value.str (Str.ofString "/claim/cut.py") 431), (Value.int 45 0), (Value.int 4 0), (Value.int 0 0), (Value.int 0 0), (Value.int 3 0), (Value.ref 136), (Value.bool true), (Value.int 181 0), (Value.ref 137), Value.none, (Value.ref 138), (Value.ref 139), (Value.ref 140), (Value.int 436 0), (Value.int 45 0), (Value.str (Str.ofString "/claim/cut.py") 437)]) #[]) ::
  (nat_lit 142, fnO (stm 17) "key_settled" (Value.ref 135) Value.none (Value.str (Str.ofString "termcore.keyboard") 208) (Value.ref 141)) ::
  (nat_lit 143, Obj.mk (Value.type "tuple") none (Data.seq #[(Value.int 0 439), (Value.int 1 216)]) #[]) ::
  (nat_lit 149, Obj.mk (Value.type "code") none (Data.fields #[(Value.str (Str.ofString "key_of_code") 440), (Value.str (Str.ofString "key_of_code") 441), (Value.str (Str.ofString "/claim/cut.py") 442), (Value.int 54 0), (Value.int 3 0), (Value.int 0 0), (Value.int 0 0), (Value.int 3 0), (Value.ref 144), (Value.bool true), (Value.int 181 0), (Value.ref 145), Value.none, (Value.ref 146), (Value.ref 147), (Value.ref 148), (Value.int 450 0), (Value.int 54 0), (Value.str (Str.ofString "/claim/cut.py") 451)]) #[]) ::
  (nat_lit 150, fnO (stm 18) "key_of_code" (Value.ref 143) Value.none (Value.str (Str.ofString "termcore.keyboard") 208) (Value.ref 149)) ::
  (nat_lit 156, Obj.mk (Value.type "code") none (Data.fields #[(Value.str (Str.ofString "key_name") 453), (Value.str (Str.ofString "key_name") 454), (Value.str (Str.ofString "/claim/cut.py") 455), (Value.int 62 0), (Value.int 2 0), (Value.int 0 0), (Value.int 0 0), (Value.int 3 0), (Value.ref 151), (Value.bool true), (Value.int 181 0), (Value.ref 152), Value.none, (Value.ref 153), (Value.ref 154), (Value.ref 155), (Value.int 460 0), (Value.int 62 0), (Value.str (Str.ofString "/claim/cut.py") 461)]) #[]) ::
  (nat_lit 157, fnO (stm 19) "key_name" Value.none Value.none (Value.str (Str.ofString "termcore.keyboard") 208) (Value.ref 156)) ::
  (nat_lit 158, Obj.mk (Value.type "tuple") none (Data.seq #[(Value.bytes #[72, 111, 109, 101] 468), (Value.int 1 469)]) #[]) ::
  (nat_lit 159, Obj.mk (Value.type "tuple") none (Data.seq #[(Value.bytes #[69, 110, 100] 470), (Value.int 4 471)]) #[]) ::
  (nat_lit 160, Obj.mk (Value.type "tuple") none (Data.seq #[(Value.bytes #[72, 111, 109, 101] 472), (Value.int 7 473)]) #[]) ::
  (nat_lit 161, Obj.mk (Value.type "tuple") none (Data.seq #[(Value.bytes #[69, 110, 100] 474), (Value.int 8 475)]) #[]) ::
  (nat_lit 162, Obj.mk (Value.type "tuple") none (Data.seq #[(Value.bytes #[70, 49] 476), (Value.int 11 477)]) #[]) ::
  (nat_lit 163, Obj.mk (Value.type "tuple") none (Data.seq #[(Value.bytes #[70, 50] 478), (Value.int 12 479)]) #[]) ::
  (nat_lit 164, Obj.mk (Value.type "tuple") none (Data.seq #[(Value.bytes #[70, 51] 480), (Value.int 13 481)]) #[]) ::
  (nat_lit 165, Obj.mk (Value.type "tuple") none (Data.seq #[(Value.bytes #[70, 52] 482), (Value.int 14 483)]) #[]) ::
  (nat_lit 166, Obj.mk (Value.type "tuple") none (Data.seq #[(Value.ref 158), (Value.ref 159), (Value.ref 160), (Value.ref 161), (Value.ref 162), (Value.ref 163), (Value.ref 164), (Value.ref 165)]) #[]) ::
  (nat_lit 172, Obj.mk (Value.type "code") none (Data.fields #[(Value.str (Str.ofString "key_fields") 485), (Value.str (Str.ofString "key_fields") 486), (Value.str (Str.ofString "/claim/cut.py") 487), (Value.int 70 0), (Value.int 1 0), (Value.int 0 0), (Value.int 0 0), (Value.int 3 0), (Value.ref 167), (Value.bool true), (Value.int 181 0), (Value.ref 168), Value.none, (Value.ref 169), (Value.ref 170), (Value.ref 171), (Value.int 494 0), (Value.int 70 0), (Value.str (Str.ofString "/claim/cut.py") 495)]) #[]) ::
  (nat_lit 173, fnO (stm 23) "key_fields" Value.none Value.none (Value.str (Str.ofString "termcore.keyreader") 463) (Value.ref 172)) ::
  (nat_lit 179, Obj.mk (Value.type "code") none (Data.fields #[(Value.str (Str.ofString "key_field") 497), (Value.str (Str.ofString "key_field") 498), (Value.str (Str.ofString "/claim/cut.py") 499), (Value.int 81 0), (Value.int 4 0), (Value.int 0 0), (Value.int 0 0), (Value.int 3 0), (Value.ref 174), (Value.bool true), (Value.int 181 0), (Value.ref 175), Value.none, (Value.ref 176), (Value.ref 177), (Value.ref 178), (Value.int 504 0), (Value.int 81 0), (Value.str (Str.ofString "/claim/cut.py") 505)]) #[]) ::
  (nat_lit 180, fnO (stm 24) "key_field" Value.none Value.none (Value.str (Str.ofString "termcore.keyreader") 463) (Value.ref 179)) ::
  (nat_lit 186, Obj.mk (Value.type "code") none (Data.fields #[(Value.str (Str.ofString "key_by_letter") 507), (Value.str (Str.ofString "key_by_letter") 508), (Value.str (Str.ofString "/claim/cut.py") 509), (Value.int 85 0), (Value.int 4 0), (Value.int 0 0), (Value.int 0 0), (Value.int 3 0), (Value.ref 181), (Value.bool true), (Value.int 181 0), (Value.ref 182), Value.none, (Value.ref 183), (Value.ref 184), (Value.ref 185), (Value.int 515 0), (Value.int 85 0), (Value.str (Str.ofString "/claim/cut.py") 516)]) #[]) ::
  (nat_lit 187, fnO (stm 25) "key_by_letter" Value.none Value.none (Value.str (Str.ofString "termcore.keyreader") 463) (Value.ref 186)) ::
  (nat_lit 193, Obj.mk (Value.type "code") none (Data.fields #[(Value.str (Str.ofString "key_by_number") 518), (Value.str (Str.ofString "key_by_number") 519), (Value.str (Str.ofString "/claim/cut.py") 520), (Value.int 94 0), (Value.int 3 0), (Value.int 0 0), (Value.int 0 0), (Value.int 3 0), (Value.ref 188), (Value.bool true), (Value.int 181 0), (Value.ref 189), Value.none, (Value.ref 190), (Value.ref 191), (Value.ref 192), (Value.int 526 0), (Value.int 94 0), (Value.str (Str.ofString "/claim/cut.py") 527)]) #[]) ::
  (nat_lit 194, fnO (stm 26) "key_by_number" Value.none Value.none (Value.str (Str.ofString "termcore.keyreader") 463) (Value.ref 193)) ::
  (nat_lit 200, Obj.mk (Value.type "code") none (Data.fields #[(Value.str (Str.ofString "key_by_code") 529), (Value.str (Str.ofString "key_by_code") 530), (Value.str (Str.ofString "/claim/cut.py") 531), (Value.int 103 0), (Value.int 3 0), (Value.int 0 0), (Value.int 0 0), (Value.int 3 0), (Value.ref 195), (Value.bool true), (Value.int 181 0), (Value.ref 196), Value.none, (Value.ref 197), (Value.ref 198), (Value.ref 199), (Value.int 536 0), (Value.int 103 0), (Value.str (Str.ofString "/claim/cut.py") 537)]) #[]) ::
  (nat_lit 201, fnO (stm 27) "key_by_code" Value.none Value.none (Value.str (Str.ofString "termcore.keyreader") 463) (Value.ref 200)) ::
  (nat_lit 207, Obj.mk (Value.type "code") none (Data.fields #[(Value.str (Str.ofString "key_of_csi") 539), (Value.str (Str.ofString "key_of_csi") 540), (Value.str (Str.ofString "/claim/cut.py") 541), (Value.int 108 0), (Value.int 2 0), (Value.int 0 0), (Value.int 0 0), (Value.int 3 0), (Value.ref 202), (Value.bool true), (Value.int 181 0), (Value.ref 203), Value.none, (Value.ref 204), (Value.ref 205), (Value.ref 206), (Value.int 547 0), (Value.int 108 0), (Value.str (Str.ofString "/claim/cut.py") 548)]) #[]) ::
  (nat_lit 208, fnO (stm 28) "key_of_csi" Value.none Value.none (Value.str (Str.ofString "termcore.keyreader") 463) (Value.ref 207)) ::
  (nat_lit 214, Obj.mk (Value.type "code") none (Data.fields #[(Value.str (Str.ofString "_law_letters") 552), (Value.str (Str.ofString "_law_letters") 553), (Value.str (Str.ofString "/claim/cut.py") 554), (Value.int 122 0), (Value.int 0 0), (Value.int 0 0), (Value.int 0 0), (Value.int 3 0), (Value.ref 209), (Value.bool true), (Value.int 181 0), (Value.ref 210), Value.none, (Value.ref 211), (Value.ref 212), (Value.ref 213), (Value.int 555 0), (Value.int 122 0), (Value.str (Str.ofString "/claim/cut.py") 556)]) #[]) ::
  (nat_lit 215, fnO (stm 30) "_law_letters" Value.none Value.none (Value.str (Str.ofString "law_pq1183_01") 550) (Value.ref 214)) ::
  (nat_lit 216, Obj.mk (Value.type "list") none (Data.seq #[(Value.int 65 558), (Value.int 66 559), (Value.int 67 560), (Value.int 68 561), (Value.int 70 562), (Value.int 72 563), (Value.int 80 564), (Value.int 81 565), (Value.int 82 566), (Value.int 83 567), (Value.int 90 568), (Value.int 126 569), (Value.int 126 570), (Value.int 117 571), (Value.int 117 572), (Value.int 73 573), (Value.int 77 574)]) #[]) ::
  (nat_lit 217, Obj.mk (Value.type "list") none (Data.seq #[(Value.str (Str.ofString "") 576), (Value.str (Str.ofString "1") 577), (Value.str (Str.ofString "2") 578), (Value.str (Str.ofString "1:7") 579), (Value.str (Str.ofString "0") 580), (Value.str (Str.ofString "11") 581), (Value.str (Str.ofString "x") 582)]) #[]) ::
  (nat_lit 218, Obj.mk (Value.type "list") none (Data.seq #[(Value.str (Str.ofString "2") 584), (Value.str (Str.ofString "3") 585), (Value.str (Str.ofString "5") 586), (Value.str (Str.ofString "6") 587), (Value.str (Str.ofString "15") 588), (Value.str (Str.ofString "17") 589), (Value.str (Str.ofString "20") 590), (Value.str (Str.ofString "21") 591), (Value.str (Str.ofString "23") 592), (Value.str (Str.ofString "25") 593), (Value.str (Str.ofString "26") 594), (Value.str (Str.ofString "28") 595), (Value.str (Str.ofString "29") 596), (Value.str (Str.ofString "31") 597), (Value.str (Str.ofString "34") 598), (Value.str (Str.ofString "1") 599), (Value.str (Str.ofString "8") 600), (Value.str (Str.ofString "14") 601), (Value.str (Str.ofString "200") 602), (Value.str (Str.ofString "16") 603), (Value.str (Str.ofString "27") 604), (Value.str (Str.ofString "") 605), (Value.str (Str.ofString "0") 606), (Value.str (Str.ofString "22") 607)]) #[]) ::
  (nat_lit 219, Obj.mk (Value.type "list") none (Data.seq #[(Value.str (Str.ofString "97") 609), (Value.str (Str.ofString "65") 610), (Value.str (Str.ofString "233") 611), (Value.str (Str.ofString "32") 612), (Value.str (Str.ofString "9") 613), (Value.str (Str.ofString "13") 614), (Value.str (Str.ofString "27") 615), (Value.str (Str.ofString "127") 616), (Value.str (Str.ofString "57399") 617), (Value.str (Str.ofString "57408") 618), (Value.str (Str.ofString "57410") 619), (Value.str (Str.ofString "57416") 620), (Value.str (Str.ofString "31") 621), (Value.str (Str.ofString "130") 622), (Value.str (Str.ofString "55296") 623), (Value.str (Str.ofString "1114112") 624), (Value.str (Str.ofString "") 625), (Value.str (Str.ofString "57417") 626)]) #[]) ::
  (nat_lit 220, Obj.mk (Value.type "list") none (Data.seq #[(Value.str (Str.ofString "") 628), (Value.str (Str.ofString "1") 629), (Value.str (Str.ofString "2") 630), (Value.str (Str.ofString "3") 631), (Value.str (Str.ofString "5") 632), (Value.str (Str.ofString "6") 633), (Value.str (Str.ofString "8") 634), (Value.str (Str.ofString "16") 635), (Value.str (Str.ofString "0") 636), (Value.str (Str.ofString "5:1") 637), (Value.str (Str.ofString "2:3") 638), (Value.str (Str.ofString "1:4") 639), (Value.str (Str.ofString "1:2:9") 640), (Value.str (Str.ofString "-1") 641)]) #[]) ::
  (nat_lit 224, Obj.mk (Value.type "code") none (Data.fields #[(Value.str (Str.ofString "_law_tape") 643), (Value.str (Str.ofString "_law_tape") 644), (Value.str (Str.ofString "/claim/cut.py") 645), (Value.int 129 0), (Value.int 1 0), (Value.int 0 0), (Value.int 0 0), (Value.int 3 0), (Value.ref 221), (Value.bool true), (Value.int 181 0), (Value.ref 222), Value.none, Value.none, Value.none, (Value.ref 223), (Value.int 646 0), (Value.int 129 0), (Value.str (Str.ofString "/claim/cut.py") 647)]) #[]) ::
  (nat_lit 225, fnO (stm 36) "_law_tape" Value.none Value.none (Value.str (Str.ofString "law_pq1183_01") 550) (Value.ref 224)) ::
  (nat_lit 231, Obj.mk (Value.type "code") none (Data.fields #[(Value.str (Str.ofString "_law_next") 649), (Value.str (Str.ofString "_law_next") 650), (Value.str (Str.ofString "/claim/cut.py") 651), (Value.int 134 0), (Value.int 2 0), (Value.int 0 0), (Value.int 0 0), (Value.int 3 0), (Value.ref 226), (Value.bool true), (Value.int 181 0), (Value.ref 227), Value.none, (Value.ref 228), (Value.ref 229), (Value.ref 230), (Value.int 654 0), (Value.int 134 0), (Value.str (Str.ofString "/claim/cut.py") 655)]) #[]) ::
  (nat_lit 232, fnO (stm 37) "_law_next" Value.none Value.none (Value.str (Str.ofString "law_pq1183_01") 550) (Value.ref 231)) ::
  (nat_lit 238, Obj.mk (Value.type "code") none (Data.fields #[(Value.str (Str.ofString "_law_pick") 657), (Value.str (Str.ofString "_law_pick") 658), (Value.str (Str.ofString "/claim/cut.py") 659), (Value.int 139 0), (Value.int 2 0), (Value.int 0 0), (Value.int 0 0), (Value.int 3 0), (Value.ref 233), (Value.bool true), (Value.int 181 0), (Value.ref 234), Value.none, (Value.ref 235), (Value.ref 236), (Value.ref 237), (Value.int 662 0), (Value.int 139 0), (Value.str (Str.ofString "/claim/cut.py") 663)]) #[]) ::
  (nat_lit 239, fnO (stm 38) "_law_pick" Value.none Value.none (Value.str (Str.ofString "law_pq1183_01") 550) (Value.ref 238)) ::
  (nat_lit 243, Obj.mk (Value.type "code") none (Data.fields #[(Value.str (Str.ofString "_law_fields") 665), (Value.str (Str.ofString "_law_fields") 666), (Value.str (Str.ofString "/claim/cut.py") 667), (Value.int 141 0), (Value.int 1 0), (Value.int 0 0), (Value.int 0 0), (Value.int 3 0), (Value.ref 240), (Value.bool true), (Value.int 181 0), (Value.ref 241), Value.none, Value.none, Value.none, (Value.ref 242), (Value.int 668 0), (Value.int 141 0), (Value.str (Str.ofString "/claim/cut.py") 669)]) #[]) ::
  (nat_lit 244, fnO (stm 39) "_law_fields" Value.none Value.none (Value.str (Str.ofString "law_pq1183_01") 550) (Value.ref 243)) ::
  (nat_lit 250, Obj.mk (Value.type "code") none (Data.fields #[(Value.str (Str.ofString "_law_by_number") 671), (Value.str (Str.ofString "_law_by_number") 672), (Value.str (Str.ofString "/claim/cut.py") 673), (Value.int 151 0), (Value.int 1 0), (Value.int 0 0), (Value.int 0 0), (Value.int 3 0), (Value.ref 245), (Value.bool true), (Value.int 181 0), (Value.ref 246), Value.none, (Value.ref 247), (Value.ref 248), (Value.ref 249), (Value.int 680 0), (Value.int 151 0), (Value.str (Str.ofString "/claim/cut.py") 681)]) #[]) ::
  (nat_lit 251, fnO (stm 40) "_law_by_number" Value.none Value.none (Value.str (Str.ofString "law_pq1183_01") 550) (Value.ref 250)) ::
  (nat_lit 257, Obj.mk (Value.type "code") none (Data.fields #[(Value.str (Str.ofString "_law_by_code") 683), (Value.str (Str.ofString "_law_by_code") 684), (Value.str (Str.ofString "/claim/cut.py") 685), (Value.int 158 0), (Value.int 3 0), (Value.int 0 0), (Value.int 0 0), (Value.int 3 0), (Value.ref 252), (Value.bool true), (Value.int 181 0), (Value.ref 253), Value.none, (Value.ref 254), (Value.ref 255), (Value.ref 256), (Value.int 693 0), (Value.int 158 0), (Value.str (Str.ofString "/claim/cut.py") 694)]) #[]) ::
  (nat_lit 258, fnO (stm 41) "_law_by_code" Value.none Value.none (Value.str (Str.ofString "law_pq1183_01") 550) (Value.ref 257)) ::
  (nat_lit 264, Obj.mk (Value.type "code") none (Data.fields #[(Value.str (Str.ofString "_law_due") 696), (Value.str (Str.ofString "_law_due") 697), (Value.str (Str.ofString "/claim/cut.py") 698), (Value.int 173 0), (Value.int 2 0), (Value.int 0 0), (Value.int 0 0), (Value.int 3 0), (Value.ref 259), (Value.bool true), (Value.int 181 0), (Value.ref 260), Value.none, (Value.ref 261), (Value.ref 262), (Value.ref 263), (Value.int 710 0), (Value.int 173 0), (Value.str (Str.ofString "/claim/cut.py") 711)]) #[]) ::
  (nat_lit 265, fnO (stm 42) "_law_due" Value.none Value.none (Value.str (Str.ofString "law_pq1183_01") 550) (Value.ref 264)) ::
  (nat_lit 269, Obj.mk (Value.type "code") none (Data.fields #[(Value.str (Str.ofString "law") 713), (Value.str (Str.ofString "law") 714), (Value.str (Str.ofString "/claim/cut.py") 715), (Value.int 196 0), (Value.int 1 0), (Value.int 0 0), (Value.int 0 0), (Value.int 3 0), (Value.ref 266), (Value.bool true), (Value.int 181 0), (Value.ref 267), Value.none, Value.none, Value.none, (Value.ref 268), (Value.int 716 0), (Value.int 196 0), (Value.str (Str.ofString "/claim/cut.py") 717)]) #[]) ::
  (nat_lit 270, fnO (stm 43) "law" Value.none Value.none (Value.str (Str.ofString "law_pq1183_01") 550) (Value.ref 269)) :: []
noncomputable def adrs : List Addr := [2, 3, 27, 28, 29, 30, 31, 32, 33, 34, 35, 36, 37, 38, 39, 40, 41, 42, 43, 44, 45, 46, 47, 48, 49, 50, 51, 52, 53, 54, 55, 56, 57, 58, 59, 60, 61, 62, 63, 64, 65, 66, 67, 68, 69, 70, 71, 72, 73, 74, 75, 76, 77, 78, 79, 80, 81, 82, 83, 84, 92, 98, 99, 115, 116, 117, 118, 126, 127, 133, 134, 135, 141, 142, 143, 149, 150, 156, 157, 158, 159, 160, 161, 162, 163, 164, 165, 166, 172, 173, 179, 180, 186, 187, 193, 194, 200, 201, 207, 208, 214, 215, 216, 217, 218, 219, 220, 224, 225, 231, 232, 238, 239, 243, 244, 250, 251, 257, 258, 264, 265, 269, 270]
/-- the text without the statements whose names are loose -/
noncomputable def vw : Program := { PySem.Challenge.pw_pq1183_01 with main := { PySem.Challenge.pw_pq1183_01.main with body := [0, 2, 3, 5, 6, 7, 8, 9, 10, 11, 12, 13, 14, 15, 16, 19, 21, 22, 23, 24, 25, 26, 27, 28, 30, 31, 32, 33, 34, 35, 36, 37, 38, 39, 40, 41, 42, 43].map stm } }
abbrev R0 := PySem.Challenge.rw_pq1183_01.row.toRowW
abbrev loose0 : List Str := [Str.ofString "Key", Str.ofString "key_settled", Str.ofString "key_of_code", Str.ofString "KEY_HELD", Str.ofString "_law_finals", Str.ofString "_law_firsts", Str.ofString "_law_numbers", Str.ofString "_law_codes", Str.ofString "_law_seconds"]
abbrev lv0 : List (Str × WData) := [(Str.ofString "KEY_HELD", WData.int 7)]
theorem adrs_are : ∀ P, adrs = (KK P).map (·.1) := fun _ => by kernel_rfl
noncomputable abbrev HK : Hook := kHook KK adrs adrs_are
abbrev prg0 : Program := PySem.Challenge.rw_pq1183_01.row.prog
/-- a def's stub, as its code bears it -/
noncomputable def fnS (s : Stmt) (qual : String) : Obj := match s with
  | .FunctionDef name params body _ _ _ scope _ _ _ => ⟨.none, none, .func ⟨name, Str.ofString qual, params, .stmts body, scope, 0, [], .none, .none, .none, .none, none, .none, .none, 0⟩, #[]⟩
  | _ => ⟨.none, none, .plain, #[]⟩
noncomputable def o3 : Params → Obj := fun P => Obj.mk (Value.type "dict") none (Data.dict #[DictEntry.mk (PyData.keyHash P (Str.ofString "__name__")) (Value.str (Str.ofString "__name__") 165) (Value.str (Str.ofString "law_pq1183_01") 550), DictEntry.mk (PyData.keyHash P (Str.ofString "__doc__")) (Value.str (Str.ofString "__doc__") 166) Value.none, DictEntry.mk (PyData.keyHash P (Str.ofString "__package__")) (Value.str (Str.ofString "__package__") 167) Value.none, DictEntry.mk (PyData.keyHash P (Str.ofString "__loader__")) (Value.str (Str.ofString "__loader__") 168) (Value.builtin "__main__.__loader__#opaque"), DictEntry.mk (PyData.keyHash P (Str.ofString "__spec__")) (Value.str (Str.ofString "__spec__") 169) Value.none, DictEntry.mk (PyData.keyHash P (Str.ofString "__annotations__")) (Value.str (Str.ofString "__annotations__") 170) (Value.ref 6), DictEntry.mk (PyData.keyHash P (Str.ofString "__builtins__")) (Value.str (Str.ofString "__builtins__") 171) (Value.ref 4), DictEntry.mk (PyData.keyHash P (Str.ofString "__file__")) (Value.str (Str.ofString "__file__") 173) (Value.str (Str.ofString "/claim/cut.py") 172), DictEntry.mk (PyData.keyHash P (Str.ofString "__cached__")) (Value.str (Str.ofString "__cached__") 174) Value.none, DictEntry.mk (PyData.keyHash P (Str.ofString "_wall")) (Value.str (Str.ofString "_wall") 193) (Value.ref 21), DictEntry.mk (PyData.keyHash P (Str.ofString "MOST_FIGURES")) (Value.str (Str.ofString "MOST_FIGURES") 197) (Value.int 1000 196), DictEntry.mk (PyData.keyHash P (Str.ofString "number_of")) (Value.str (Str.ofString "number_of") 207) (Value.ref 28), DictEntry.mk (PyData.keyHash P (Str.ofString "SHIFT")) (Value.str (Str.ofString "SHIFT") 211) (Value.int 1 210), DictEntry.mk (PyData.keyHash P (Str.ofString "META")) (Value.str (Str.ofString "META") 213) (Value.int 2 212), DictEntry.mk (PyData.keyHash P (Str.ofString "CONTROL")) (Value.str (Str.ofString "CONTROL") 215) (Value.int 4 214), DictEntry.mk (PyData.keyHash P (Str.ofString "KEY_PRESSED")) (Value.str (Str.ofString "KEY_PRESSED") 217) (Value.int 1 216), DictEntry.mk (PyData.keyHash P (Str.ofString "KEY_RELEASED")) (Value.str (Str.ofString "KEY_RELEASED") 219) (Value.int 3 218), DictEntry.mk (PyData.keyHash P (Str.ofString "KEY_LETTERS")) (Value.str (Str.ofString "KEY_LETTERS") 240) (Value.ref 39), DictEntry.mk (PyData.keyHash P (Str.ofString "KEY_NUMBERS")) (Value.str (Str.ofString "KEY_NUMBERS") 281) (Value.ref 60), DictEntry.mk (PyData.keyHash P (Str.ofString "KEY_CODES")) (Value.str (Str.ofString "KEY_CODES") 290) (Value.ref 65), DictEntry.mk (PyData.keyHash P (Str.ofString "KEY_PAD")) (Value.str (Str.ofString "KEY_PAD") 363) (Value.ref 84), DictEntry.mk (PyData.keyHash P (Str.ofString "Key")) (Value.str (Str.ofString "Key") 414) (Value.ref 116), DictEntry.mk (PyData.keyHash P (Str.ofString "key_is_capital")) (Value.str (Str.ofString "key_is_capital") 421) (Value.ref 127), DictEntry.mk (PyData.keyHash P (Str.ofString "key_is_small")) (Value.str (Str.ofString "key_is_small") 428) (Value.ref 134), DictEntry.mk (PyData.keyHash P (Str.ofString "key_settled")) (Value.str (Str.ofString "key_settled") 438) (Value.ref 142), DictEntry.mk (PyData.keyHash P (Str.ofString "key_of_code")) (Value.str (Str.ofString "key_of_code") 452) (Value.ref 150), DictEntry.mk (PyData.keyHash P (Str.ofString "key_name")) (Value.str (Str.ofString "key_name") 462) (Value.ref 157), DictEntry.mk (PyData.keyHash P (Str.ofString "KEY_HELD")) (Value.str (Str.ofString "KEY_HELD") 467) (Value.int 7 466), DictEntry.mk (PyData.keyHash P (Str.ofString "KEY_OTHER_NUMBERS")) (Value.str (Str.ofString "KEY_OTHER_NUMBERS") 484) (Value.ref 166), DictEntry.mk (PyData.keyHash P (Str.ofString "key_fields")) (Value.str (Str.ofString "key_fields") 496) (Value.ref 173), DictEntry.mk (PyData.keyHash P (Str.ofString "key_field")) (Value.str (Str.ofString "key_field") 506) (Value.ref 180), DictEntry.mk (PyData.keyHash P (Str.ofString "key_by_letter")) (Value.str (Str.ofString "key_by_letter") 517) (Value.ref 187), DictEntry.mk (PyData.keyHash P (Str.ofString "key_by_number")) (Value.str (Str.ofString "key_by_number") 528) (Value.ref 194), DictEntry.mk (PyData.keyHash P (Str.ofString "key_by_code")) (Value.str (Str.ofString "key_by_code") 538) (Value.ref 201), DictEntry.mk (PyData.keyHash P (Str.ofString "key_of_csi")) (Value.str (Str.ofString "key_of_csi") 549) (Value.ref 208), DictEntry.mk (PyData.keyHash P (Str.ofString "_law_letters")) (Value.str (Str.ofString "_law_letters") 557) (Value.ref 215), DictEntry.mk (PyData.keyHash P (Str.ofString "_law_finals")) (Value.str (Str.ofString "_law_finals") 575) (Value.ref 216), DictEntry.mk (PyData.keyHash P (Str.ofString "_law_firsts")) (Value.str (Str.ofString "_law_firsts") 583) (Value.ref 217), DictEntry.mk (PyData.keyHash P (Str.ofString "_law_numbers")) (Value.str (Str.ofString "_law_numbers") 608) (Value.ref 218), DictEntry.mk (PyData.keyHash P (Str.ofString "_law_codes")) (Value.str (Str.ofString "_law_codes") 627) (Value.ref 219), DictEntry.mk (PyData.keyHash P (Str.ofString "_law_seconds")) (Value.str (Str.ofString "_law_seconds") 642) (Value.ref 220), DictEntry.mk (PyData.keyHash P (Str.ofString "_law_tape")) (Value.str (Str.ofString "_law_tape") 648) (Value.ref 225), DictEntry.mk (PyData.keyHash P (Str.ofString "_law_next")) (Value.str (Str.ofString "_law_next") 656) (Value.ref 232), DictEntry.mk (PyData.keyHash P (Str.ofString "_law_pick")) (Value.str (Str.ofString "_law_pick") 664) (Value.ref 239), DictEntry.mk (PyData.keyHash P (Str.ofString "_law_fields")) (Value.str (Str.ofString "_law_fields") 670) (Value.ref 244), DictEntry.mk (PyData.keyHash P (Str.ofString "_law_by_number")) (Value.str (Str.ofString "_law_by_number") 682) (Value.ref 251), DictEntry.mk (PyData.keyHash P (Str.ofString "_law_by_code")) (Value.str (Str.ofString "_law_by_code") 695) (Value.ref 258), DictEntry.mk (PyData.keyHash P (Str.ofString "_law_due")) (Value.str (Str.ofString "_law_due") 712) (Value.ref 265), DictEntry.mk (PyData.keyHash P (Str.ofString "law")) (Value.str (Str.ofString "law") 718) (Value.ref 270)] 49) #[]
noncomputable def o3_12 : Params → Obj := fun P => Obj.mk (Value.type "dict") none (Data.dict #[DictEntry.mk (PyData.keyHash P (Str.ofString "__name__")) (Value.str (Str.ofString "__name__") 165) (Value.str (Str.ofString "termcore.keyboard") 208), DictEntry.mk (PyData.keyHash P (Str.ofString "__doc__")) (Value.str (Str.ofString "__doc__") 166) Value.none, DictEntry.mk (PyData.keyHash P (Str.ofString "__package__")) (Value.str (Str.ofString "__package__") 167) Value.none, DictEntry.mk (PyData.keyHash P (Str.ofString "__loader__")) (Value.str (Str.ofString "__loader__") 168) (Value.builtin "__main__.__loader__#opaque"), DictEntry.mk (PyData.keyHash P (Str.ofString "__spec__")) (Value.str (Str.ofString "__spec__") 169) Value.none, DictEntry.mk (PyData.keyHash P (Str.ofString "__annotations__")) (Value.str (Str.ofString "__annotations__") 170) (Value.ref 6), DictEntry.mk (PyData.keyHash P (Str.ofString "__builtins__")) (Value.str (Str.ofString "__builtins__") 171) (Value.ref 4), DictEntry.mk (PyData.keyHash P (Str.ofString "__file__")) (Value.str (Str.ofString "__file__") 173) (Value.str (Str.ofString "/claim/cut.py") 172), DictEntry.mk (PyData.keyHash P (Str.ofString "__cached__")) (Value.str (Str.ofString "__cached__") 174) Value.none, DictEntry.mk (PyData.keyHash P (Str.ofString "_wall")) (Value.str (Str.ofString "_wall") 193) (Value.ref 21), DictEntry.mk (PyData.keyHash P (Str.ofString "MOST_FIGURES")) (Value.str (Str.ofString "MOST_FIGURES") 197) (Value.int 1000 196), DictEntry.mk (PyData.keyHash P (Str.ofString "number_of")) (Value.str (Str.ofString "number_of") 207) (Value.ref 28), DictEntry.mk (PyData.keyHash P (Str.ofString "SHIFT")) (Value.str (Str.ofString "SHIFT") 211) (Value.int 1 210), DictEntry.mk (PyData.keyHash P (Str.ofString "META")) (Value.str (Str.ofString "META") 213) (Value.int 2 212), DictEntry.mk (PyData.keyHash P (Str.ofString "CONTROL")) (Value.str (Str.ofString "CONTROL") 215) (Value.int 4 214), DictEntry.mk (PyData.keyHash P (Str.ofString "KEY_PRESSED")) (Value.str (Str.ofString "KEY_PRESSED") 217) (Value.int 1 216), DictEntry.mk (PyData.keyHash P (Str.ofString "KEY_RELEASED")) (Value.str (Str.ofString "KEY_RELEASED") 219) (Value.int 3 218), DictEntry.mk (PyData.keyHash P (Str.ofString "KEY_LETTERS")) (Value.str (Str.ofString "KEY_LETTERS") 240) (Value.ref 39), DictEntry.mk (PyData.keyHash P (Str.ofString "KEY_NUMBERS")) (Value.str (Str.ofString "KEY_NUMBERS") 281) (Value.ref 60), DictEntry.mk (PyData.keyHash P (Str.ofString "KEY_CODES")) (Value.str (Str.ofString "KEY_CODES") 290) (Value.ref 65)] 20) #[]
noncomputable def o3_13 : Params → Obj := fun P => Obj.mk (Value.type "dict") none (Data.dict #[DictEntry.mk (PyData.keyHash P (Str.ofString "__name__")) (Value.str (Str.ofString "__name__") 165) (Value.str (Str.ofString "termcore.keyboard") 208), DictEntry.mk (PyData.keyHash P (Str.ofString "__doc__")) (Value.str (Str.ofString "__doc__") 166) Value.none, DictEntry.mk (PyData.keyHash P (Str.ofString "__package__")) (Value.str (Str.ofString "__package__") 167) Value.none, DictEntry.mk (PyData.keyHash P (Str.ofString "__loader__")) (Value.str (Str.ofString "__loader__") 168) (Value.builtin "__main__.__loader__#opaque"), DictEntry.mk (PyData.keyHash P (Str.ofString "__spec__")) (Value.str (Str.ofString "__spec__") 169) Value.none, DictEntry.mk (PyData.keyHash P (Str.ofString "__annotations__")) (Value.str (Str.ofString "__annotations__") 170) (Value.ref 6), DictEntry.mk (PyData.keyHash P (Str.ofString "__builtins__")) (Value.str (Str.ofString "__builtins__") 171) (Value.ref 4), DictEntry.mk (PyData.keyHash P (Str.ofString "__file__")) (Value.str (Str.ofString "__file__") 173) (Value.str (Str.ofString "/claim/cut.py") 172), DictEntry.mk (PyData.keyHash P (Str.ofString "__cached__")) (Value.str (Str.ofString "__cached__") 174) Value.none, DictEntry.mk (PyData.keyHash P (Str.ofString "_wall")) (Value.str (Str.ofString "_wall") 193) (Value.ref 21), DictEntry.mk (PyData.keyHash P (Str.ofString "MOST_FIGURES")) (Value.str (Str.ofString "MOST_FIGURES") 197) (Value.int 1000 196), DictEntry.mk (PyData.keyHash P (Str.ofString "number_of")) (Value.str (Str.ofString "number_of") 207) (Value.ref 28), DictEntry.mk (PyData.keyHash P (Str.ofString "SHIFT")) (Value.str (Str.ofString "SHIFT") 211) (Value.int 1 210), DictEntry.mk (PyData.keyHash P (Str.ofString "META")) (Value.str (Str.ofString "META") 213) (Value.int 2 212), DictEntry.mk (PyData.keyHash P (Str.ofString "CONTROL")) (Value.str (Str.ofString "CONTROL") 215) (Value.int 4 214), DictEntry.mk (PyData.keyHash P (Str.ofString "KEY_PRESSED")) (Value.str (Str.ofString "KEY_PRESSED") 217) (Value.int 1 216), DictEntry.mk (PyData.keyHash P (Str.ofString "KEY_RELEASED")) (Value.str (Str.ofString "KEY_RELEASED") 219) (Value.int 3 218), DictEntry.mk (PyData.keyHash P (Str.ofString "KEY_LETTERS")) (Value.str (Str.ofString "KEY_LETTERS") 240) (Value.ref 39), DictEntry.mk (PyData.keyHash P (Str.ofString "KEY_NUMBERS")) (Value.str (Str.ofString "KEY_NUMBERS") 281) (Value.ref 60), DictEntry.mk (PyData.keyHash P (Str.ofString "KEY_CODES")) (Value.str (Str.ofString "KEY_CODES") 290) (Value.ref 65), DictEntry.mk (PyData.keyHash P (Str.ofString "KEY_PAD")) (Value.str (Str.ofString "KEY_PAD") 363) (Value.ref 84)] 21) #[]
noncomputable def o3_14 : Params → Obj := fun P => Obj.mk (Value.type "dict") none (Data.dict #[DictEntry.mk (PyData.keyHash P (Str.ofString "__name__")) (Value.str (Str.ofString "__name__") 165) (Value.str (Str.ofString "termcore.keyboard") 208), DictEntry.mk (PyData.keyHash P (Str.ofString "__doc__")) (Value.str (Str.ofString "__doc__") 166) Value.none, DictEntry.mk (PyData.keyHash P (Str.ofString "__package__")) (Value.str (Str.ofString "__package__") 167) Value.none, DictEntry.mk (PyData.keyHash P (Str.ofString "__loader__")) (Value.str (Str.ofString "__loader__") 168) (Value.builtin "__main__.__loader__#opaque"), DictEntry.mk (PyData.keyHash P (Str.ofString "__spec__")) (Value.str (Str.ofString "__spec__") 169) Value.none, DictEntry.mk (PyData.keyHash P (Str.ofString "__annotations__")) (Value.str (Str.ofString "__annotations__") 170) (Value.ref 6), DictEntry.mk (PyData.keyHash P (Str.ofString "__builtins__")) (Value.str (Str.ofString "__builtins__") 171) (Value.ref 4), DictEntry.mk (PyData.keyHash P (Str.ofString "__file__")) (Value.str (Str.ofString "__file__") 173) (Value.str (Str.ofString "/claim/cut.py") 172), DictEntry.mk (PyData.keyHash P (Str.ofString "__cached__")) (Value.str (Str.ofString "__cached__") 174) Value.none, DictEntry.mk (PyData.keyHash P (Str.ofString "_wall")) (Value.str (Str.ofString "_wall") 193) (Value.ref 21), DictEntry.mk (PyData.keyHash P (Str.ofString "MOST_FIGURES")) (Value.str (Str.ofString "MOST_FIGURES") 197) (Value.int 1000 196), DictEntry.mk (PyData.keyHash P (Str.ofString "number_of")) (Value.str (Str.ofString "number_of") 207) (Value.ref 28), DictEntry.mk (PyData.keyHash P (Str.ofString "SHIFT")) (Value.str (Str.ofString "SHIFT") 211) (Value.int 1 210), DictEntry.mk (PyData.keyHash P (Str.ofString "META")) (Value.str (Str.ofString "META") 213) (Value.int 2 212), DictEntry.mk (PyData.keyHash P (Str.ofString "CONTROL")) (Value.str (Str.ofString "CONTROL") 215) (Value.int 4 214), DictEntry.mk (PyData.keyHash P (Str.ofString "KEY_PRESSED")) (Value.str (Str.ofString "KEY_PRESSED") 217) (Value.int 1 216), DictEntry.mk (PyData.keyHash P (Str.ofString "KEY_RELEASED")) (Value.str (Str.ofString "KEY_RELEASED") 219) (Value.int 3 218), DictEntry.mk (PyData.keyHash P (Str.ofString "KEY_LETTERS")) (Value.str (Str.ofString "KEY_LETTERS") 240) (Value.ref 39), DictEntry.mk (PyData.keyHash P (Str.ofString "KEY_NUMBERS")) (Value.str (Str.ofString "KEY_NUMBERS") 281) (Value.ref 60), DictEntry.mk (PyData.keyHash P (Str.ofString "KEY_CODES")) (Value.str (Str.ofString "KEY_CODES") 290) (Value.ref 65), DictEntry.mk (PyData.keyHash P (Str.ofString "KEY_PAD")) (Value.str (Str.ofString "KEY_PAD") 363) (Value.ref 84), DictEntry.mk (PyData.keyHash P (Str.ofString "Key")) (Value.str (Str.ofString "Key") 414) (Value.ref 116)] 22) #[]
noncomputable def o3_28 : Params → Obj := fun P => Obj.mk (Value.type "dict") none (Data.dict #[DictEntry.mk (PyData.keyHash P (Str.ofString "__name__")) (Value.str (Str.ofString "__name__") 165) (Value.str (Str.ofString "termcore.keyreader") 463), DictEntry.mk (PyData.keyHash P (Str.ofString "__doc__")) (Value.str (Str.ofString "__doc__") 166) Value.none, DictEntry.mk (PyData.keyHash P (Str.ofString "__package__")) (Value.str (Str.ofString "__package__") 167) Value.none, DictEntry.mk (PyData.keyHash P (Str.ofString "__loader__")) (Value.str (Str.ofString "__loader__") 168) (Value.builtin "__main__.__loader__#opaque"), DictEntry.mk (PyData.keyHash P (Str.ofString "__spec__")) (Value.str (Str.ofString "__spec__") 169) Value.none, DictEntry.mk (PyData.keyHash P (Str.ofString "__annotations__")) (Value.str (Str.ofString "__annotations__") 170) (Value.ref 6), DictEntry.mk (PyData.keyHash P (Str.ofString "__builtins__")) (Value.str (Str.ofString "__builtins__") 171) (Value.ref 4), DictEntry.mk (PyData.keyHash P (Str.ofString "__file__")) (Value.str (Str.ofString "__file__") 173) (Value.str (Str.ofString "/claim/cut.py") 172), DictEntry.mk (PyData.keyHash P (Str.ofString "__cached__")) (Value.str (Str.ofString "__cached__") 174) Value.none, DictEntry.mk (PyData.keyHash P (Str.ofString "_wall")) (Value.str (Str.ofString "_wall") 193) (Value.ref 21), DictEntry.mk (PyData.keyHash P (Str.ofString "MOST_FIGURES")) (Value.str (Str.ofString "MOST_FIGURES") 197) (Value.int 1000 196), DictEntry.mk (PyData.keyHash P (Str.ofString "number_of")) (Value.str (Str.ofString "number_of") 207) (Value.ref 28), DictEntry.mk (PyData.keyHash P (Str.ofString "SHIFT")) (Value.str (Str.ofString "SHIFT") 211) (Value.int 1 210), DictEntry.mk (PyData.keyHash P (Str.ofString "META")) (Value.str (Str.ofString "META") 213) (Value.int 2 212), DictEntry.mk (PyData.keyHash P (Str.ofString "CONTROL")) (Value.str (Str.ofString "CONTROL") 215) (Value.int 4 214), DictEntry.mk (PyData.keyHash P (Str.ofString "KEY_PRESSED")) (Value.str (Str.ofString "KEY_PRESSED") 217) (Value.int 1 216), DictEntry.mk (PyData.keyHash P (Str.ofString "KEY_RELEASED")) (Value.str (Str.ofString "KEY_RELEASED") 219) (Value.int 3 218), DictEntry.mk (PyData.keyHash P (Str.ofString "KEY_LETTERS")) (Value.str (Str.ofString "KEY_LETTERS") 240) (Value.ref 39), DictEntry.mk (PyData.keyHash P (Str.ofString "KEY_NUMBERS")) (Value.str (Str.ofString "KEY_NUMBERS") 281) (Value.ref 60), DictEntry.mk (PyData.keyHash P (Str.ofString "KEY_CODES")) (Value.str (Str.ofString "KEY_CODES") 290) (Value.ref 65), DictEntry.mk (PyData.keyHash P (Str.ofString "KEY_PAD")) (Value.str (Str.ofString "KEY_PAD") 363) (Value.ref 84), DictEntry.mk (PyData.keyHash P (Str.ofString "Key")) (Value.str (Str.ofString "Key") 414) (Value.ref 116), DictEntry.mk (PyData.keyHash P (Str.ofString "key_is_capital")) (Value.str (Str.ofString "key_is_capital") 421) (Value.ref 127), DictEntry.mk (PyData.keyHash P (Str.ofString "key_is_small")) (Value.str (Str.ofString "key_is_small") 428) (Value.ref 134), DictEntry.mk (PyData.keyHash P (Str.ofString "key_settled")) (Value.str (Str.ofString "key_settled") 438) (Value.ref 142), DictEntry.mk (PyData.keyHash P (Str.ofString "key_of_code")) (Value.str (Str.ofString "key_of_code") 452) (Value.ref 150), DictEntry.mk (PyData.keyHash P (Str.ofString "key_name")) (Value.str (Str.ofString "key_name") 462) (Value.ref 157), DictEntry.mk (PyData.keyHash P (Str.ofString "KEY_HELD")) (Value.str (Str.ofString "KEY_HELD") 467) (Value.int 7 466), DictEntry.mk (PyData.keyHash P (Str.ofString "KEY_OTHER_NUMBERS")) (Value.str (Str.ofString "KEY_OTHER_NUMBERS") 484) (Value.ref 166), DictEntry.mk (PyData.keyHash P (Str.ofString "key_fields")) (Value.str (Str.ofString "key_fields") 496) (Value.ref 173), DictEntry.mk (PyData.keyHash P (Str.ofString "key_field")) (Value.str (Str.ofString "key_field") 506) (Value.ref 180), DictEntry.mk (PyData.keyHash P (Str.ofString "key_by_letter")) (Value.str (Str.ofString "key_by_letter") 517) (Value.ref 187), DictEntry.mk (PyData.keyHash P (Str.ofString "key_by_number")) (Value.str (Str.ofString "key_by_number") 528) (Value.ref 194), DictEntry.mk (PyData.keyHash P (Str.ofString "key_by_code")) (Value.str (Str.ofString "key_by_code") 538) (Value.ref 201), DictEntry.mk (PyData.keyHash P (Str.ofString "key_of_csi")) (Value.str (Str.ofString "key_of_csi") 549) (Value.ref 208)] 35) #[]
noncomputable def o11 : Params → Obj := fun P => Obj.mk (Value.type "tuple") none (Data.seq #[]) #[]
noncomputable def o12 : Params → Obj := fun P => Obj.mk Value.none none (Data.fields #[(Value.int 1 0), (Value.int 0 0), (Value.ref 20), (Value.int 6 0), (Value.int 0 0), (Value.ref 27), (Value.int 28 0), (Value.int 0 0), (Value.ref 90), (Value.int 41 0), (Value.int 0 0), (Value.ref 126), (Value.int 43 0), (Value.int 0 0), (Value.ref 133), (Value.int 45 0), (Value.int 0 0), (Value.ref 141), (Value.int 54 0), (Value.int 0 0), (Value.ref 149), (Value.int 62 0), (Value.int 0 0), (Value.ref 156), (Value.int 70 0), (Value.int 0 0), (Value.ref 172), (Value.int 81 0), (Value.int 0 0), (Value.ref 179), (Value.int 85 0), (Value.int 0 0), (Value.ref 186), (Value.int 94 0), (Value.int 0 0), (Value.ref 193), (Value.int 103 0), (Value.int 0 0), (Value.ref 200), (Value.int 108 0), (Value.int 0 0), (Value.ref 207), (Value.int 122 0), (Value.int 0 0), (Value.ref 214), (Value.int 129 0), (Value.int 0 0), (Value.ref 224), (Value.int 134 0), (Value.int 0 0), (Value.ref 231), (Value.int 139 0), (Value.int 0 0), (Value.ref 238), (Value.int 141 0), (Value.int 0 0), (Value.ref 243), (Value.int 151 0), (Value.int 0 0), (Value.ref 250), (Value.int 158 0), (Value.int 0 0), (Value.ref 257), (Value.int 173 0), (Value.int 0 0), (Value.ref 264), (Value.int 196 0), (Value.int 0 0), (Value.ref 269)]) #[]
noncomputable def o12_12 : Params → Obj := fun P => Obj.mk Value.none none (Data.fields #[(Value.int 1 0), (Value.int 0 0), (Value.ref 20), (Value.int 6 0), (Value.int 0 0), (Value.ref 27)]) #[]
noncomputable def o12_13 : Params → Obj := fun P => Obj.mk Value.none none (Data.fields #[(Value.int 1 0), (Value.int 0 0), (Value.ref 20), (Value.int 6 0), (Value.int 0 0), (Value.ref 27)]) #[]
noncomputable def o12_14 : Params → Obj := fun P => Obj.mk Value.none none (Data.fields #[(Value.int 1 0), (Value.int 0 0), (Value.ref 20), (Value.int 6 0), (Value.int 0 0), (Value.ref 27), (Value.int 28 0), (Value.int 0 0), (Value.ref 90)]) #[]
noncomputable def o12_28 : Params → Obj := fun P => Obj.mk Value.none none (Data.fields #[(Value.int 1 0), (Value.int 0 0), (Value.ref 20), (Value.int 6 0), (Value.int 0 0), (Value.ref 27), (Value.int 28 0), (Value.int 0 0), (Value.ref 90), (Value.int 41 0), (Value.int 0 0), (Value.ref 126), (Value.int 43 0), (Value.int 0 0), (Value.ref 133), (Value.int 45 0), (Value.int 0 0), (Value.ref 141), (Value.int 54 0), (Value.int 0 0), (Value.ref 149), (Value.int 62 0), (Value.int 0 0), (Value.ref 156), (Value.int 70 0), (Value.int 0 0), (Value.ref 172), (Value.int 81 0), (Value.int 0 0), (Value.ref 179), (Value.int 85 0), (Value.int 0 0), (Value.ref 186), (Value.int 94 0), (Value.int 0 0), (Value.ref 193), (Value.int 103 0), (Value.int 0 0), (Value.ref 200), (Value.int 108 0), (Value.int 0 0), (Value.ref 207)]) #[]
noncomputable def o12_a : Params → Obj := fun P => Obj.mk Value.none none (Data.fields #[]) #[]
noncomputable def o12_b : Params → Obj := fun P => Obj.mk Value.none none (Data.fields #[]) #[]
noncomputable def o13 : Params → Obj := fun P => Obj.mk (Value.type "code") none (Data.fields #[(Value.str (Str.ofString "<module>") 182), (Value.str (Str.ofString "<module>") 183), (Value.str (Str.ofString "/claim/cut.py") 184), (Value.int 1 0), (Value.int 0 0), (Value.int 0 0), (Value.int 0 0), (Value.int 0 0), (Value.ref 11), (Value.bool false), (Value.int 181 0), (Value.ref 12), Value.none, Value.none, Value.none, Value.none, (Value.int 185 0), (Value.int 1 0), (Value.str (Str.ofString "/claim/cut.py") 186)]) #[]
noncomputable def o14 : Params → Obj := fun P => Obj.mk (Value.type "frame") none Data.plain #[some (Value.ref 13), some (Value.ref 3), some (Value.ref 3), none, some (Value.str (Str.ofString "__main__") 164), none, some (Value.ref 0)]
noncomputable def o15 : Params → Obj := fun P => Obj.mk (Value.type "tuple") none (Data.seq #[]) #[]
noncomputable def o16 : Params → Obj := fun P => Obj.mk Value.none none (Data.fields #[]) #[]
noncomputable def o17 : Params → Obj := fun P => Obj.mk (Value.type "tuple") none (Data.seq #[(Value.str (Str.ofString "k") 190)]) #[]
noncomputable def o18 : Params → Obj := fun P => Obj.mk (Value.type "tuple") none (Data.seq #[]) #[]
noncomputable def o19 : Params → Obj := fun P => fnS (stm 0) "_wall"
noncomputable def o20 : Params → Obj := fun P => Obj.mk (Value.type "code") none (Data.fields #[(Value.str (Str.ofString "_wall") 187), (Value.str (Str.ofString "_wall") 188), (Value.str (Str.ofString "/claim/cut.py") 189), (Value.int 1 0), (Value.int 1 0), (Value.int 0 0), (Value.int 0 0), (Value.int 3 0), (Value.ref 15), (Value.bool true), (Value.int 181 0), (Value.ref 16), Value.none, (Value.ref 17), (Value.ref 18), (Value.ref 19), (Value.int 191 0), (Value.int 1 0), (Value.str (Str.ofString "/claim/cut.py") 192)]) #[]
noncomputable def o21 : Params → Obj := fun P => fnO (stm 0) "_wall" Value.none Value.none (Value.str (Str.ofString "__main__") 164) (Value.ref 20)
noncomputable def o22 : Params → Obj := fun P => Obj.mk (Value.type "tuple") none (Data.seq #[]) #[]
noncomputable def o23 : Params → Obj := fun P => Obj.mk Value.none none (Data.fields #[]) #[]
noncomputable def o24 : Params → Obj := fun P => Obj.mk (Value.type "tuple") none (Data.seq #[(Value.str (Str.ofString "octets") 201), (Value.str (Str.ofString "number") 202), (Value.str (Str.ofString "many") 203), (Value.str (Str.ofString "octet") 204)]) #[]
noncomputable def o25 : Params → Obj := fun P => Obj.mk (Value.type "tuple") none (Data.seq #[]) #[]
noncomputable def o26 : Params → Obj := fun P => fnS (stm 3) "number_of"
noncomputable def o27 : Params → Obj := fun P => Obj.mk (Value.type "code") none (Data.fields #[(Value.str (Str.ofString "number_of") 198), (Value.str (Str.ofString "number_of") 199), (Value.str (Str.ofString "/claim/cut.py") 200), (Value.int 6 0), (Value.int 1 0), (Value.int 0 0), (Value.int 0 0), (Value.int 3 0), (Value.ref 22), (Value.bool true), (Value.int 181 0), (Value.ref 23), Value.none, (Value.ref 24), (Value.ref 25), (Value.ref 26), (Value.int 205 0), (Value.int 6 0), (Value.str (Str.ofString "/claim/cut.py") 206)]) #[]
noncomputable def o28 : Params → Obj := fun P => fnO (stm 3) "number_of" Value.none Value.none (Value.str (Str.ofString "termcore.base") 194) (Value.ref 27)
noncomputable def o29 : Params → Obj := fun P => Obj.mk (Value.type "tuple") none (Data.seq #[(Value.bytes #[85, 112] 220), (Value.int 65 221)]) #[]
noncomputable def o30 : Params → Obj := fun P => Obj.mk (Value.type "tuple") none (Data.seq #[(Value.bytes #[68, 111, 119, 110] 222), (Value.int 66 223)]) #[]
noncomputable def o31 : Params → Obj := fun P => Obj.mk (Value.type "tuple") none (Data.seq #[(Value.bytes #[82, 105, 103, 104, 116] 224), (Value.int 67 225)]) #[]
noncomputable def o32 : Params → Obj := fun P => Obj.mk (Value.type "tuple") none (Data.seq #[(Value.bytes #[76, 101, 102, 116] 226), (Value.int 68 227)]) #[]
noncomputable def o33 : Params → Obj := fun P => Obj.mk (Value.type "tuple") none (Data.seq #[(Value.bytes #[69, 110, 100] 228), (Value.int 70 229)]) #[]
noncomputable def o34 : Params → Obj := fun P => Obj.mk (Value.type "tuple") none (Data.seq #[(Value.bytes #[72, 111, 109, 101] 230), (Value.int 72 231)]) #[]
noncomputable def o35 : Params → Obj := fun P => Obj.mk (Value.type "tuple") none (Data.seq #[(Value.bytes #[70, 49] 232), (Value.int 80 233)]) #[]
noncomputable def o36 : Params → Obj := fun P => Obj.mk (Value.type "tuple") none (Data.seq #[(Value.bytes #[70, 50] 234), (Value.int 81 235)]) #[]
noncomputable def o37 : Params → Obj := fun P => Obj.mk (Value.type "tuple") none (Data.seq #[(Value.bytes #[70, 51] 236), (Value.int 82 237)]) #[]
noncomputable def o38 : Params → Obj := fun P => Obj.mk (Value.type "tuple") none (Data.seq #[(Value.bytes #[70, 52] 238), (Value.int 83 239)]) #[]
noncomputable def o39 : Params → Obj := fun P => Obj.mk (Value.type "tuple") none (Data.seq #[(Value.ref 29), (Value.ref 30), (Value.ref 31), (Value.ref 32), (Value.ref 33), (Value.ref 34), (Value.ref 35), (Value.ref 36), (Value.ref 37), (Value.ref 38)]) #[]
noncomputable def o40 : Params → Obj := fun P => Obj.mk (Value.type "tuple") none (Data.seq #[(Value.bytes #[73, 110, 115, 101, 114, 116] 241), (Value.int 2 242)]) #[]
noncomputable def o41 : Params → Obj := fun P => Obj.mk (Value.type "tuple") none (Data.seq #[(Value.bytes #[68, 101, 108, 101, 116, 101] 243), (Value.int 3 244)]) #[]
noncomputable def o42 : Params → Obj := fun P => Obj.mk (Value.type "tuple") none (Data.seq #[(Value.bytes #[80, 97, 103, 101, 85, 112] 245), (Value.int 5 246)]) #[]
noncomputable def o43 : Params → Obj := fun P => Obj.mk (Value.type "tuple") none (Data.seq #[(Value.bytes #[80, 97, 103, 101, 68, 111, 119, 110] 247), (Value.int 6 248)]) #[]
noncomputable def o44 : Params → Obj := fun P => Obj.mk (Value.type "tuple") none (Data.seq #[(Value.bytes #[70, 53] 249), (Value.int 15 250)]) #[]
noncomputable def o45 : Params → Obj := fun P => Obj.mk (Value.type "tuple") none (Data.seq #[(Value.bytes #[70, 54] 251), (Value.int 17 252)]) #[]
noncomputable def o46 : Params → Obj := fun P => Obj.mk (Value.type "tuple") none (Data.seq #[(Value.bytes #[70, 55] 253), (Value.int 18 254)]) #[]
noncomputable def o47 : Params → Obj := fun P => Obj.mk (Value.type "tuple") none (Data.seq #[(Value.bytes #[70, 56] 255), (Value.int 19 256)]) #[]
noncomputable def o48 : Params → Obj := fun P => Obj.mk (Value.type "tuple") none (Data.seq #[(Value.bytes #[70, 57] 257), (Value.int 20 258)]) #[]
noncomputable def o49 : Params → Obj := fun P => Obj.mk (Value.type "tuple") none (Data.seq #[(Value.bytes #[70, 49, 48] 259), (Value.int 21 260)]) #[]
noncomputable def o50 : Params → Obj := fun P => Obj.mk (Value.type "tuple") none (Data.seq #[(Value.bytes #[70, 49, 49] 261), (Value.int 23 262)]) #[]
noncomputable def o51 : Params → Obj := fun P => Obj.mk (Value.type "tuple") none (Data.seq #[(Value.bytes #[70, 49, 50] 263), (Value.int 24 264)]) #[]
noncomputable def o52 : Params → Obj := fun P => Obj.mk (Value.type "tuple") none (Data.seq #[(Value.bytes #[70, 49, 51] 265), (Value.int 25 266)]) #[]
noncomputable def o53 : Params → Obj := fun P => Obj.mk (Value.type "tuple") none (Data.seq #[(Value.bytes #[70, 49, 52] 267), (Value.int 26 268)]) #[]
noncomputable def o54 : Params → Obj := fun P => Obj.mk (Value.type "tuple") none (Data.seq #[(Value.bytes #[70, 49, 53] 269), (Value.int 28 270)]) #[]
noncomputable def o55 : Params → Obj := fun P => Obj.mk (Value.type "tuple") none (Data.seq #[(Value.bytes #[70, 49, 54] 271), (Value.int 29 272)]) #[]
noncomputable def o56 : Params → Obj := fun P => Obj.mk (Value.type "tuple") none (Data.seq #[(Value.bytes #[70, 49, 55] 273), (Value.int 31 274)]) #[]
noncomputable def o57 : Params → Obj := fun P => Obj.mk (Value.type "tuple") none (Data.seq #[(Value.bytes #[70, 49, 56] 275), (Value.int 32 276)]) #[]
noncomputable def o58 : Params → Obj := fun P => Obj.mk (Value.type "tuple") none (Data.seq #[(Value.bytes #[70, 49, 57] 277), (Value.int 33 278)]) #[]
noncomputable def o59 : Params → Obj := fun P => Obj.mk (Value.type "tuple") none (Data.seq #[(Value.bytes #[70, 50, 48] 279), (Value.int 34 280)]) #[]
noncomputable def o60 : Params → Obj := fun P => Obj.mk (Value.type "tuple") none (Data.seq #[(Value.ref 40), (Value.ref 41), (Value.ref 42), (Value.ref 43), (Value.ref 44), (Value.ref 45), (Value.ref 46), (Value.ref 47), (Value.ref 48), (Value.ref 49), (Value.ref 50), (Value.ref 51), (Value.ref 52), (Value.ref 53), (Value.ref 54), (Value.ref 55), (Value.ref 56), (Value.ref 57), (Value.ref 58), (Value.ref 59)]) #[]
noncomputable def o61 : Params → Obj := fun P => Obj.mk (Value.type "tuple") none (Data.seq #[(Value.bytes #[84, 97, 98] 282), (Value.int 9 283)]) #[]
noncomputable def o62 : Params → Obj := fun P => Obj.mk (Value.type "tuple") none (Data.seq #[(Value.bytes #[69, 110, 116, 101, 114] 284), (Value.int 13 285)]) #[]
noncomputable def o63 : Params → Obj := fun P => Obj.mk (Value.type "tuple") none (Data.seq #[(Value.bytes #[69, 115, 99, 97, 112, 101] 286), (Value.int 27 287)]) #[]
noncomputable def o64 : Params → Obj := fun P => Obj.mk (Value.type "tuple") none (Data.seq #[(Value.bytes #[66, 83, 112, 97, 99, 101] 288), (Value.int 127 289)]) #[]
noncomputable def o65 : Params → Obj := fun P => Obj.mk (Value.type "tuple") none (Data.seq #[(Value.ref 61), (Value.ref 62), (Value.ref 63), (Value.ref 64)]) #[]
noncomputable def o66 : Params → Obj := fun P => Obj.mk (Value.type "tuple") none (Data.seq #[(Value.bytes #[75, 80, 48] 291), (Value.int 112 292), (Value.int 48 293), (Value.int 57399 294)]) #[]
noncomputable def o67 : Params → Obj := fun P => Obj.mk (Value.type "tuple") none (Data.seq #[(Value.bytes #[75, 80, 49] 295), (Value.int 113 296), (Value.int 49 297), (Value.int 57400 298)]) #[]
noncomputable def o68 : Params → Obj := fun P => Obj.mk (Value.type "tuple") none (Data.seq #[(Value.bytes #[75, 80, 50] 299), (Value.int 114 300), (Value.int 50 301), (Value.int 57401 302)]) #[]
noncomputable def o69 : Params → Obj := fun P => Obj.mk (Value.type "tuple") none (Data.seq #[(Value.bytes #[75, 80, 51] 303), (Value.int 115 304), (Value.int 51 305), (Value.int 57402 306)]) #[]
noncomputable def o70 : Params → Obj := fun P => Obj.mk (Value.type "tuple") none (Data.seq #[(Value.bytes #[75, 80, 52] 307), (Value.int 116 308), (Value.int 52 309), (Value.int 57403 310)]) #[]
noncomputable def o71 : Params → Obj := fun P => Obj.mk (Value.type "tuple") none (Data.seq #[(Value.bytes #[75, 80, 53] 311), (Value.int 117 312), (Value.int 53 313), (Value.int 57404 314)]) #[]
noncomputable def o72 : Params → Obj := fun P => Obj.mk (Value.type "tuple") none (Data.seq #[(Value.bytes #[75, 80, 54] 315), (Value.int 118 316), (Value.int 54 317), (Value.int 57405 318)]) #[]
noncomputable def o73 : Params → Obj := fun P => Obj.mk (Value.type "tuple") none (Data.seq #[(Value.bytes #[75, 80, 55] 319), (Value.int 119 320), (Value.int 55 321), (Value.int 57406 322)]) #[]
noncomputable def o74 : Params → Obj := fun P => Obj.mk (Value.type "tuple") none (Data.seq #[(Value.bytes #[75, 80, 56] 323), (Value.int 120 324), (Value.int 56 325), (Value.int 57407 326)]) #[]
noncomputable def o75 : Params → Obj := fun P => Obj.mk (Value.type "tuple") none (Data.seq #[(Value.bytes #[75, 80, 57] 327), (Value.int 121 328), (Value.int 57 329), (Value.int 57408 330)]) #[]
noncomputable def o76 : Params → Obj := fun P => Obj.mk (Value.type "tuple") none (Data.seq #[(Value.bytes #[75, 80, 46] 331), (Value.int 110 332), (Value.int 46 333), (Value.int 57409 334)]) #[]
noncomputable def o77 : Params → Obj := fun P => Obj.mk (Value.type "tuple") none (Data.seq #[(Value.bytes #[75, 80, 47] 335), (Value.int 111 336), (Value.int 47 337), (Value.int 57410 338)]) #[]
noncomputable def o78 : Params → Obj := fun P => Obj.mk (Value.type "tuple") none (Data.seq #[(Value.bytes #[75, 80, 42] 339), (Value.int 106 340), (Value.int 42 341), (Value.int 57411 342)]) #[]
noncomputable def o79 : Params → Obj := fun P => Obj.mk (Value.type "tuple") none (Data.seq #[(Value.bytes #[75, 80, 45] 343), (Value.int 109 344), (Value.int 45 345), (Value.int 57412 346)]) #[]
noncomputable def o80 : Params → Obj := fun P => Obj.mk (Value.type "tuple") none (Data.seq #[(Value.bytes #[75, 80, 43] 347), (Value.int 107 348), (Value.int 43 349), (Value.int 57413 350)]) #[]
noncomputable def o81 : Params → Obj := fun P => Obj.mk (Value.type "tuple") none (Data.seq #[(Value.bytes #[75, 80, 69, 110, 116, 101, 114] 351), (Value.int 77 352), (Value.int 13 353), (Value.int 57414 354)]) #[]
noncomputable def o82 : Params → Obj := fun P => Obj.mk (Value.type "tuple") none (Data.seq #[(Value.bytes #[75, 80, 61] 355), (Value.int 88 356), (Value.int 61 357), (Value.int 57415 358)]) #[]
noncomputable def o83 : Params → Obj := fun P => Obj.mk (Value.type "tuple") none (Data.seq #[(Value.bytes #[75, 80, 44] 359), (Value.int 108 360), (Value.int 44 361), (Value.int 57416 362)]) #[]
noncomputable def o84 : Params → Obj := fun P => Obj.mk (Value.type "tuple") none (Data.seq #[(Value.ref 66), (Value.ref 67), (Value.ref 68), (Value.ref 69), (Value.ref 70), (Value.ref 71), (Value.ref 72), (Value.ref 73), (Value.ref 74), (Value.ref 75), (Value.ref 76), (Value.ref 77), (Value.ref 78), (Value.ref 79), (Value.ref 80), (Value.ref 81), (Value.ref 82), (Value.ref 83)]) #[]
noncomputable def o85 : Params → Obj := fun P => Obj.mk (Value.type "tuple") none (Data.seq #[]) #[]
noncomputable def o86 : Params → Obj := fun P => Obj.mk (Value.type "builtin_function_or_method") none (Data.fields #[(Value.builtin "type.__prepare__"), (Value.type "type")]) #[]
noncomputable def o87 : Params → Obj := fun P => Obj.mk (Value.type "dict") none (Data.dict #[DictEntry.mk (PyData.keyHash P (Str.ofString "__module__")) (Value.str (Str.ofString "__module__") 371) (Value.str (Str.ofString "termcore.keyboard") 208), DictEntry.mk (PyData.keyHash P (Str.ofString "__qualname__")) (Value.str (Str.ofString "__qualname__") 373) (Value.str (Str.ofString "Key") 372), DictEntry.mk (PyData.keyHash P (Str.ofString "__firstlineno__")) (Value.str (Str.ofString "__firstlineno__") 375) (Value.int 28 374), DictEntry.mk (PyData.keyHash P (Str.ofString "__init__")) (Value.str (Str.ofString "__init__") 387) (Value.ref 99), DictEntry.mk (PyData.keyHash P (Str.ofString "with_held")) (Value.str (Str.ofString "with_held") 395) (Value.ref 106), DictEntry.mk (PyData.keyHash P (Str.ofString "told")) (Value.str (Str.ofString "told") 402) (Value.ref 113), DictEntry.mk (PyData.keyHash P (Str.ofString "__static_attributes__")) (Value.str (Str.ofString "__static_attributes__") 407) (Value.ref 114)] 7) #[]
noncomputable def o88 : Params → Obj := fun P => Obj.mk (Value.type "tuple") none (Data.seq #[]) #[]
noncomputable def o89 : Params → Obj := fun P => Obj.mk Value.none none (Data.fields #[(Value.int 30 0), (Value.int 4 0), (Value.ref 98), (Value.int 36 0), (Value.int 4 0), (Value.ref 105), (Value.int 39 0), (Value.int 4 0), (Value.ref 112)]) #[]
noncomputable def o90 : Params → Obj := fun P => Obj.mk (Value.type "code") none (Data.fields #[(Value.str (Str.ofString "Key") 366), (Value.str (Str.ofString "Key") 367), (Value.str (Str.ofString "/claim/cut.py") 368), (Value.int 28 0), (Value.int 0 0), (Value.int 0 0), (Value.int 0 0), (Value.int 0 0), (Value.ref 88), (Value.bool false), (Value.int 181 0), (Value.ref 89), Value.none, Value.none, Value.none, Value.none, (Value.int 369 0), (Value.int 28 0), (Value.str (Str.ofString "/claim/cut.py") 370)]) #[]
noncomputable def o91 : Params → Obj := fun P => Obj.mk (Value.type "frame") none Data.plain #[some (Value.ref 90), some (Value.ref 3), some (Value.ref 87), none, some (Value.str (Str.ofString "termcore.keyboard") 208), none, some (Value.ref 0)]
noncomputable def o92 : Params → Obj := fun P => Obj.mk (Value.type "tuple") none (Data.seq #[(Value.int 0 376), (Value.int 1 216)]) #[]
noncomputable def o93 : Params → Obj := fun P => Obj.mk (Value.type "tuple") none (Data.seq #[]) #[]
noncomputable def o94 : Params → Obj := fun P => Obj.mk Value.none none (Data.fields #[]) #[]
noncomputable def o95 : Params → Obj := fun P => Obj.mk (Value.type "tuple") none (Data.seq #[(Value.str (Str.ofString "self") 380), (Value.str (Str.ofString "name") 381), (Value.str (Str.ofString "code") 382), (Value.str (Str.ofString "held") 383), (Value.str (Str.ofString "event") 384)]) #[]
noncomputable def o96 : Params → Obj := fun P => Obj.mk (Value.type "tuple") none (Data.seq #[]) #[]
noncomputable def o97 : Params → Obj := fun P => fnS (sub (stm 14) 0) "Key.__init__"
noncomputable def o98 : Params → Obj := fun P => Obj.mk (Value.type "code") none (Data.fields #[(Value.str (Str.ofString "__init__") 377), (Value.str (Str.ofString "Key.__init__") 378), (Value.str (Str.ofString "/claim/cut.py") 379), (Value.int 30 0), (Value.int 5 0), (Value.int 0 0), (Value.int 0 0), (Value.int 3 0), (Value.ref 93), (Value.bool true), (Value.int 181 0), (Value.ref 94), Value.none, (Value.ref 95), (Value.ref 96), (Value.ref 97), (Value.int 385 0), (Value.int 30 0), (Value.str (Str.ofString "/claim/cut.py") 386)]) #[]
noncomputable def o99 : Params → Obj := fun P => fnO (sub (stm 14) 0) "Key.__init__" (Value.ref 92) Value.none (Value.str (Str.ofString "termcore.keyboard") 208) (Value.ref 98)
noncomputable def o100 : Params → Obj := fun P => Obj.mk (Value.type "tuple") none (Data.seq #[]) #[]
noncomputable def o101 : Params → Obj := fun P => Obj.mk Value.none none (Data.fields #[]) #[]
noncomputable def o102 : Params → Obj := fun P => Obj.mk (Value.type "tuple") none (Data.seq #[(Value.str (Str.ofString "self") 391), (Value.str (Str.ofString "more") 392)]) #[]
noncomputable def o103 : Params → Obj := fun P => Obj.mk (Value.type "tuple") none (Data.seq #[]) #[]
noncomputable def o104 : Params → Obj := fun P => fnS (sub (stm 14) 1) "Key.with_held"
noncomputable def o105 : Params → Obj := fun P => Obj.mk (Value.type "code") none (Data.fields #[(Value.str (Str.ofString "with_held") 388), (Value.str (Str.ofString "Key.with_held") 389), (Value.str (Str.ofString "/claim/cut.py") 390), (Value.int 36 0), (Value.int 2 0), (Value.int 0 0), (Value.int 0 0), (Value.int 3 0), (Value.ref 100), (Value.bool true), (Value.int 181 0), (Value.ref 101), Value.none, (Value.ref 102), (Value.ref 103), (Value.ref 104), (Value.int 393 0), (Value.int 36 0), (Value.str (Str.ofString "/claim/cut.py") 394)]) #[]
noncomputable def o106 : Params → Obj := fun P => fnO (sub (stm 14) 1) "Key.with_held" Value.none Value.none (Value.str (Str.ofString "termcore.keyboard") 208) (Value.ref 105)
noncomputable def o107 : Params → Obj := fun P => Obj.mk (Value.type "tuple") none (Data.seq #[]) #[]
noncomputable def o108 : Params → Obj := fun P => Obj.mk Value.none none (Data.fields #[]) #[]
noncomputable def o109 : Params → Obj := fun P => Obj.mk (Value.type "tuple") none (Data.seq #[(Value.str (Str.ofString "self") 399)]) #[]
noncomputable def o110 : Params → Obj := fun P => Obj.mk (Value.type "tuple") none (Data.seq #[]) #[]
noncomputable def o111 : Params → Obj := fun P => fnS (sub (stm 14) 2) "Key.told"
noncomputable def o112 : Params → Obj := fun P => Obj.mk (Value.type "code") none (Data.fields #[(Value.str (Str.ofString "told") 396), (Value.str (Str.ofString "Key.told") 397), (Value.str (Str.ofString "/claim/cut.py") 398), (Value.int 39 0), (Value.int 1 0), (Value.int 0 0), (Value.int 0 0), (Value.int 3 0), (Value.ref 107), (Value.bool true), (Value.int 181 0), (Value.ref 108), Value.none, (Value.ref 109), (Value.ref 110), (Value.ref 111), (Value.int 400 0), (Value.int 39 0), (Value.str (Str.ofString "/claim/cut.py") 401)]) #[]
noncomputable def o113 : Params → Obj := fun P => fnO (sub (stm 14) 2) "Key.told" Value.none Value.none (Value.str (Str.ofString "termcore.keyboard") 208) (Value.ref 112)
noncomputable def o114 : Params → Obj := fun P => Obj.mk (Value.type "tuple") none (Data.seq #[(Value.str (Str.ofString "code") 403), (Value.str (Str.ofString "event") 404), (Value.str (Str.ofString "held") 405), (Value.str (Str.ofString "name") 406)]) #[]
noncomputable def o115 : Params → Obj := fun P => Obj.mk (Value.type "dict") none (Data.dict #[DictEntry.mk (PyData.keyHash P (Str.ofString "__module__")) (Value.str (Str.ofString "__module__") 371) (Value.str (Str.ofString "termcore.keyboard") 208), DictEntry.mk (PyData.keyHash P (Str.ofString "__firstlineno__")) (Value.str (Str.ofString "__firstlineno__") 375) (Value.int 28 374), DictEntry.mk (PyData.keyHash P (Str.ofString "__init__")) (Value.str (Str.ofString "__init__") 387) (Value.ref 99), DictEntry.mk (PyData.keyHash P (Str.ofString "with_held")) (Value.str (Str.ofString "with_held") 395) (Value.ref 106), DictEntry.mk (PyData.keyHash P (Str.ofString "told")) (Value.str (Str.ofString "told") 402) (Value.ref 113), DictEntry.mk (PyData.keyHash P (Str.ofString "__static_attributes__")) (Value.str (Str.ofString "__static_attributes__") 407) (Value.ref 114), DictEntry.mk (PyData.keyHash P (Str.ofString "__dict__")) (Value.str (Str.ofString "__dict__") 409) (Value.ref 117), DictEntry.mk (PyData.keyHash P (Str.ofString "__weakref__")) (Value.str (Str.ofString "__weakref__") 411) (Value.ref 118), DictEntry.mk (PyData.keyHash P (Str.ofString "__doc__")) (Value.str (Str.ofString "__doc__") 412) Value.none] 4) #[]
noncomputable def o116 : Params → Obj := fun P => Obj.mk (Value.type "type") none (Data.cls (ClassData.mk (Str.ofString "Key") [(Value.type "object")] [(Value.ref 116), (Value.type "object")] 115 (Str.ofString "Key") true [] [] false none false)) #[none, none, some (Value.str (Str.ofString "Key") 364), some (Value.str (Str.ofString "Key") 372), some (Value.builtin "object.__new__"), some (Value.bool true)]
noncomputable def o117 : Params → Obj := fun P => Obj.mk (Value.type "getset_descriptor") none (Data.fields #[(Value.str (Str.ofString "__dict__") 408), (Value.ref 116), (Value.builtin "function.__dict__"), (Value.builtin "function.__dict__#set")]) #[]
noncomputable def o118 : Params → Obj := fun P => Obj.mk (Value.type "getset_descriptor") none (Data.fields #[(Value.str (Str.ofString "__weakref__") 410), (Value.ref 116), (Value.builtin "ExceptionGroup.__weakref__"), Value.none]) #[]
noncomputable def o119 : Params → Obj := fun P => Obj.mk (Value.type "super") none (Data.fields #[(Value.ref 116), (Value.ref 116), (Value.ref 116)]) #[]
noncomputable def o120 : Params → Obj := fun P => Obj.mk (Value.type "builtin_function_or_method") none (Data.fields #[(Value.builtin "object.__init_subclass__"), (Value.ref 116)]) #[]
noncomputable def o121 : Params → Obj := fun P => Obj.mk (Value.type "tuple") none (Data.seq #[]) #[]
noncomputable def o122 : Params → Obj := fun P => Obj.mk Value.none none (Data.fields #[]) #[]
noncomputable def o123 : Params → Obj := fun P => Obj.mk (Value.type "tuple") none (Data.seq #[(Value.str (Str.ofString "code") 418)]) #[]
noncomputable def o124 : Params → Obj := fun P => Obj.mk (Value.type "tuple") none (Data.seq #[]) #[]
noncomputable def o125 : Params → Obj := fun P => fnS (stm 15) "key_is_capital"
noncomputable def o126 : Params → Obj := fun P => Obj.mk (Value.type "code") none (Data.fields #[(Value.str (Str.ofString "key_is_capital") 415), (Value.str (Str.ofString "key_is_capital") 416), (Value.str (Str.ofString "/claim/cut.py") 417), (Value.int 41 0), (Value.int 1 0), (Value.int 0 0), (Value.int 0 0), (Value.int 3 0), (Value.ref 121), (Value.bool true), (Value.int 181 0), (Value.ref 122), Value.none, (Value.ref 123), (Value.ref 124), (Value.ref 125), (Value.int 419 0), (Value.int 41 0), (Value.str (Str.ofString "/claim/cut.py") 420)]) #[]
noncomputable def o127 : Params → Obj := fun P => fnO (stm 15) "key_is_capital" Value.none Value.none (Value.str (Str.ofString "termcore.keyboard") 208) (Value.ref 126)
noncomputable def o128 : Params → Obj := fun P => Obj.mk (Value.type "tuple") none (Data.seq #[]) #[]
noncomputable def o129 : Params → Obj := fun P => Obj.mk Value.none none (Data.fields #[]) #[]
noncomputable def o130 : Params → Obj := fun P => Obj.mk (Value.type "tuple") none (Data.seq #[(Value.str (Str.ofString "code") 425)]) #[]
noncomputable def o131 : Params → Obj := fun P => Obj.mk (Value.type "tuple") none (Data.seq #[]) #[]
noncomputable def o132 : Params → Obj := fun P => fnS (stm 16) "key_is_small"
noncomputable def o133 : Params → Obj := fun P => Obj.mk (Value.type "code") none (Data.fields #[(Value.str (Str.ofString "key_is_small") 422), (Value.str (Str.ofString "key_is_small") 423), (Value.str (Str.ofString "/claim/cut.py") 424), (Value.int 43 0), (Value.int 1 0), (Value.int 0 0), (Value.int 0 0), (Value.int 3 0), (Value.ref 128), (Value.bool true), (Value.int 181 0), (Value.ref 129), Value.none, (Value.ref 130), (Value.ref 131), (Value.ref 132), (Value.int 426 0), (Value.int 43 0), (Value.str (Str.ofString "/claim/cut.py") 427)]) #[]
noncomputable def o134 : Params → Obj := fun P => fnO (stm 16) "key_is_small" Value.none Value.none (Value.str (Str.ofString "termcore.keyboard") 208) (Value.ref 133)
noncomputable def o135 : Params → Obj := fun P => Obj.mk (Value.type "tuple") none (Data.seq #[(Value.int 1 216)]) #[]
noncomputable def o136 : Params → Obj := fun P => Obj.mk (Value.type "tuple") none (Data.seq #[]) #[]
noncomputable def o137 : Params → Obj := fun P => Obj.mk Value.none none (Data.fields #[]) #[]
noncomputable def o138 : Params → Obj := fun P => Obj.mk (Value.type "tuple") none (Data.seq #[(Value.str (Str.ofString "name") 432), (Value.str (Str.ofString "code") 433), (Value.str (Str.ofString "held") 434), (Value.str (Str.ofString "event") 435)]) #[]
noncomputable def o139 : Params → Obj := fun P => Obj.mk (Value.type "tuple") none (Data.seq #[]) #[]
noncomputable def o140 : Params → Obj := fun P => fnS (stm 17) "key_settled"
noncomputable def o141 : Params → Obj := fun P => Obj.mk (Value.type "code") none (Data.fields #[(Value.str (Str.ofString "key_settled") 429), (Value.str (Str.ofString "key_settled") 430), (Value.str (Str.ofString "/claim/cut.py") 431), (Value.int 45 0), (Value.int 4 0), (Value.int 0 0), (Value.int 0 0), (Value.int 3 0), (Value.ref 136), (Value.bool true), (Value.int 181 0), (Value.ref 137), Value.none, (Value.ref 138), (Value.ref 139), (Value.ref 140), (Value.int 436 0), (Value.int 45 0), (Value.str (Str.ofString "/claim/cut.py") 437)]) #[]
noncomputable def o142 : Params → Obj := fun P => fnO (stm 17) "key_settled" (Value.ref 135) Value.none (Value.str (Str.ofString "termcore.keyboard") 208) (Value.ref 141)
noncomputable def o143 : Params → Obj := fun P => Obj.mk (Value.type "tuple") none (Data.seq #[(Value.int 0 439), (Value.int 1 216)]) #[]
noncomputable def o144 : Params → Obj := fun P => Obj.mk (Value.type "tuple") none (Data.seq #[]) #[]
noncomputable def o145 : Params → Obj := fun P => Obj.mk Value.none none (Data.fields #[]) #[]
noncomputable def o146 : Params → Obj := fun P => Obj.mk (Value.type "tuple") none (Data.seq #[(Value.str (Str.ofString "code") 443), (Value.str (Str.ofString "held") 444), (Value.str (Str.ofString "event") 445), (Value.str (Str.ofString "name") 446), (Value.str (Str.ofString "own") 447), (Value.str (Str.ofString "final") 448), (Value.str (Str.ofString "plain") 449)]) #[]
noncomputable def o147 : Params → Obj := fun P => Obj.mk (Value.type "tuple") none (Data.seq #[]) #[]
noncomputable def o148 : Params → Obj := fun P => fnS (stm 18) "key_of_code"
noncomputable def o149 : Params → Obj := fun P => Obj.mk (Value.type "code") none (Data.fields #[(Value.str (Str.ofString "key_of_code") 440), (Value.str (Str.ofString "key_of_code") 441), (Value.str (Str.ofString "/claim/cut.py") 442), (Value.int 54 0), (Value.int 3 0), (Value.int 0 0), (Value.int 0 0), (Value.int 3 0), (Value.ref 144), (Value.bool true), (Value.int 181 0), (Value.ref 145), Value.none, (Value.ref 146), (Value.ref 147), (Value.ref 148), (Value.int 450 0), (Value.int 54 0), (Value.str (Str.ofString "/claim/cut.py") 451)]) #[]
noncomputable def o150 : Params → Obj := fun P => fnO (stm 18) "key_of_code" (Value.ref 143) Value.none (Value.str (Str.ofString "termcore.keyboard") 208) (Value.ref 149)
noncomputable def o151 : Params → Obj := fun P => Obj.mk (Value.type "tuple") none (Data.seq #[]) #[]
noncomputable def o152 : Params → Obj := fun P => Obj.mk Value.none none (Data.fields #[]) #[]
noncomputable def o153 : Params → Obj := fun P => Obj.mk (Value.type "tuple") none (Data.seq #[(Value.str (Str.ofString "rows") 456), (Value.str (Str.ofString "number") 457), (Value.str (Str.ofString "name") 458), (Value.str (Str.ofString "one") 459)]) #[]
noncomputable def o154 : Params → Obj := fun P => Obj.mk (Value.type "tuple") none (Data.seq #[]) #[]
noncomputable def o155 : Params → Obj := fun P => fnS (stm 19) "key_name"
noncomputable def o156 : Params → Obj := fun P => Obj.mk (Value.type "code") none (Data.fields #[(Value.str (Str.ofString "key_name") 453), (Value.str (Str.ofString "key_name") 454), (Value.str (Str.ofString "/claim/cut.py") 455), (Value.int 62 0), (Value.int 2 0), (Value.int 0 0), (Value.int 0 0), (Value.int 3 0), (Value.ref 151), (Value.bool true), (Value.int 181 0), (Value.ref 152), Value.none, (Value.ref 153), (Value.ref 154), (Value.ref 155), (Value.int 460 0), (Value.int 62 0), (Value.str (Str.ofString "/claim/cut.py") 461)]) #[]
noncomputable def o157 : Params → Obj := fun P => fnO (stm 19) "key_name" Value.none Value.none (Value.str (Str.ofString "termcore.keyboard") 208) (Value.ref 156)
noncomputable def o158 : Params → Obj := fun P => Obj.mk (Value.type "tuple") none (Data.seq #[(Value.bytes #[72, 111, 109, 101] 468), (Value.int 1 469)]) #[]
noncomputable def o159 : Params → Obj := fun P => Obj.mk (Value.type "tuple") none (Data.seq #[(Value.bytes #[69, 110, 100] 470), (Value.int 4 471)]) #[]
noncomputable def o160 : Params → Obj := fun P => Obj.mk (Value.type "tuple") none (Data.seq #[(Value.bytes #[72, 111, 109, 101] 472), (Value.int 7 473)]) #[]
noncomputable def o161 : Params → Obj := fun P => Obj.mk (Value.type "tuple") none (Data.seq #[(Value.bytes #[69, 110, 100] 474), (Value.int 8 475)]) #[]
noncomputable def o162 : Params → Obj := fun P => Obj.mk (Value.type "tuple") none (Data.seq #[(Value.bytes #[70, 49] 476), (Value.int 11 477)]) #[]
noncomputable def o163 : Params → Obj := fun P => Obj.mk (Value.type "tuple") none (Data.seq #[(Value.bytes #[70, 50] 478), (Value.int 12 479)]) #[]
noncomputable def o164 : Params → Obj := fun P => Obj.mk (Value.type "tuple") none (Data.seq #[(Value.bytes #[70, 51] 480), (Value.int 13 481)]) #[]
noncomputable def o165 : Params → Obj := fun P => Obj.mk (Value.type "tuple") none (Data.seq #[(Value.bytes #[70, 52] 482), (Value.int 14 483)]) #[]
noncomputable def o166 : Params → Obj := fun P => Obj.mk (Value.type "tuple") none (Data.seq #[(Value.ref 158), (Value.ref 159), (Value.ref 160), (Value.ref 161), (Value.ref 162), (Value.ref 163), (Value.ref 164), (Value.ref 165)]) #[]
noncomputable def o167 : Params → Obj := fun P => Obj.mk (Value.type "tuple") none (Data.seq #[]) #[]
noncomputable def o168 : Params → Obj := fun P => Obj.mk Value.none none (Data.fields #[]) #[]
noncomputable def o169 : Params → Obj := fun P => Obj.mk (Value.type "tuple") none (Data.seq #[(Value.str (Str.ofString "body") 488), (Value.str (Str.ofString "found") 489), (Value.str (Str.ofString "part") 490), (Value.str (Str.ofString "row") 491), (Value.str (Str.ofString "word") 492), (Value.str (Str.ofString "number") 493)]) #[]
noncomputable def o170 : Params → Obj := fun P => Obj.mk (Value.type "tuple") none (Data.seq #[]) #[]
noncomputable def o171 : Params → Obj := fun P => fnS (stm 23) "key_fields"
noncomputable def o172 : Params → Obj := fun P => Obj.mk (Value.type "code") none (Data.fields #[(Value.str (Str.ofString "key_fields") 485), (Value.str (Str.ofString "key_fields") 486), (Value.str (Str.ofString "/claim/cut.py") 487), (Value.int 70 0), (Value.int 1 0), (Value.int 0 0), (Value.int 0 0), (Value.int 3 0), (Value.ref 167), (Value.bool true), (Value.int 181 0), (Value.ref 168), Value.none, (Value.ref 169), (Value.ref 170), (Value.ref 171), (Value.int 494 0), (Value.int 70 0), (Value.str (Str.ofString "/claim/cut.py") 495)]) #[]
noncomputable def o173 : Params → Obj := fun P => fnO (stm 23) "key_fields" Value.none Value.none (Value.str (Str.ofString "termcore.keyreader") 463) (Value.ref 172)
noncomputable def o174 : Params → Obj := fun P => Obj.mk (Value.type "tuple") none (Data.seq #[]) #[]
noncomputable def o175 : Params → Obj := fun P => Obj.mk Value.none none (Data.fields #[]) #[]
noncomputable def o176 : Params → Obj := fun P => Obj.mk (Value.type "tuple") none (Data.seq #[(Value.str (Str.ofString "fields") 500), (Value.str (Str.ofString "at") 501), (Value.str (Str.ofString "place") 502), (Value.str (Str.ofString "default") 503)]) #[]
noncomputable def o177 : Params → Obj := fun P => Obj.mk (Value.type "tuple") none (Data.seq #[]) #[]
noncomputable def o178 : Params → Obj := fun P => fnS (stm 24) "key_field"
noncomputable def o179 : Params → Obj := fun P => Obj.mk (Value.type "code") none (Data.fields #[(Value.str (Str.ofString "key_field") 497), (Value.str (Str.ofString "key_field") 498), (Value.str (Str.ofString "/claim/cut.py") 499), (Value.int 81 0), (Value.int 4 0), (Value.int 0 0), (Value.int 0 0), (Value.int 3 0), (Value.ref 174), (Value.bool true), (Value.int 181 0), (Value.ref 175), Value.none, (Value.ref 176), (Value.ref 177), (Value.ref 178), (Value.int 504 0), (Value.int 81 0), (Value.str (Str.ofString "/claim/cut.py") 505)]) #[]
noncomputable def o180 : Params → Obj := fun P => fnO (stm 24) "key_field" Value.none Value.none (Value.str (Str.ofString "termcore.keyreader") 463) (Value.ref 179)
noncomputable def o181 : Params → Obj := fun P => Obj.mk (Value.type "tuple") none (Data.seq #[]) #[]
noncomputable def o182 : Params → Obj := fun P => Obj.mk Value.none none (Data.fields #[]) #[]
noncomputable def o183 : Params → Obj := fun P => Obj.mk (Value.type "tuple") none (Data.seq #[(Value.str (Str.ofString "final") 510), (Value.str (Str.ofString "fields") 511), (Value.str (Str.ofString "held") 512), (Value.str (Str.ofString "event") 513), (Value.str (Str.ofString "name") 514)]) #[]
noncomputable def o184 : Params → Obj := fun P => Obj.mk (Value.type "tuple") none (Data.seq #[]) #[]
noncomputable def o185 : Params → Obj := fun P => fnS (stm 25) "key_by_letter"
noncomputable def o186 : Params → Obj := fun P => Obj.mk (Value.type "code") none (Data.fields #[(Value.str (Str.ofString "key_by_letter") 507), (Value.str (Str.ofString "key_by_letter") 508), (Value.str (Str.ofString "/claim/cut.py") 509), (Value.int 85 0), (Value.int 4 0), (Value.int 0 0), (Value.int 0 0), (Value.int 3 0), (Value.ref 181), (Value.bool true), (Value.int 181 0), (Value.ref 182), Value.none, (Value.ref 183), (Value.ref 184), (Value.ref 185), (Value.int 515 0), (Value.int 85 0), (Value.str (Str.ofString "/claim/cut.py") 516)]) #[]
noncomputable def o187 : Params → Obj := fun P => fnO (stm 25) "key_by_letter" Value.none Value.none (Value.str (Str.ofString "termcore.keyreader") 463) (Value.ref 186)
noncomputable def o188 : Params → Obj := fun P => Obj.mk (Value.type "tuple") none (Data.seq #[]) #[]
noncomputable def o189 : Params → Obj := fun P => Obj.mk Value.none none (Data.fields #[]) #[]
noncomputable def o190 : Params → Obj := fun P => Obj.mk (Value.type "tuple") none (Data.seq #[(Value.str (Str.ofString "fields") 521), (Value.str (Str.ofString "held") 522), (Value.str (Str.ofString "event") 523), (Value.str (Str.ofString "number") 524), (Value.str (Str.ofString "name") 525)]) #[]
noncomputable def o191 : Params → Obj := fun P => Obj.mk (Value.type "tuple") none (Data.seq #[]) #[]
noncomputable def o192 : Params → Obj := fun P => fnS (stm 26) "key_by_number"
noncomputable def o193 : Params → Obj := fun P => Obj.mk (Value.type "code") none (Data.fields #[(Value.str (Str.ofString "key_by_number") 518), (Value.str (Str.ofString "key_by_number") 519), (Value.str (Str.ofString "/claim/cut.py") 520), (Value.int 94 0), (Value.int 3 0), (Value.int 0 0), (Value.int 0 0), (Value.int 3 0), (Value.ref 188), (Value.bool true), (Value.int 181 0), (Value.ref 189), Value.none, (Value.ref 190), (Value.ref 191), (Value.ref 192), (Value.int 526 0), (Value.int 94 0), (Value.str (Str.ofString "/claim/cut.py") 527)]) #[]
noncomputable def o194 : Params → Obj := fun P => fnO (stm 26) "key_by_number" Value.none Value.none (Value.str (Str.ofString "termcore.keyreader") 463) (Value.ref 193)
noncomputable def o195 : Params → Obj := fun P => Obj.mk (Value.type "tuple") none (Data.seq #[]) #[]
noncomputable def o196 : Params → Obj := fun P => Obj.mk Value.none none (Data.fields #[]) #[]
noncomputable def o197 : Params → Obj := fun P => Obj.mk (Value.type "tuple") none (Data.seq #[(Value.str (Str.ofString "code") 532), (Value.str (Str.ofString "held") 533), (Value.str (Str.ofString "event") 534), (Value.str (Str.ofString "is_sign") 535)]) #[]
noncomputable def o198 : Params → Obj := fun P => Obj.mk (Value.type "tuple") none (Data.seq #[]) #[]
noncomputable def o199 : Params → Obj := fun P => fnS (stm 27) "key_by_code"
noncomputable def o200 : Params → Obj := fun P => Obj.mk (Value.type "code") none (Data.fields #[(Value.str (Str.ofString "key_by_code") 529), (Value.str (Str.ofString "key_by_code") 530), (Value.str (Str.ofString "/claim/cut.py") 531), (Value.int 103 0), (Value.int 3 0), (Value.int 0 0), (Value.int 0 0), (Value.int 3 0), (Value.ref 195), (Value.bool true), (Value.int 181 0), (Value.ref 196), Value.none, (Value.ref 197), (Value.ref 198), (Value.ref 199), (Value.int 536 0), (Value.int 103 0), (Value.str (Str.ofString "/claim/cut.py") 537)]) #[]
noncomputable def o201 : Params → Obj := fun P => fnO (stm 27) "key_by_code" Value.none Value.none (Value.str (Str.ofString "termcore.keyreader") 463) (Value.ref 200)
noncomputable def o202 : Params → Obj := fun P => Obj.mk (Value.type "tuple") none (Data.seq #[]) #[]
noncomputable def o203 : Params → Obj := fun P => Obj.mk Value.none none (Data.fields #[]) #[]
noncomputable def o204 : Params → Obj := fun P => Obj.mk (Value.type "tuple") none (Data.seq #[(Value.str (Str.ofString "body") 542), (Value.str (Str.ofString "final") 543), (Value.str (Str.ofString "fields") 544), (Value.str (Str.ofString "held") 545), (Value.str (Str.ofString "event") 546)]) #[]
noncomputable def o205 : Params → Obj := fun P => Obj.mk (Value.type "tuple") none (Data.seq #[]) #[]
noncomputable def o206 : Params → Obj := fun P => fnS (stm 28) "key_of_csi"
noncomputable def o207 : Params → Obj := fun P => Obj.mk (Value.type "code") none (Data.fields #[(Value.str (Str.ofString "key_of_csi") 539), (Value.str (Str.ofString "key_of_csi") 540), (Value.str (Str.ofString "/claim/cut.py") 541), (Value.int 108 0), (Value.int 2 0), (Value.int 0 0), (Value.int 0 0), (Value.int 3 0), (Value.ref 202), (Value.bool true), (Value.int 181 0), (Value.ref 203), Value.none, (Value.ref 204), (Value.ref 205), (Value.ref 206), (Value.int 547 0), (Value.int 108 0), (Value.str (Str.ofString "/claim/cut.py") 548)]) #[]
noncomputable def o208 : Params → Obj := fun P => fnO (stm 28) "key_of_csi" Value.none Value.none (Value.str (Str.ofString "termcore.keyreader") 463) (Value.ref 207)
noncomputable def o209 : Params → Obj := fun P => Obj.mk (Value.type "tuple") none (Data.seq #[]) #[]
noncomputable def o210 : Params → Obj := fun P => Obj.mk Value.none none (Data.fields #[]) #[]
noncomputable def o211 : Params → Obj := fun P => Obj.mk (Value.type "tuple") none (Data.seq #[]) #[]
noncomputable def o212 : Params → Obj := fun P => Obj.mk (Value.type "tuple") none (Data.seq #[]) #[]
noncomputable def o213 : Params → Obj := fun P => fnS (stm 30) "_law_letters"
noncomputable def o214 : Params → Obj := fun P => Obj.mk (Value.type "code") none (Data.fields #[(Value.str (Str.ofString "_law_letters") 552), (Value.str (Str.ofString "_law_letters") 553), (Value.str (Str.ofString "/claim/cut.py") 554), (Value.int 122 0), (Value.int 0 0), (Value.int 0 0), (Value.int 0 0), (Value.int 3 0), (Value.ref 209), (Value.bool true), (Value.int 181 0), (Value.ref 210), Value.none, (Value.ref 211), (Value.ref 212), (Value.ref 213), (Value.int 555 0), (Value.int 122 0), (Value.str (Str.ofString "/claim/cut.py") 556)]) #[]
noncomputable def o215 : Params → Obj := fun P => fnO (stm 30) "_law_letters" Value.none Value.none (Value.str (Str.ofString "law_pq1183_01") 550) (Value.ref 214)
noncomputable def o216 : Params → Obj := fun P => Obj.mk (Value.type "list") none (Data.seq #[(Value.int 65 558), (Value.int 66 559), (Value.int 67 560), (Value.int 68 561), (Value.int 70 562), (Value.int 72 563), (Value.int 80 564), (Value.int 81 565), (Value.int 82 566), (Value.int 83 567), (Value.int 90 568), (Value.int 126 569), (Value.int 126 570), (Value.int 117 571), (Value.int 117 572), (Value.int 73 573), (Value.int 77 574)]) #[]
noncomputable def o217 : Params → Obj := fun P => Obj.mk (Value.type "list") none (Data.seq #[(Value.str (Str.ofString "") 576), (Value.str (Str.ofString "1") 577), (Value.str (Str.ofString "2") 578), (Value.str (Str.ofString "1:7") 579), (Value.str (Str.ofString "0") 580), (Value.str (Str.ofString "11") 581), (Value.str (Str.ofString "x") 582)]) #[]
noncomputable def o218 : Params → Obj := fun P => Obj.mk (Value.type "list") none (Data.seq #[(Value.str (Str.ofString "2") 584), (Value.str (Str.ofString "3") 585), (Value.str (Str.ofString "5") 586), (Value.str (Str.ofString "6") 587), (Value.str (Str.ofString "15") 588), (Value.str (Str.ofString "17") 589), (Value.str (Str.ofString "20") 590), (Value.str (Str.ofString "21") 591), (Value.str (Str.ofString "23") 592), (Value.str (Str.ofString "25") 593), (Value.str (Str.ofString "26") 594), (Value.str (Str.ofString "28") 595), (Value.str (Str.ofString "29") 596), (Value.str (Str.ofString "31") 597), (Value.str (Str.ofString "34") 598), (Value.str (Str.ofString "1") 599), (Value.str (Str.ofString "8") 600), (Value.str (Str.ofString "14") 601), (Value.str (Str.ofString "200") 602), (Value.str (Str.ofString "16") 603), (Value.str (Str.ofString "27") 604), (Value.str (Str.ofString "") 605), (Value.str (Str.ofString "0") 606), (Value.str (Str.ofString "22") 607)]) #[]
noncomputable def o219 : Params → Obj := fun P => Obj.mk (Value.type "list") none (Data.seq #[(Value.str (Str.ofString "97") 609), (Value.str (Str.ofString "65") 610), (Value.str (Str.ofString "233") 611), (Value.str (Str.ofString "32") 612), (Value.str (Str.ofString "9") 613), (Value.str (Str.ofString "13") 614), (Value.str (Str.ofString "27") 615), (Value.str (Str.ofString "127") 616), (Value.str (Str.ofString "57399") 617), (Value.str (Str.ofString "57408") 618), (Value.str (Str.ofString "57410") 619), (Value.str (Str.ofString "57416") 620), (Value.str (Str.ofString "31") 621), (Value.str (Str.ofString "130") 622), (Value.str (Str.ofString "55296") 623), (Value.str (Str.ofString "1114112") 624), (Value.str (Str.ofString "") 625), (Value.str (Str.ofString "57417") 626)]) #[]
noncomputable def o220 : Params → Obj := fun P => Obj.mk (Value.type "list") none (Data.seq #[(Value.str (Str.ofString "") 628), (Value.str (Str.ofString "1") 629), (Value.str (Str.ofString "2") 630), (Value.str (Str.ofString "3") 631), (Value.str (Str.ofString "5") 632), (Value.str (Str.ofString "6") 633), (Value.str (Str.ofString "8") 634), (Value.str (Str.ofString "16") 635), (Value.str (Str.ofString "0") 636), (Value.str (Str.ofString "5:1") 637), (Value.str (Str.ofString "2:3") 638), (Value.str (Str.ofString "1:4") 639), (Value.str (Str.ofString "1:2:9") 640), (Value.str (Str.ofString "-1") 641)]) #[]
noncomputable def o221 : Params → Obj := fun P => Obj.mk (Value.type "tuple") none (Data.seq #[]) #[]
noncomputable def o222 : Params → Obj := fun P => Obj.mk Value.none none (Data.fields #[]) #[]
noncomputable def o223 : Params → Obj := fun P => fnS (stm 36) "_law_tape"
noncomputable def o224 : Params → Obj := fun P => Obj.mk (Value.type "code") none (Data.fields #[(Value.str (Str.ofString "_law_tape") 643), (Value.str (Str.ofString "_law_tape") 644), (Value.str (Str.ofString "/claim/cut.py") 645), (Value.int 129 0), (Value.int 1 0), (Value.int 0 0), (Value.int 0 0), (Value.int 3 0), (Value.ref 221), (Value.bool true), (Value.int 181 0), (Value.ref 222), Value.none, Value.none, Value.none, (Value.ref 223), (Value.int 646 0), (Value.int 129 0), (Value.str (Str.ofString "/claim/cut.py") 647)]) #[]
noncomputable def o225 : Params → Obj := fun P => fnO (stm 36) "_law_tape" Value.none Value.none (Value.str (Str.ofString "law_pq1183_01") 550) (Value.ref 224)
noncomputable def o226 : Params → Obj := fun P => Obj.mk (Value.type "tuple") none (Data.seq #[]) #[]
noncomputable def o227 : Params → Obj := fun P => Obj.mk Value.none none (Data.fields #[]) #[]
noncomputable def o228 : Params → Obj := fun P => Obj.mk (Value.type "tuple") none (Data.seq #[(Value.str (Str.ofString "tape") 652), (Value.str (Str.ofString "below") 653)]) #[]
noncomputable def o229 : Params → Obj := fun P => Obj.mk (Value.type "tuple") none (Data.seq #[]) #[]
noncomputable def o230 : Params → Obj := fun P => fnS (stm 37) "_law_next"
noncomputable def o231 : Params → Obj := fun P => Obj.mk (Value.type "code") none (Data.fields #[(Value.str (Str.ofString "_law_next") 649), (Value.str (Str.ofString "_law_next") 650), (Value.str (Str.ofString "/claim/cut.py") 651), (Value.int 134 0), (Value.int 2 0), (Value.int 0 0), (Value.int 0 0), (Value.int 3 0), (Value.ref 226), (Value.bool true), (Value.int 181 0), (Value.ref 227), Value.none, (Value.ref 228), (Value.ref 229), (Value.ref 230), (Value.int 654 0), (Value.int 134 0), (Value.str (Str.ofString "/claim/cut.py") 655)]) #[]
noncomputable def o232 : Params → Obj := fun P => fnO (stm 37) "_law_next" Value.none Value.none (Value.str (Str.ofString "law_pq1183_01") 550) (Value.ref 231)
noncomputable def o233 : Params → Obj := fun P => Obj.mk (Value.type "tuple") none (Data.seq #[]) #[]
noncomputable def o234 : Params → Obj := fun P => Obj.mk Value.none none (Data.fields #[]) #[]
noncomputable def o235 : Params → Obj := fun P => Obj.mk (Value.type "tuple") none (Data.seq #[(Value.str (Str.ofString "tape") 660), (Value.str (Str.ofString "some") 661)]) #[]
noncomputable def o236 : Params → Obj := fun P => Obj.mk (Value.type "tuple") none (Data.seq #[]) #[]
noncomputable def o237 : Params → Obj := fun P => fnS (stm 38) "_law_pick"
noncomputable def o238 : Params → Obj := fun P => Obj.mk (Value.type "code") none (Data.fields #[(Value.str (Str.ofString "_law_pick") 657), (Value.str (Str.ofString "_law_pick") 658), (Value.str (Str.ofString "/claim/cut.py") 659), (Value.int 139 0), (Value.int 2 0), (Value.int 0 0), (Value.int 0 0), (Value.int 3 0), (Value.ref 233), (Value.bool true), (Value.int 181 0), (Value.ref 234), Value.none, (Value.ref 235), (Value.ref 236), (Value.ref 237), (Value.int 662 0), (Value.int 139 0), (Value.str (Str.ofString "/claim/cut.py") 663)]) #[]
noncomputable def o239 : Params → Obj := fun P => fnO (stm 38) "_law_pick" Value.none Value.none (Value.str (Str.ofString "law_pq1183_01") 550) (Value.ref 238)
noncomputable def o240 : Params → Obj := fun P => Obj.mk (Value.type "tuple") none (Data.seq #[]) #[]
noncomputable def o241 : Params → Obj := fun P => Obj.mk Value.none none (Data.fields #[]) #[]
noncomputable def o242 : Params → Obj := fun P => fnS (stm 39) "_law_fields"
noncomputable def o243 : Params → Obj := fun P => Obj.mk (Value.type "code") none (Data.fields #[(Value.str (Str.ofString "_law_fields") 665), (Value.str (Str.ofString "_law_fields") 666), (Value.str (Str.ofString "/claim/cut.py") 667), (Value.int 141 0), (Value.int 1 0), (Value.int 0 0), (Value.int 0 0), (Value.int 3 0), (Value.ref 240), (Value.bool true), (Value.int 181 0), (Value.ref 241), Value.none, Value.none, Value.none, (Value.ref 242), (Value.int 668 0), (Value.int 141 0), (Value.str (Str.ofString "/claim/cut.py") 669)]) #[]
noncomputable def o244 : Params → Obj := fun P => fnO (stm 39) "_law_fields" Value.none Value.none (Value.str (Str.ofString "law_pq1183_01") 550) (Value.ref 243)
noncomputable def o245 : Params → Obj := fun P => Obj.mk (Value.type "tuple") none (Data.seq #[]) #[]
noncomputable def o246 : Params → Obj := fun P => Obj.mk Value.none none (Data.fields #[]) #[]
noncomputable def o247 : Params → Obj := fun P => Obj.mk (Value.type "tuple") none (Data.seq #[(Value.str (Str.ofString "number") 674), (Value.str (Str.ofString "rows") 675), (Value.str (Str.ofString "begin") 676), (Value.str (Str.ofString "last") 677), (Value.str (Str.ofString "first") 678), (Value.str (Str.ofString "figures") 679)]) #[]
noncomputable def o248 : Params → Obj := fun P => Obj.mk (Value.type "tuple") none (Data.seq #[]) #[]
noncomputable def o249 : Params → Obj := fun P => fnS (stm 40) "_law_by_number"
noncomputable def o250 : Params → Obj := fun P => Obj.mk (Value.type "code") none (Data.fields #[(Value.str (Str.ofString "_law_by_number") 671), (Value.str (Str.ofString "_law_by_number") 672), (Value.str (Str.ofString "/claim/cut.py") 673), (Value.int 151 0), (Value.int 1 0), (Value.int 0 0), (Value.int 0 0), (Value.int 3 0), (Value.ref 245), (Value.bool true), (Value.int 181 0), (Value.ref 246), Value.none, (Value.ref 247), (Value.ref 248), (Value.ref 249), (Value.int 680 0), (Value.int 151 0), (Value.str (Str.ofString "/claim/cut.py") 681)]) #[]
noncomputable def o251 : Params → Obj := fun P => fnO (stm 40) "_law_by_number" Value.none Value.none (Value.str (Str.ofString "law_pq1183_01") 550) (Value.ref 250)
noncomputable def o252 : Params → Obj := fun P => Obj.mk (Value.type "tuple") none (Data.seq #[]) #[]
noncomputable def o253 : Params → Obj := fun P => Obj.mk Value.none none (Data.fields #[]) #[]
noncomputable def o254 : Params → Obj := fun P => Obj.mk (Value.type "tuple") none (Data.seq #[(Value.str (Str.ofString "code") 686), (Value.str (Str.ofString "held") 687), (Value.str (Str.ofString "event") 688), (Value.str (Str.ofString "names") 689), (Value.str (Str.ofString "place") 690), (Value.str (Str.ofString "sign") 691), (Value.str (Str.ofString "is_letter") 692)]) #[]
noncomputable def o255 : Params → Obj := fun P => Obj.mk (Value.type "tuple") none (Data.seq #[]) #[]
noncomputable def o256 : Params → Obj := fun P => fnS (stm 41) "_law_by_code"
noncomputable def o257 : Params → Obj := fun P => Obj.mk (Value.type "code") none (Data.fields #[(Value.str (Str.ofString "_law_by_code") 683), (Value.str (Str.ofString "_law_by_code") 684), (Value.str (Str.ofString "/claim/cut.py") 685), (Value.int 158 0), (Value.int 3 0), (Value.int 0 0), (Value.int 0 0), (Value.int 3 0), (Value.ref 252), (Value.bool true), (Value.int 181 0), (Value.ref 253), Value.none, (Value.ref 254), (Value.ref 255), (Value.ref 256), (Value.int 693 0), (Value.int 158 0), (Value.str (Str.ofString "/claim/cut.py") 694)]) #[]
noncomputable def o258 : Params → Obj := fun P => fnO (stm 41) "_law_by_code" Value.none Value.none (Value.str (Str.ofString "law_pq1183_01") 550) (Value.ref 257)
noncomputable def o259 : Params → Obj := fun P => Obj.mk (Value.type "tuple") none (Data.seq #[]) #[]
noncomputable def o260 : Params → Obj := fun P => Obj.mk Value.none none (Data.fields #[]) #[]
noncomputable def o261 : Params → Obj := fun P => Obj.mk (Value.type "tuple") none (Data.seq #[(Value.str (Str.ofString "body") 699), (Value.str (Str.ofString "final") 700), (Value.str (Str.ofString "fields") 701), (Value.str (Str.ofString "second") 702), (Value.str (Str.ofString "held") 703), (Value.str (Str.ofString "event") 704), (Value.str (Str.ofString "first") 705), (Value.str (Str.ofString "many") 706), (Value.str (Str.ofString "is_good") 707), (Value.str (Str.ofString "number") 708), (Value.str (Str.ofString "name") 709)]) #[]
noncomputable def o262 : Params → Obj := fun P => Obj.mk (Value.type "tuple") none (Data.seq #[]) #[]
noncomputable def o263 : Params → Obj := fun P => fnS (stm 42) "_law_due"
noncomputable def o264 : Params → Obj := fun P => Obj.mk (Value.type "code") none (Data.fields #[(Value.str (Str.ofString "_law_due") 696), (Value.str (Str.ofString "_law_due") 697), (Value.str (Str.ofString "/claim/cut.py") 698), (Value.int 173 0), (Value.int 2 0), (Value.int 0 0), (Value.int 0 0), (Value.int 3 0), (Value.ref 259), (Value.bool true), (Value.int 181 0), (Value.ref 260), Value.none, (Value.ref 261), (Value.ref 262), (Value.ref 263), (Value.int 710 0), (Value.int 173 0), (Value.str (Str.ofString "/claim/cut.py") 711)]) #[]
noncomputable def o265 : Params → Obj := fun P => fnO (stm 42) "_law_due" Value.none Value.none (Value.str (Str.ofString "law_pq1183_01") 550) (Value.ref 264)
noncomputable def o266 : Params → Obj := fun P => Obj.mk (Value.type "tuple") none (Data.seq #[]) #[]
noncomputable def o267 : Params → Obj := fun P => Obj.mk Value.none none (Data.fields #[]) #[]
noncomputable def o268 : Params → Obj := fun P => fnS (stm 43) "law"
noncomputable def o269 : Params → Obj := fun P => Obj.mk (Value.type "code") none (Data.fields #[(Value.str (Str.ofString "law") 713), (Value.str (Str.ofString "law") 714), (Value.str (Str.ofString "/claim/cut.py") 715), (Value.int 196 0), (Value.int 1 0), (Value.int 0 0), (Value.int 0 0), (Value.int 3 0), (Value.ref 266), (Value.bool true), (Value.int 181 0), (Value.ref 267), Value.none, Value.none, Value.none, (Value.ref 268), (Value.int 716 0), (Value.int 196 0), (Value.str (Str.ofString "/claim/cut.py") 717)]) #[]
noncomputable def o270 : Params → Obj := fun P => fnO (stm 43) "law" Value.none Value.none (Value.str (Str.ofString "law_pq1183_01") 550) (Value.ref 269)
noncomputable def heapA : Params → Heap := fun P => ⟨#[boot_o_0 P, boot_o_1 P, boot_o_2 P, boot_o_3 P, boot_o_4 P, boot_o_5 P, boot_o_6 P, boot_o_7 P, boot_o_8 P, boot_o_9 P, boot_o_10 P, o11 P, o12_a P, o13 P, o14 P], {}⟩
noncomputable def heapZ : Params → Heap := fun P => ⟨#[boot_o_0 P, boot_o_1 P, boot_o_2 P, o3 P, boot_o_4 P, boot_o_5 P, boot_o_6 P, boot_o_7 P, boot_o_8 P, boot_o_9 P, boot_o_10 P, o11 P, o12 P, o13 P, o14 P, o15 P, o16 P, o17 P, o18 P, o19 P, o20 P, o21 P, o22 P, o23 P, o24 P, o25 P, o26 P, o27 P, o28 P, o29 P, o30 P, o31 P, o32 P, o33 P, o34 P, o35 P, o36 P, o37 P, o38 P, o39 P, o40 P, o41 P, o42 P, o43 P, o44 P, o45 P, o46 P, o47 P, o48 P, o49 P, o50 P, o51 P, o52 P, o53 P, o54 P, o55 P, o56 P, o57 P, o58 P, o59 P, o60 P, o61 P, o62 P, o63 P, o64 P, o65 P, o66 P, o67 P, o68 P, o69 P, o70 P, o71 P, o72 P, o73 P, o74 P, o75 P, o76 P, o77 P, o78 P, o79 P, o80 P, o81 P, o82 P, o83 P, o84 P, o85 P, o86 P, o87 P, o88 P, o89 P, o90 P, o91 P, o92 P, o93 P, o94 P, o95 P, o96 P, o97 P, o98 P, o99 P, o100 P, o101 P, o102 P, o103 P, o104 P, o105 P, o106 P, o107 P, o108 P, o109 P, o110 P, o111 P, o112 P, o113 P, o114 P, o115 P, o116 P, o117 P, o118 P, o119 P, o120 P, o121 P, o122 P, o123 P, o124 P, o125 P, o126 P, o127 P, o128 P, o129 P, o130 P, o131 P, o132 P, o133 P, o134 P, o135 P, o136 P, o137 P, o138 P, o139 P, o140 P, o141 P, o142 P, o143 P, o144 P, o145 P, o146 P, o147 P, o148 P, o149 P, o150 P, o151 P, o152 P, o153 P, o154 P, o155 P, o156 P, o157 P, o158 P, o159 P, o160 P, o161 P, o162 P, o163 P, o164 P, o165 P, o166 P, o167 P, o168 P, o169 P, o170 P, o171 P, o172 P, o173 P, o174 P, o175 P, o176 P, o177 P, o178 P, o179 P, o180 P, o181 P, o182 P, o183 P, o184 P, o185 P, o186 P, o187 P, o188 P, o189 P, o190 P, o191 P, o192 P, o193 P, o194 P, o195 P, o196 P, o197 P, o198 P, o199 P, o200 P, o201 P, o202 P, o203 P, o204 P, o205 P, o206 P, o207 P, o208 P, o209 P, o210 P, o211 P, o212 P, o213 P, o214 P, o215 P, o216 P, o217 P, o218 P, o219 P, o220 P, o221 P, o222 P, o223 P, o224 P, o225 P, o226 P, o227 P, o228 P, o229 P, o230 P, o231 P, o232 P, o233 P, o234 P, o235 P, o236 P, o237 P, o238 P, o239 P, o240 P, o241 P, o242 P, o243 P, o244 P, o245 P, o246 P, o247 P, o248 P, o249 P, o250 P, o251 P, o252 P, o253 P, o254 P, o255 P, o256 P, o257 P, o258 P, o259 P, o260 P, o261 P, o262 P, o263 P, o264 P, o265 P, o266 P, o267 P, o268 P, o269 P, o270 P], {}⟩
noncomputable def tree0 : Params → BT := fun P => (.node (boot_o_0 P) (.node (boot_o_1 P) (.node (boot_o_3 P) (.node (boot_o_7 P) .nil .nil) (.node (o11 P) .nil .nil)) (.node (boot_o_5 P) (.node (boot_o_9 P) .nil .nil) (.node (o13 P) .nil .nil))) (.node (boot_o_2 P) (.node (boot_o_4 P) (.node (boot_o_8 P) .nil .nil) (.node (o12_b P) .nil .nil)) (.node (boot_o_6 P) (.node (boot_o_10 P) .nil .nil) (.node (o14 P) .nil .nil))))
noncomputable def tree1 : Params → BT := fun P => (.node (boot_o_0 P) (.node (boot_o_1 P) (.node (o3_12 P) (.node (boot_o_7 P) (.node (o15 P) (.node (o31 P) (.node (o63 P) .nil .nil) .nil) (.node (o47 P) .nil .nil)) (.node (o23 P) (.node (o39 P) .nil .nil) (.node (o55 P) .nil .nil))) (.node (o11 P) (.node (o19 P) (.node (o35 P) .nil .nil) (.node (o51 P) .nil .nil)) (.node (o27 P) (.node (o43 P) .nil .nil) (.node (o59 P) .nil .nil)))) (.node (boot_o_5 P) (.node (boot_o_9 P) (.node (o17 P) (.node (o33 P) (.node (o65 P) .nil .nil) .nil) (.node (o49 P) .nil .nil)) (.node (o25 P) (.node (o41 P) .nil .nil) (.node (o57 P) .nil .nil))) (.node (o13 P) (.node (o21 P) (.node (o37 P) .nil .nil) (.node (o53 P) .nil .nil)) (.node (o29 P) (.node (o45 P) .nil .nil) (.node (o61 P) .nil .nil))))) (.node (boot_o_2 P) (.node (boot_o_4 P) (.node (boot_o_8 P) (.node (o16 P) (.node (o32 P) (.node (o64 P) .nil .nil) .nil) (.node (o48 P) .nil .nil)) (.node (o24 P) (.node (o40 P) .nil .nil) (.node (o56 P) .nil .nil))) (.node (o12_12 P) (.node (o20 P) (.node (o36 P) .nil .nil) (.node (o52 P) .nil .nil)) (.node (o28 P) (.node (o44 P) .nil .nil) (.node (o60 P) .nil .nil)))) (.node (boot_o_6 P) (.node (boot_o_10 P) (.node (o18 P) (.node (o34 P) .nil .nil) (.node (o50 P) .nil .nil)) (.node (o26 P) (.node (o42 P) .nil .nil) (.node (o58 P) .nil .nil))) (.node (o14 P) (.node (o22 P) (.node (o38 P) .nil .nil) (.node (o54 P) .nil .nil)) (.node (o30 P) (.node (o46 P) .nil .nil) (.node (o62 P) .nil .nil))))))
noncomputable def tree2 : Params → BT := fun P => (.node (boot_o_0 P) (.node (boot_o_1 P) (.node (o3_13 P) (.node (boot_o_7 P) (.node (o15 P) (.node (o31 P) (.node (o63 P) .nil .nil) .nil) (.node (o47 P) (.node (o79 P) .nil .nil) .nil)) (.node (o23 P) (.node (o39 P) (.node (o71 P) .nil .nil) .nil) (.node (o55 P) .nil .nil))) (.node (o11 P) (.node (o19 P) (.node (o35 P) (.node (o67 P) .nil .nil) .nil) (.node (o51 P) (.node (o83 P) .nil .nil) .nil)) (.node (o27 P) (.node (o43 P) (.node (o75 P) .nil .nil) .nil) (.node (o59 P) .nil .nil)))) (.node (boot_o_5 P) (.node (boot_o_9 P) (.node (o17 P) (.node (o33 P) (.node (o65 P) .nil .nil) .nil) (.node (o49 P) (.node (o81 P) .nil .nil) .nil)) (.node (o25 P) (.node (o41 P) (.node (o73 P) .nil .nil) .nil) (.node (o57 P) .nil .nil))) (.node (o13 P) (.node (o21 P) (.node (o37 P) (.node (o69 P) .nil .nil) .nil) (.node (o53 P) .nil .nil)) (.node (o29 P) (.node (o45 P) (.node (o77 P) .nil .nil) .nil) (.node (o61 P) .nil .nil))))) (.node (boot_o_2 P) (.node (boot_o_4 P) (.node (boot_o_8 P) (.node (o16 P) (.node (o32 P) (.node (o64 P) .nil .nil) .nil) (.node (o48 P) (.node (o80 P) .nil .nil) .nil)) (.node (o24 P) (.node (o40 P) (.node (o72 P) .nil .nil) .nil) (.node (o56 P) .nil .nil))) (.node (o12_13 P) (.node (o20 P) (.node (o36 P) (.node (o68 P) .nil .nil) .nil) (.node (o52 P) (.node (o84 P) .nil .nil) .nil)) (.node (o28 P) (.node (o44 P) (.node (o76 P) .nil .nil) .nil) (.node (o60 P) .nil .nil)))) (.node (boot_o_6 P) (.node (boot_o_10 P) (.node (o18 P) (.node (o34 P) (.node (o66 P) .nil .nil) .nil) (.node (o50 P) (.node (o82 P) .nil .nil) .nil)) (.node (o26 P) (.node (o42 P) (.node (o74 P) .nil .nil) .nil) (.node (o58 P) .nil .nil))) (.node (o14 P) (.node (o22 P) (.node (o38 P) (.node (o70 P) .nil .nil) .nil) (.node (o54 P) .nil .nil)) (.node (o30 P) (.node (o46 P) (.node (o78 P) .nil .nil) .nil) (.node (o62 P) .nil .nil))))))
noncomputable def tree3 : Params → BT := fun P => (.node (boot_o_0 P) (.node (boot_o_1 P) (.node (o3_14 P) (.node (boot_o_7 P) (.node (o15 P) (.node (o31 P) (.node (o63 P) .nil .nil) (.node (o95 P) .nil .nil)) (.node (o47 P) (.node (o79 P) .nil .nil) (.node (o111 P) .nil .nil))) (.node (o23 P) (.node (o39 P) (.node (o71 P) .nil .nil) (.node (o103 P) .nil .nil)) (.node (o55 P) (.node (o87 P) .nil .nil) (.node (o119 P) .nil .nil)))) (.node (o11 P) (.node (o19 P) (.node (o35 P) (.node (o67 P) .nil .nil) (.node (o99 P) .nil .nil)) (.node (o51 P) (.node (o83 P) .nil .nil) (.node (o115 P) .nil .nil))) (.node (o27 P) (.node (o43 P) (.node (o75 P) .nil .nil) (.node (o107 P) .nil .nil)) (.node (o59 P) (.node (o91 P) .nil .nil) .nil)))) (.node (boot_o_5 P) (.node (boot_o_9 P) (.node (o17 P) (.node (o33 P) (.node (o65 P) .nil .nil) (.node (o97 P) .nil .nil)) (.node (o49 P) (.node (o81 P) .nil .nil) (.node (o113 P) .nil .nil))) (.node (o25 P) (.node (o41 P) (.node (o73 P) .nil .nil) (.node (o105 P) .nil .nil)) (.node (o57 P) (.node (o89 P) .nil .nil) .nil))) (.node (o13 P) (.node (o21 P) (.node (o37 P) (.node (o69 P) .nil .nil) (.node (o101 P) .nil .nil)) (.node (o53 P) (.node (o85 P) .nil .nil) (.node (o117 P) .nil .nil))) (.node (o29 P) (.node (o45 P) (.node (o77 P) .nil .nil) (.node (o109 P) .nil .nil)) (.node (o61 P) (.node (o93 P) .nil .nil) .nil))))) (.node (boot_o_2 P) (.node (boot_o_4 P) (.node (boot_o_8 P) (.node (o16 P) (.node (o32 P) (.node (o64 P) .nil .nil) (.node (o96 P) .nil .nil)) (.node (o48 P) (.node (o80 P) .nil .nil) (.node (o112 P) .nil .nil))) (.node (o24 P) (.node (o40 P) (.node (o72 P) .nil .nil) (.node (o104 P) .nil .nil)) (.node (o56 P) (.node (o88 P) .nil .nil) (.node (o120 P) .nil .nil)))) (.node (o12_14 P) (.node (o20 P) (.node (o36 P) (.node (o68 P) .nil .nil) (.node (o100 P) .nil .nil)) (.node (o52 P) (.node (o84 P) .nil .nil) (.node (o116 P) .nil .nil))) (.node (o28 P) (.node (o44 P) (.node (o76 P) .nil .nil) (.node (o108 P) .nil .nil)) (.node (o60 P) (.node (o92 P) .nil .nil) .nil)))) (.node (boot_o_6 P) (.node (boot_o_10 P) (.node (o18 P) (.node (o34 P) (.node (o66 P) .nil .nil) (.node (o98 P) .nil .nil)) (.node (o50 P) (.node (o82 P) .nil .nil) (.node (o114 P) .nil .nil))) (.node (o26 P) (.node (o42 P) (.node (o74 P) .nil .nil) (.node (o106 P) .nil .nil)) (.node (o58 P) (.node (o90 P) .nil .nil) .nil))) (.node (o14 P) (.node (o22 P) (.node (o38 P) (.node (o70 P) .nil .nil) (.node (o102 P) .nil .nil)) (.node (o54 P) (.node (o86 P) .nil .nil) (.node (o118 P) .nil .nil))) (.node (o30 P) (.node (o46 P) (.node (o78 P) .nil .nil) (.node (o110 P) .nil .nil)) (.node (o62 P) (.node (o94 P) .nil .nil) .nil))))))
noncomputable def tree4 : Params → BT := fun P => (.node (boot_o_0 P) (.node (boot_o_1 P) (.node (o3_28 P) (.node (boot_o_7 P) (.node (o15 P) (.node (o31 P) (.node (o63 P) (.node (o127 P) .nil .nil) (.node (o191 P) .nil .nil)) (.node (o95 P) (.node (o159 P) .nil .nil) .nil)) (.node (o47 P) (.node (o79 P) (.node (o143 P) .nil .nil) (.node (o207 P) .nil .nil)) (.node (o111 P) (.node (o175 P) .nil .nil) .nil))) (.node (o23 P) (.node (o39 P) (.node (o71 P) (.node (o135 P) .nil .nil) (.node (o199 P) .nil .nil)) (.node (o103 P) (.node (o167 P) .nil .nil) .nil)) (.node (o55 P) (.node (o87 P) (.node (o151 P) .nil .nil) .nil) (.node (o119 P) (.node (o183 P) .nil .nil) .nil)))) (.node (o11 P) (.node (o19 P) (.node (o35 P) (.node (o67 P) (.node (o131 P) .nil .nil) (.node (o195 P) .nil .nil)) (.node (o99 P) (.node (o163 P) .nil .nil) .nil)) (.node (o51 P) (.node (o83 P) (.node (o147 P) .nil .nil) .nil) (.node (o115 P) (.node (o179 P) .nil .nil) .nil))) (.node (o27 P) (.node (o43 P) (.node (o75 P) (.node (o139 P) .nil .nil) (.node (o203 P) .nil .nil)) (.node (o107 P) (.node (o171 P) .nil .nil) .nil)) (.node (o59 P) (.node (o91 P) (.node (o155 P) .nil .nil) .nil) (.node (o123 P) (.node (o187 P) .nil .nil) .nil))))) (.node (boot_o_5 P) (.node (boot_o_9 P) (.node (o17 P) (.node (o33 P) (.node (o65 P) (.node (o129 P) .nil .nil) (.node (o193 P) .nil .nil)) (.node (o97 P) (.node (o161 P) .nil .nil) .nil)) (.node (o49 P) (.node (o81 P) (.node (o145 P) .nil .nil) .nil) (.node (o113 P) (.node (o177 P) .nil .nil) .nil))) (.node (o25 P) (.node (o41 P) (.node (o73 P) (.node (o137 P) .nil .nil) (.node (o201 P) .nil .nil)) (.node (o105 P) (.node (o169 P) .nil .nil) .nil)) (.node (o57 P) (.node (o89 P) (.node (o153 P) .nil .nil) .nil) (.node (o121 P) (.node (o185 P) .nil .nil) .nil)))) (.node (o13 P) (.node (o21 P) (.node (o37 P) (.node (o69 P) (.node (o133 P) .nil .nil) (.node (o197 P) .nil .nil)) (.node (o101 P) (.node (o165 P) .nil .nil) .nil)) (.node (o53 P) (.node (o85 P) (.node (o149 P) .nil .nil) .nil) (.node (o117 P) (.node (o181 P) .nil .nil) .nil))) (.node (o29 P) (.node (o45 P) (.node (o77 P) (.node (o141 P) .nil .nil) (.node (o205 P) .nil .nil)) (.node (o109 P) (.node (o173 P) .nil .nil) .nil)) (.node (o61 P) (.node (o93 P) (.node (o157 P) .nil .nil) .nil) (.node (o125 P) (.node (o189 P) .nil .nil) .nil)))))) (.node (boot_o_2 P) (.node (boot_o_4 P) (.node (boot_o_8 P) (.node (o16 P) (.node (o32 P) (.node (o64 P) (.node (o128 P) .nil .nil) (.node (o192 P) .nil .nil)) (.node (o96 P) (.node (o160 P) .nil .nil) .nil)) (.node (o48 P) (.node (o80 P) (.node (o144 P) .nil .nil) (.node (o208 P) .nil .nil)) (.node (o112 P) (.node (o176 P) .nil .nil) .nil))) (.node (o24 P) (.node (o40 P) (.node (o72 P) (.node (o136 P) .nil .nil) (.node (o200 P) .nil .nil)) (.node (o104 P) (.node (o168 P) .nil .nil) .nil)) (.node (o56 P) (.node (o88 P) (.node (o152 P) .nil .nil) .nil) (.node (o120 P) (.node (o184 P) .nil .nil) .nil)))) (.node (o12_28 P) (.node (o20 P) (.node (o36 P) (.node (o68 P) (.node (o132 P) .nil .nil) (.node (o196 P) .nil .nil)) (.node (o100 P) (.node (o164 P) .nil .nil) .nil)) (.node (o52 P) (.node (o84 P) (.node (o148 P) .nil .nil) .nil) (.node (o116 P) (.node (o180 P) .nil .nil) .nil))) (.node (o28 P) (.node (o44 P) (.node (o76 P) (.node (o140 P) .nil .nil) (.node (o204 P) .nil .nil)) (.node (o108 P) (.node (o172 P) .nil .nil) .nil)) (.node (o60 P) (.node (o92 P) (.node (o156 P) .nil .nil) .nil) (.node (o124 P) (.node (o188 P) .nil .nil) .nil))))) (.node (boot_o_6 P) (.node (boot_o_10 P) (.node (o18 P) (.node (o34 P) (.node (o66 P) (.node (o130 P) .nil .nil) (.node (o194 P) .nil .nil)) (.node (o98 P) (.node (o162 P) .nil .nil) .nil)) (.node (o50 P) (.node (o82 P) (.node (o146 P) .nil .nil) .nil) (.node (o114 P) (.node (o178 P) .nil .nil) .nil))) (.node (o26 P) (.node (o42 P) (.node (o74 P) (.node (o138 P) .nil .nil) (.node (o202 P) .nil .nil)) (.node (o106 P) (.node (o170 P) .nil .nil) .nil)) (.node (o58 P) (.node (o90 P) (.node (o154 P) .nil .nil) .nil) (.node (o122 P) (.node (o186 P) .nil .nil) .nil)))) (.node (o14 P) (.node (o22 P) (.node (o38 P) (.node (o70 P) (.node (o134 P) .nil .nil) (.node (o198 P) .nil .nil)) (.node (o102 P) (.node (o166 P) .nil .nil) .nil)) (.node (o54 P) (.node (o86 P) (.node (o150 P) .nil .nil) .nil) (.node (o118 P) (.node (o182 P) .nil .nil) .nil))) (.node (o30 P) (.node (o46 P) (.node (o78 P) (.node (o142 P) .nil .nil) (.node (o206 P) .nil .nil)) (.node (o110 P) (.node (o174 P) .nil .nil) .nil)) (.node (o62 P) (.node (o94 P) (.node (o158 P) .nil .nil) .nil) (.node (o126 P) (.node (o190 P) .nil .nil) .nil)))))))
noncomputable def tree5 : Params → BT := fun P => (.node (boot_o_0 P) (.node (boot_o_1 P) (.node (o3 P) (.node (boot_o_7 P) (.node (o15 P) (.node (o31 P) (.node (o63 P) (.node (o127 P) (.node (o255 P) .nil .nil) .nil) (.node (o191 P) .nil .nil)) (.node (o95 P) (.node (o159 P) .nil .nil) (.node (o223 P) .nil .nil))) (.node (o47 P) (.node (o79 P) (.node (o143 P) .nil .nil) (.node (o207 P) .nil .nil)) (.node (o111 P) (.node (o175 P) .nil .nil) (.node (o239 P) .nil .nil)))) (.node (o23 P) (.node (o39 P) (.node (o71 P) (.node (o135 P) (.node (o263 P) .nil .nil) .nil) (.node (o199 P) .nil .nil)) (.node (o103 P) (.node (o167 P) .nil .nil) (.node (o231 P) .nil .nil))) (.node (o55 P) (.node (o87 P) (.node (o151 P) .nil .nil) (.node (o215 P) .nil .nil)) (.node (o119 P) (.node (o183 P) .nil .nil) (.node (o247 P) .nil .nil))))) (.node (o11 P) (.node (o19 P) (.node (o35 P) (.node (o67 P) (.node (o131 P) (.node (o259 P) .nil .nil) .nil) (.node (o195 P) .nil .nil)) (.node (o99 P) (.node (o163 P) .nil .nil) (.node (o227 P) .nil .nil))) (.node (o51 P) (.node (o83 P) (.node (o147 P) .nil .nil) (.node (o211 P) .nil .nil)) (.node (o115 P) (.node (o179 P) .nil .nil) (.node (o243 P) .nil .nil)))) (.node (o27 P) (.node (o43 P) (.node (o75 P) (.node (o139 P) (.node (o267 P) .nil .nil) .nil) (.node (o203 P) .nil .nil)) (.node (o107 P) (.node (o171 P) .nil .nil) (.node (o235 P) .nil .nil))) (.node (o59 P) (.node (o91 P) (.node (o155 P) .nil .nil) (.node (o219 P) .nil .nil)) (.node (o123 P) (.node (o187 P) .nil .nil) (.node (o251 P) .nil .nil)))))) (.node (boot_o_5 P) (.node (boot_o_9 P) (.node (o17 P) (.node (o33 P) (.node (o65 P) (.node (o129 P) (.node (o257 P) .nil .nil) .nil) (.node (o193 P) .nil .nil)) (.node (o97 P) (.node (o161 P) .nil .nil) (.node (o225 P) .nil .nil))) (.node (o49 P) (.node (o81 P) (.node (o145 P) .nil .nil) (.node (o209 P) .nil .nil)) (.node (o113 P) (.node (o177 P) .nil .nil) (.node (o241 P) .nil .nil)))) (.node (o25 P) (.node (o41 P) (.node (o73 P) (.node (o137 P) (.node (o265 P) .nil .nil) .nil) (.node (o201 P) .nil .nil)) (.node (o105 P) (.node (o169 P) .nil .nil) (.node (o233 P) .nil .nil))) (.node (o57 P) (.node (o89 P) (.node (o153 P) .nil .nil) (.node (o217 P) .nil .nil)) (.node (o121 P) (.node (o185 P) .nil .nil) (.node (o249 P) .nil .nil))))) (.node (o13 P) (.node (o21 P) (.node (o37 P) (.node (o69 P) (.node (o133 P) (.node (o261 P) .nil .nil) .nil) (.node (o197 P) .nil .nil)) (.node (o101 P) (.node (o165 P) .nil .nil) (.node (o229 P) .nil .nil))) (.node (o53 P) (.node (o85 P) (.node (o149 P) .nil .nil) (.node (o213 P) .nil .nil)) (.node (o117 P) (.node (o181 P) .nil .nil) (.node (o245 P) .nil .nil)))) (.node (o29 P) (.node (o45 P) (.node (o77 P) (.node (o141 P) (.node (o269 P) .nil .nil) .nil) (.node (o205 P) .nil .nil)) (.node (o109 P) (.node (o173 P) .nil .nil) (.node (o237 P) .nil .nil))) (.node (o61 P) (.node (o93 P) (.node (o157 P) .nil .nil) (.node (o221 P) .nil .nil)) (.node (o125 P) (.node (o189 P) .nil .nil) (.node (o253 P) .nil .nil))))))) (.node (boot_o_2 P) (.node (boot_o_4 P) (.node (boot_o_8 P) (.node (o16 P) (.node (o32 P) (.node (o64 P) (.node (o128 P) (.node (o256 P) .nil .nil) .nil) (.node (o192 P) .nil .nil)) (.node (o96 P) (.node (o160 P) .nil .nil) (.node (o224 P) .nil .nil))) (.node (o48 P) (.node (o80 P) (.node (o144 P) .nil .nil) (.node (o208 P) .nil .nil)) (.node (o112 P) (.node (o176 P) .nil .nil) (.node (o240 P) .nil .nil)))) (.node (o24 P) (.node (o40 P) (.node (o72 P) (.node (o136 P) (.node (o264 P) .nil .nil) .nil) (.node (o200 P) .nil .nil)) (.node (o104 P) (.node (o168 P) .nil .nil) (.node (o232 P) .nil .nil))) (.node (o56 P) (.node (o88 P) (.node (o152 P) .nil .nil) (.node (o216 P) .nil .nil)) (.node (o120 P) (.node (o184 P) .nil .nil) (.node (o248 P) .nil .nil))))) (.node (o12 P) (.node (o20 P) (.node (o36 P) (.node (o68 P) (.node (o132 P) (.node (o260 P) .nil .nil) .nil) (.node (o196 P) .nil .nil)) (.node (o100 P) (.node (o164 P) .nil .nil) (.node (o228 P) .nil .nil))) (.node (o52 P) (.node (o84 P) (.node (o148 P) .nil .nil) (.node (o212 P) .nil .nil)) (.node (o116 P) (.node (o180 P) .nil .nil) (.node (o244 P) .nil .nil)))) (.node (o28 P) (.node (o44 P) (.node (o76 P) (.node (o140 P) (.node (o268 P) .nil .nil) .nil) (.node (o204 P) .nil .nil)) (.node (o108 P) (.node (o172 P) .nil .nil) (.node (o236 P) .nil .nil))) (.node (o60 P) (.node (o92 P) (.node (o156 P) .nil .nil) (.node (o220 P) .nil .nil)) (.node (o124 P) (.node (o188 P) .nil .nil) (.node (o252 P) .nil .nil)))))) (.node (boot_o_6 P) (.node (boot_o_10 P) (.node (o18 P) (.node (o34 P) (.node (o66 P) (.node (o130 P) (.node (o258 P) .nil .nil) .nil) (.node (o194 P) .nil .nil)) (.node (o98 P) (.node (o162 P) .nil .nil) (.node (o226 P) .nil .nil))) (.node (o50 P) (.node (o82 P) (.node (o146 P) .nil .nil) (.node (o210 P) .nil .nil)) (.node (o114 P) (.node (o178 P) .nil .nil) (.node (o242 P) .nil .nil)))) (.node (o26 P) (.node (o42 P) (.node (o74 P) (.node (o138 P) (.node (o266 P) .nil .nil) .nil) (.node (o202 P) .nil .nil)) (.node (o106 P) (.node (o170 P) .nil .nil) (.node (o234 P) .nil .nil))) (.node (o58 P) (.node (o90 P) (.node (o154 P) .nil .nil) (.node (o218 P) .nil .nil)) (.node (o122 P) (.node (o186 P) .nil .nil) (.node (o250 P) .nil .nil))))) (.node (o14 P) (.node (o22 P) (.node (o38 P) (.node (o70 P) (.node (o134 P) (.node (o262 P) .nil .nil) .nil) (.node (o198 P) .nil .nil)) (.node (o102 P) (.node (o166 P) .nil .nil) (.node (o230 P) .nil .nil))) (.node (o54 P) (.node (o86 P) (.node (o150 P) .nil .nil) (.node (o214 P) .nil .nil)) (.node (o118 P) (.node (o182 P) .nil .nil) (.node (o246 P) .nil .nil)))) (.node (o30 P) (.node (o46 P) (.node (o78 P) (.node (o142 P) (.node (o270 P) .nil .nil) .nil) (.node (o206 P) .nil .nil)) (.node (o110 P) (.node (o174 P) .nil .nil) (.node (o238 P) .nil .nil))) (.node (o62 P) (.node (o94 P) (.node (o158 P) .nil .nil) (.node (o222 P) .nil .nil)) (.node (o126 P) (.node (o190 P) .nil .nil) (.node (o254 P) .nil .nil))))))))
noncomputable def env0 : Env := { scope := prg0.main.scope, locals := mainNs, globals := mainNs, cells := [], code := .ref 13, frame := some 14 }
noncomputable def code0 : Code := .body (behindTheImports prg0) env0
noncomputable def ann0 : Option Value := some (.ref 6)
noncomputable def pos0 : Pos := ⟨0, 0, 0, 0⟩
noncomputable def sh (t : Params → BT) (n k : Nat) (w : World) (os : OsState) : SharedT := ⟨t w.params, n, {}, Array.mk [], boot_drawn, k, os⟩
noncomputable def sts0 : List Stmt := ((behindTheImports prg0).drop 0).take 13
noncomputable def sts1 : List Stmt := ((behindTheImports prg0).drop 13).take 1
noncomputable def sts2 : List Stmt := ((behindTheImports prg0).drop 14).take 1
noncomputable def sts3 : List Stmt := ((behindTheImports prg0).drop 15).take 14
noncomputable def sts4 : List Stmt := ((behindTheImports prg0).drop 29).take 15
theorem body_is : behindTheImports prg0 = sts0 ++ (sts1 ++ (sts2 ++ (sts3 ++ (sts4 ++ [])))) := by kernel_rfl
theorem pre0 (w : World) (os : OsState) : topGo treeTable prg0 w 11 ann0 12 ⟨boot_heap w.params, Array.mk [], boot_drawn, boot_toks, os⟩ (topStub prg0) = some (⟨heapA w.params, Array.mk [], boot_drawn, 187, os⟩, ⟨denote treeTable code0, code0, pos0, [topFrame pos0]⟩) := by kernel_rfl
theorem block0 (w : World) (os : OsState) : segRun treeTable prg0 w 11 ann0 1 1 ⟨heapA w.params, Array.mk [], boot_drawn, 187, os⟩ (blockOf (behindTheImports prg0) env0 code0 pos0 [topFrame pos0]) = some (.next, (sh tree0 15 187 w os).abs, code0, ⟨0, 0, 0, 0⟩) := by kernel_rfl
theorem seg0 (w : World) (os : OsState) : segRunT treeTable prg0 w 11 ann0 1 300 (sh tree0 15 187 w os) (piecesOf sts0 env0 code0 ⟨0, 0, 0, 0⟩ [topFrame pos0]) = some (.next, (sh tree1 66 291 w os), code0, ⟨26, 0, 26, 9⟩) := by kernel_rfl
theorem seg1 (w : World) (os : OsState) : segRunT treeTable prg0 w 11 ann0 1 119 (sh tree1 66 291 w os) (piecesOf sts1 env0 code0 ⟨26, 0, 26, 9⟩ [topFrame pos0]) = some (.next, (sh tree2 85 364 w os), code0, ⟨27, 0, 27, 7⟩) := by kernel_rfl
theorem seg2 (w : World) (os : OsState) : segRunT treeTable prg0 w 11 ann0 1 298 (sh tree2 85 364 w os) (piecesOf sts2 env0 code0 ⟨27, 0, 27, 7⟩ [topFrame pos0]) = some (.next, (sh tree3 121 415 w os), code0, ⟨28, 0, 40, 60⟩) := by kernel_rfl
theorem seg3 (w : World) (os : OsState) : segRunT treeTable prg0 w 11 ann0 1 437 (sh tree3 121 415 w os) (piecesOf sts3 env0 code0 ⟨28, 0, 40, 60⟩ [topFrame pos0]) = some (.next, (sh tree4 209 550 w os), code0, ⟨108, 0, 120, 52⟩) := by kernel_rfl
theorem seg4 (w : World) (os : OsState) : segRunT treeTable prg0 w 11 ann0 1 414 (sh tree4 209 550 w os) (piecesOf sts4 env0 code0 ⟨108, 0, 120, 52⟩ [topFrame pos0]) = some (.next, (sh tree5 271 719 w os), code0, ⟨196, 0, 208, 15⟩) := by kernel_rfl
theorem fin0 (w : World) (os : OsState) : topRun treeTable prg0 w 11 ann0 2 (sh tree5 271 719 w os).abs ⟨doneF .next, code0, ⟨196, 0, 208, 15⟩, [topFrame pos0]⟩ = some ⟨heapZ w.params, Array.mk [], boot_drawn, 719, os⟩ := by kernel_rfl
theorem run0 (w : World) (os : OsState) : topRun treeTable prg0 w 11 ann0 (12 + (1 + (300 + (119 + (298 + (437 + (414 + 2))))))) ⟨boot_heap w.params, Array.mk [], boot_drawn, boot_toks, os⟩ (topStub prg0) = some ⟨heapZ w.params, Array.mk [], boot_drawn, 719, os⟩ := by
  refine go_top (pre0 w os) ?_
  refine piece_block (block0 w os) ?_
  rw [body_is]
  refine piece_app (segRun_of (seg0 w os)) ?_
  refine piece_app (segRun_of (seg1 w os)) ?_
  refine piece_app (segRun_of (seg2 w os)) ?_
  refine piece_app (segRun_of (seg3 w os)) ?_
  refine piece_app (segRun_of (seg4 w os)) ?_
  exact fin0 w os
theorem size0 (w : World) : ((boot_heap w.params).isNs mainGlobals && (Array.mk [] : Array GenState).size == 0, (boot_heap w.params).objs.size, (boot_heap w.params).nsMap mainGlobals "__annotations__") = (true, 11, ann0) := by kernel_rfl
theorem open0 : ∀ w : World, (fencedOpening treeTable prg0 w 3252).map (fun s => (s.heap, s.gens, s.drawn, s.toks)) = some (boot_heap w.params, Array.mk [], boot_drawn, boot_toks) := boot_open (by kernel_rfl) rfl (fun s => by kernel_rfl)
theorem looks0 (w : World) (os : OsState) : (staticsOk (importedModules prg0.main.body) (boot_heap w.params) (heapZ w.params) && namesBound prg0 (heapZ w.params) && gensDone ⟨heapZ w.params, Array.mk [], boot_drawn, 719, os⟩ && laidKept (boot_heap w.params) (heapZ w.params)) = true := by kernel_rfl
theorem looks1 (w : World) (os : OsState) : openSeen vw loose0 (importedModules prg0.main.body) (fun s => xlAt vw lv0 s && recOk (RowW.records R0) s) true ⟨heapZ w.params, Array.mk [], boot_drawn, 719, os⟩ = openGood vw loose0 := by kernel_rfl
theorem looks2 (w : World) (os : OsState) : HK.obs ⟨heapZ w.params, Array.mk [], boot_drawn, 719, os⟩ = HK.val w := by kernel_rfl
theorem left0 : LeftO PySem.Challenge.rw_pq1183_01.row.prog vw loose0 (fun s => xlAt vw lv0 s && recOk (RowW.records R0) s) HK.obs HK.val 3252 :=
  LeftO.of_pieces open0 size0 run0 rfl (fun w => funext fun os => looks_pair (looks0 w os) (looks_pair (looks1 w os) (looks2 w os)))
theorem two_groups {p a0 a1 a2 a3 a4 a5 a6 a7 a8 a9 a10 a11 a12 a13 a14 a15 a16 a17 : Bool} (h1 : p = true) (h2 : (a0 && a1 && a2 && a3 && a4 && a5 && a6 && a7 && a8 && a9 && a10 && a11 && a12 && a13 && a14 && a15 && a16 && a17) = true) : (p && a0 && a1 && a2 && a3 && a4 && a5 && a6 && a7 && a8 && a9 && a10 && a11 && a12 && a13 && a14 && a15 && a16 && a17) = true := by
  subst h1
  simpa only [Bool.true_and] using h2
theorem said0 : PySem.Challenge.rw_pq1183_01.wellSaid = true := by
  unfold OpenLaw.wellSaid
  with_reducible refine two_groups ?_ ?_
  · decide +kernel
  · decide +kernel
end Mine
namespace Mine
theorem gen_toks {M : Model} {A : Around} {α : Type} {t : Sem α} {Q : α → Shared → Prop} {E : Value → Shared → Prop} {h : Heap} {g : Array GenState} {d : Drawn} {X : Nat} {os : OsState} (H : ∀ tk, wpAny M A t Q E ⟨h, g, d, tk, os⟩) : wpAny M A t Q E ⟨h, g, d, X, os⟩ := H X
end Mine
namespace Mine
abbrev prg : Program := PySem.Challenge.rw_pq1183_01.row.prog
/-- contract -/
abbrev Con (w : World) (p : Program) (loose : List Str) (mean : ExcName → Option Value) (mg mb : Str → Option Value) (f : Addr) (news : List (Addr × Obj)) (vs : List Value) (d u : Nat)
   (R : Heap → Addr → (Str → Option Value) → Shared → (Value → Shared → Prop) → Prop) : Prop :=
  ∀ (dp un : Nat) (gd : Option (List Code)) (cn : Str) (cs : Scope) (a : Addr) (ccd : Value) (cl : List (Str × Addr)) (outer : List Env) (A₀ : Around) (base h₀ : Heap) (L : Addr) (m : Str → Option Value) (s : Shared) (Q E : Value → Shared → Prop),
    Below A₀ base outer h₀ → Fr h₀ L s.heap m → (KK w.params).In h₀ → News h₀ L s.heap news → Top p loose mean mg mb h₀ → cs.kind = .function → dp + d < recursionLimit → un + u < cLine → R h₀ L m s Q →
      wpAny (model prg w) (ktrTop dp un gd cn cs L a ccd cl outer) (call (.ref f) vs) Q E s
abbrev digit (x : Int) : Prop := 48 ≤ x ∧ x ≤ 57
noncomputable def digs (ks : List Int) : Int := ks.foldl (fun n o => 10 * n + o - 48) 0
theorem digs_snoc (ks : List Int) (x : Int) : digs (ks ++ [x]) = 10 * digs ks + x - 48 := by simp [digs]
noncomputable def NumIs (ks : List Int) (v : Value) : Prop := (v = .none ∧ (ks = [] ∨ ∃ x ∈ ks, ¬ digit x)) ∨ (∃ t, v = .int (digs ks) t ∧ ks ≠ [] ∧ ∀ x ∈ ks, digit x)
noncomputable def NInv (pre : List Int) (n k : Int) : Prop := 0 ≤ k ∧ k ≤ pre.length ∧ n = digs pre ∧ (∀ x ∈ pre, digit x) ∧ 0 ≤ n ∧ n < 10 ^ pre.length
theorem digs_lt (ks : List Int) : (∀ x ∈ ks, digit x) → 0 ≤ digs ks ∧ digs ks < 10 ^ ks.length := by
  suffices h : ∀ r : List Int, (∀ x ∈ r, digit x) → 0 ≤ digs r.reverse ∧ digs r.reverse < 10 ^ r.length by
    intro hk
    have := h ks.reverse (fun x hx => hk x (by simpa using hx))
    simpa using this
  intro r
  induction r with
  | nil => intro _; simp [digs]
  | cons x r ih =>
    intro hk
    have h1 := ih fun y hy => hk y (.tail _ hy)
    have h2 := hk x (.head _)
    simp only [List.reverse_cons, digs_snoc, List.length_cons, Int.pow_succ]
    unfold digit at h2
    omega
theorem NInv_nil : NInv [] 0 0 := ⟨by decide, by decide, rfl, (fun _ h => nomatch h), by decide, by decide⟩
theorem NInv_step {pre : List Int} {n k k' x : Int} (h : NInv pre n k) (h1 : 48 ≤ x) (h2 : x ≤ 57) (h3 : k ≤ k') (h4 : k' ≤ k + 1) : NInv (pre ++ [x]) (10 * n + x - 48) k' := by
  obtain ⟨a, b, c, d, e, f⟩ := h
  have D : ∀ y ∈ pre ++ [x], digit y := by
    intro y hy
    rcases List.mem_append.mp hy with hy | hy
    · exact d y hy
    · rw [List.mem_singleton.mp hy]; exact ⟨h1, h2⟩
  have L := digs_lt _ D
  refine ⟨by omega, by simp; omega, by rw [digs_snoc, c], D, ?_, ?_⟩
  · rw [digs_snoc, ← c] at L; exact L.1
  · rw [digs_snoc, ← c] at L; exact L.2
theorem NInv_no {pre : List Int} {n k : Int} {b : Array UInt8} {P : Prop} (h : NInv pre n k) (hl : pre.length ≤ b.toList.length) (hb : b.size ≤ 100) (hk : 999 < k) : P := by
  obtain ⟨_, h, _⟩ := h
  have e : b.toList.length = b.size := Array.length_toList
  omega
theorem num_nil {b : Array UInt8} (h : (b.size : Int) = 0) : NumIs (KBw.bInts b) .none := .inl ⟨rfl, .inl (by
  have : (KBw.bInts b).length = 0 := by rw [KBw.ints_length]; omega
  exact List.eq_nil_of_length_eq_zero this)⟩
theorem num_bad {ks pre post : List Int} {x : Int} (e : ks = pre ++ x :: post) (h : ¬ (48 ≤ x ∧ x ≤ 57)) : NumIs ks .none := .inl ⟨rfl, .inr ⟨x, by rw [e]; simp, h⟩⟩
theorem num_good {b : Array UInt8} {n k : Int} {t : Tok} (h : NInv (KBw.bInts b) n k) (hb : (b.size : Int) ≠ 0) : NumIs (KBw.bInts b) (.int n t) := by
  obtain ⟨_, _, c, d, _⟩ := h
  refine .inr ⟨t, by rw [c], fun e => hb ?_, d⟩
  rw [← KBw.ints_length, e]; rfl
theorem number_of_C (w p loose mean mg mb) (news : List (Addr × Obj)) (b : Array UInt8) (tb : Tok) (hb : b.size ≤ 100) :
  Con w p loose mean mg mb 28 news [.bytes b tb] 2 20 (fun h₀ L m s Q => ∀ (v : Value) h' tk', NumIs (KBw.bInts b) v → Fr h₀ L h' m → News h₀ L h' news → Q v { s with heap := h', toks := tk' }) := by
  unfold Con prg
  k_fill
  intro dp un gd cn cs a ccd cl outer A₀ base h₀ L m s Q E B F X N T hk hdp hun hret
  k_with "pyIter bytes" => k_state NInv "number" "many"
  k_with "state" => first | exact NInv_nil | exact NInv_step kInv (by omega) (by omega) (by omega) (by omega) | exact NInv_no kInv (Nat.le_of_lt kLen) (by assumption) (by omega)
  refine wpAny_call ?_
  k_dflt cell_enter
  k_steps
  all_goals (refine hret _ _ _ ?_ (by k_asm) (by first | k_asm | (refine' cb_drop ?cbN ?cbS; (case cbN => assumption); (case cbS => kcj_all))))
  all_goals first
    | exact num_nil (by assumption)
    | exact num_bad kEq (by omega)
    | exact num_good kInv (by assumption)
    | exact NInv_no kInv (Nat.le_of_eq kLen) (by assumption) (by omega)
    | skip
end Mine
namespace Mine
abbrev K4 : Type := Array UInt8 × Int × Int × Int
inductive KeyR (w : World) : Option K4 → Value → List (Addr × Obj) → Prop
  | none : KeyR w none .none []
  | some (n : Array UInt8) (c h e : Int) (x d : Addr) (t1 t2 t3 t4 u1 u2 u3 u4 : Tok) : KeyR w (some (n, c, h, e)) (.ref x)
      [(x, instObj 116 d), (d, dictOf [⟨PyData.keyHash w.params (Str.ofString "name"), .str (Str.ofString "name") t1, .bytes n u1⟩, ⟨PyData.keyHash w.params (Str.ofString "code"), .str (Str.ofString "code") t2, .int c u2⟩,
        ⟨PyData.keyHash w.params (Str.ofString "held"), .str (Str.ofString "held") t3, .int h u3⟩, ⟨PyData.keyHash w.params (Str.ofString "event"), .str (Str.ofString "event") t4, .int e u4⟩] 4)]
abbrev KRet (w : World) (r : Option K4) (news : List (Addr × Obj)) (h₀ : Heap) (L : Addr) (m : Str → Option Value) (s : Shared) (Q : Value → Shared → Prop) : Prop :=
  ∀ (v : Value) (h' : Heap) (tk' : Nat) (new : List (Addr × Obj)), KeyR w r v new → Fr h₀ L h' m → News h₀ L h' (new ++ news) → Q v { s with heap := h', toks := tk' }
theorem kret_new {w : World} {r : Option K4} {news : List (Addr × Obj)} {h₀ h' : Heap} {L : Addr} {m : Str → Option Value} {s : Shared} {Q : Value → Shared → Prop} {tk' : Nat} (H : KRet w r news h₀ L m s Q) {n : Array UInt8} {c h e : Int} {x d : Addr} {t1 t2 t3 t4 u1 u2 u3 u4 : Tok} (F : Fr h₀ L h' m)
    (N : News h₀ L h' ((x, instObj 116 d) :: (d, dictOf [⟨PyData.keyHash w.params (Str.ofString "name"), .str (Str.ofString "name") t1, .bytes n u1⟩, ⟨PyData.keyHash w.params (Str.ofString "code"), .str (Str.ofString "code") t2, .int c u2⟩,
        ⟨PyData.keyHash w.params (Str.ofString "held"), .str (Str.ofString "held") t3, .int h u3⟩, ⟨PyData.keyHash w.params (Str.ofString "event"), .str (Str.ofString "event") t4, .int e u4⟩] 4) :: news)) (E : r = some (n, c, h, e)) : Q (.ref x) { s with heap := h', toks := tk' } := by
  subst E
  exact H _ _ _ _ (.some n c h e x d t1 t2 t3 t4 u1 u2 u3 u4) F N
/-- what the caller has made stands while the callee's base stands -/
theorem news_back {h₀ g h' : Heap} {L L' : Addr} {m' : Str → Option Value} {new news : List (Addr × Obj)} (NG : News h₀ L g news) (F' : Fr g L' h' m') (N : News h₀ L h' new) : News h₀ L h' (new ++ news) := fun p hp => by
  rcases List.mem_append.mp hp with hp | hp
  · exact N p hp
  · exact ⟨F'.keep _ _ (NG p hp).1, (NG p hp).2⟩
theorem kret_end {w : World} {r : Option K4} {news rest : List (Addr × Obj)} {h₀ g h' : Heap} {L L' : Addr} {m m' : Str → Option Value} {s : Shared} {Q : Value → Shared → Prop} {tk' : Nat} (H : KRet w r news h₀ L m s Q) (NG : News h₀ L g news) (F' : Fr g L' h' m')
    {n : Array UInt8} {c h e : Int} {x d : Addr} {t1 t2 t3 t4 u1 u2 u3 u4 : Tok} (F : Fr h₀ L h' m)
    (N : News h₀ L h' ((x, instObj 116 d) :: (d, dictOf [⟨PyData.keyHash w.params (Str.ofString "name"), .str (Str.ofString "name") t1, .bytes n u1⟩, ⟨PyData.keyHash w.params (Str.ofString "code"), .str (Str.ofString "code") t2, .int c u2⟩,
        ⟨PyData.keyHash w.params (Str.ofString "held"), .str (Str.ofString "held") t3, .int h u3⟩, ⟨PyData.keyHash w.params (Str.ofString "event"), .str (Str.ofString "event") t4, .int e u4⟩] 4) :: rest)) (E : r = some (n, c, h, e)) : Q (.ref x) { s with heap := h', toks := tk' } := by
  subst E
  refine H _ _ _ _ (.some n c h e x d t1 t2 t3 t4 u1 u2 u3 u4) F (news_back NG F' fun p hp => N p ?_)
  rcases List.mem_cons.mp hp with rfl | hp
  · exact .head _
  · exact .tail _ (List.mem_cons.mpr (.inl (List.mem_singleton.mp hp)))
theorem kret_endN {w : World} {r : Option K4} {news rest : List (Addr × Obj)} {h₀ g h' : Heap} {L L' : Addr} {m m' : Str → Option Value} {s : Shared} {Q : Value → Shared → Prop} {tk' : Nat} (H : KRet w r news h₀ L m s Q) (NG : News h₀ L g news) (F' : Fr g L' h' m')
    (F : Fr h₀ L h' m) (E : r = none) : Q .none { s with heap := h', toks := tk' } := by
  subst E
  exact H _ _ _ [] .none F (news_back NG F' News.nil)
theorem code_def0 {prog : Program} {w : World} {A A₀ : Around} {s : Shared} {K : Frag} {L : Addr} {h₀ base : Heap} {m mg mb : Str → Option Value} {news : List (Addr × Obj)} {p : Program} {loose : List Str} {mean : ExcName → Option Value}
    {env : Env} {outer : List Env} {R : Result → Shared → Prop} {name qual : Str} {params : Arguments} {body : List Stmt} {scope : Scope} {dV kV doc pm cdv ct oc : Value} {an od : Option Addr} {osl : Array (Option Value)} {f : Addr} {args : Args} {binds : List (Str × Value)}
    (B : Below A₀ base outer h₀) (F : Fr h₀ L s.heap m) (X₀ : K.In h₀) (N : News h₀ L s.heap news) (T : Top p loose mean mg mb h₀) (hA : A.frames = some (env :: outer)) (hf : env.frame = some L) (hke : env.scope.kind = .function)
    (ho : K.lookup f = some ⟨oc, od, .func (fnOf name qual params body scope dV kV doc pm an cdv ct), osl⟩) (hcd : codeIn K cdv qual = true) (hroom : A.depth < recursionLimit)
    (hbind : BindsTo s (fnOf name qual params body scope dV kV doc pm an cdv ct) args binds) (hloc : ∀ y ∈ binds, scope.names.lookup y.1 = some .local)
    (h : ∀ g L' h₁, Fr h₀ L g m → News h₀ L g news → Fr g L' h₁ (fun y => binds.reverse.lookup y) → News g L' h₁ [] → Below A base (env :: outer) g → K.In g → Top p loose mean mg mb g →
      wpAny (model prog w) (A.deeper (envOf qual scope L' f cdv)) (execs body (envOf qual scope L' f cdv))
        (fun fl s' => LeaveK h₀ L m g R (match fl with | .ret v => v | _ => .none) s')
        (fun e s' => wpAny (model prog w) (A.deeper (envOf qual scope L' f cdv)) (leaving (envOf qual scope L' f cdv) e) (fun _ s'' => R (.error e) s'') (fun e' s'' => R (.error e') s'') s')
        { s with heap := h₁, toks := s.toks + binds.length })
    (hco : scope.isCoroutine = false) (hgen : scope.isGenerator = false) (hk : scope.kind = .function)
    (hcell : ∀ x ∈ scope.names, x.2 ≠ .cell) : codeAny (model prog w) A (.call (.ref f) args) R s := by
  obtain ⟨FG, BG, st, lv⟩ := groundX (news := []) (R := R) B F (News.nil) hA hf hke
  have X := X₀.keeps F.keep
  refine codeAny_call_def (fd := fnX name qual params body scope [] dV kV doc pm an cdv ct) (body := body) (binds := binds) hroom (X _ _ ho) rfl (T.nolimit.keeps F.keep) (codeRec_of X hcd) rfl hbind hcell hloc (fun h₁ hns hk₁ => ?_) hco hgen hk
  exact wpAny_mono (h s.heap s.heap.objs.size h₁ FG N ⟨hns, fun b o e => hk₁ b o e, Nat.le_refl _⟩ News.nil BG X (T.keeps F.keep)) (fun fl s' hl => lv _ _ hl) fun _ _ y => y
noncomputable def settledS (code held : Int) : Int × Int :=
  if 4 ≤ held then (if 65 ≤ code ∧ code ≤ 90 then code + 32 else code, held)
  else if held % 2 = 1 then (if 97 ≤ code ∧ code ≤ 122 then (code - 32, held - 1) else if 65 ≤ code ∧ code ≤ 90 then (code, held - 1) else (code, held))
  else (code, held)
end Mine
namespace Mine
section
open PySem.Spec PySem.Calls
section
variable {prog : Program} {w : World} {A : Around} {E : Value → Shared → Prop} {s : Shared} {env : Env} {h₀ : Heap} {target : Expr} {body : List Stmt} {Q : Flow → Shared → Prop} {K : Frag}
/-- items one by one: what a turn stores is named, the ledger stands -/
theorem items_ind {vs : List Value} {m₀ : Str → Option Value} {news keep : List (Addr × Obj)} {I : Addr} (st : List Str) (J : Nat → Prop) (hI : ∀ p ∈ news, p.1 < I) (hkeep : SubL keep news)
    (turn : ∀ i v (u : Str → Option Value) o h tk, vs[i]? = some v → J i → Fr h₀ env.locals h (fun y => if st.contains y then u y else m₀ y) → News h₀ env.locals h ((I, o) :: news) →
      wpAny (model prog w) A (assign target env v) (fun _ s₂ => wpAny (model prog w) A (execs body env) (InvPostG h₀ env.locals (fun m' nx => nx = news ∧ (∀ z, st.contains z = false → m' z = m₀ z) ∧ J (i + 1)) [(I, o)] { s with heap := h, toks := tk } Q) E s₂) E { s with heap := h, toks := tk })
    (done : ∀ (u : Str → Option Value) h tk, J vs.length → Fr h₀ env.locals h (fun y => if st.contains y then u y else m₀ y) → News h₀ env.locals h news → Q .next { s with heap := h, toks := tk }) :
    ∀ (k i : Nat) (m : Str → Option Value), i + k = vs.length → J i → (∀ z, st.contains z = false → m z = m₀ z) → ItemsRest prog w A E h₀ env target body Q s [(I, "tuple_iterator")] keep ((vs.drop i).map .val) m news := by
  have fr : ∀ (m : Str → Option Value) h, (∀ z, st.contains z = false → m z = m₀ z) → Fr h₀ env.locals h m → Fr h₀ env.locals h (fun y => if st.contains y then m y else m₀ y) := fun m h hm F => by
    have e : m = fun y => if st.contains y then m y else m₀ y := by
      funext y
      by_cases h2 : st.contains y = true
      · rw [if_pos h2]
      · rw [if_neg h2]; exact hm y (by simpa using h2)
    rw [← e]; exact F
  intro k
  induction k with
  | zero =>
    intro i m hi hj hm
    have hd : vs.drop i = [] := List.drop_eq_nil_of_le (by omega)
    rw [hd]
    intro h tk F N
    have : i = vs.length := by omega
    subst this
    exact done m h tk hj (fr m h hm F) N
  | succ k ih =>
    intro i m hi hj hm
    have hlt : i < vs.length := by omega
    rw [List.drop_eq_getElem_cons hlt]
    intro v h tk hv F o hc N
    subst hv
    refine wpAny_mono (turn i _ m o h tk (List.getElem?_eq_getElem hlt) hj (fr m h hm F) N) (fun _ s₂ h₂ => wpAny_mono h₂ (fun f s₃ p => ?_) fun _ _ e => e) fun _ _ e => e
    have fin : InvEndG h₀ env.locals (fun m' nx => nx = news ∧ (∀ z, st.contains z = false → m' z = m₀ z) ∧ J (i + 1)) [(I, o)] { s with heap := h, toks := tk } s₃ →
        UnrEndW h₀ env.locals { s with heap := h, toks := tk } [(I, o)] (fun m' n' => SubL keep n' ∧ ItemsRest prog w A E h₀ env target body Q s [(I, "tuple_iterator")] keep ((vs.drop (i + 1)).map .val) m' n') s₃ := by
      rintro ⟨h', tk', m', news', nx, e, F', N', hn, ho, _, rfl, hm', hj'⟩
      refine ⟨h', tk', m', nx, e, F', fun p hp => ?_, fun p hp q hq => ?_, hkeep, ih (i + 1) m' (by omega) hj' hm'⟩
      · rcases List.mem_append.mp hp with hp | hp
        · exact N' p (ho p hp)
        · exact N' p (hn p hp)
      · rw [List.mem_singleton.mp hq]
        exact Nat.ne_of_lt (hI p hp)
    cases f with
    | ret v => exact p
    | brk => exact p
    | next => exact fin p
    | cont => exact fin p
/-- a loop over a written tuple of the top -/
theorem loopT {ax : Addr} {lo : Obj} {vs : List Value} {n : Nat} {m₀ : Str → Option Value} {news : List (Addr × Obj)} (st : List Str) (J : Nat → Prop)
    (hh : A.handled = none) (F : Fr h₀ env.locals s.heap m₀) (N : News h₀ env.locals s.heap news) (X₀ : K.In h₀) (hk : K.lookup ax = some lo) (hc : lo.cls = .type "tuple") (hd : lo.data = .seq vs.toArray n) (hz : vs.length ≤ 24) (hj : J 0)
    (turn : ∀ i v (u : Str → Option Value) I o h tk, vs[i]? = some v → J i → (∀ p ∈ news, p.1 < I) → Fr h₀ env.locals h (fun y => if st.contains y then u y else m₀ y) → News h₀ env.locals h ((I, o) :: news) →
      wpAny (model prog w) A (assign target env v) (fun _ s₂ => wpAny (model prog w) A (execs body env) (InvPostG h₀ env.locals (fun m' nx => nx = news ∧ (∀ z, st.contains z = false → m' z = m₀ z) ∧ J (i + 1)) [(I, o)] { s with heap := h, toks := tk } Q) E s₂) E { s with heap := h, toks := tk })
    (done : ∀ (u : Str → Option Value) h tk, J vs.length → Fr h₀ env.locals h (fun y => if st.contains y then u y else m₀ y) → News h₀ env.locals h news → Q .next { s with heap := h, toks := tk }) :
    wpAny (model prog w) A (pyIter (.ref ax)) (fun it s₂ => TurnsAt prog w A h₀ env target body Q E it s₂) E s :=
  iter_tupK hh F N X₀ hk hc hd hz fun I hI => items_ind (vs := vs) (keep := []) st J hI trivial (fun i v u o h tk hv hJ F N => turn i v u I o h tk hv hJ hI F N) done vs.length 0 m₀ (by omega) hj fun _ _ => rfl
/-- a loop over a tuple that the call has made -/
theorem loopM {ax : Addr} {lo : Obj} {vs : List Value} {n : Nat} {m₀ : Str → Option Value} {news : List (Addr × Obj)} (st : List Str) (J : Nat → Prop)
    (hh : A.handled = none) (F : Fr h₀ env.locals s.heap m₀) (N : News h₀ env.locals s.heap news) (hm : (ax, lo) ∈ news) (hc : lo.cls = .type "tuple") (hd : lo.data = .seq vs.toArray n) (hj : J 0)
    (turn : ∀ i v (u : Str → Option Value) I o h tk, vs[i]? = some v → J i → (∀ p ∈ news, p.1 < I) → Fr h₀ env.locals h (fun y => if st.contains y then u y else m₀ y) → News h₀ env.locals h ((I, o) :: news) →
      wpAny (model prog w) A (assign target env v) (fun _ s₂ => wpAny (model prog w) A (execs body env) (InvPostG h₀ env.locals (fun m' nx => nx = news ∧ (∀ z, st.contains z = false → m' z = m₀ z) ∧ J (i + 1)) [(I, o)] { s with heap := h, toks := tk } Q) E s₂) E { s with heap := h, toks := tk })
    (done : ∀ (u : Str → Option Value) h tk, J vs.length → Fr h₀ env.locals h (fun y => if st.contains y then u y else m₀ y) → News h₀ env.locals h news → Q .next { s with heap := h, toks := tk }) :
    wpAny (model prog w) A (pyIter (.ref ax)) (fun it s₂ => TurnsAt prog w A h₀ env target body Q E it s₂) E s :=
  iter_tupTurns hh F N hm hc hd fun I hI => items_ind (vs := vs) (keep := [(ax, lo)]) st J hI ⟨hm, trivial⟩ (fun i v u o h tk hv hJ F N => turn i v u I o h tk hv hJ hI F N) done vs.length 0 m₀ (by omega) hj fun _ _ => rfl
/-- the end of a turn -/
theorem turn_end {m₀ m' : Str → Option Value} {news all : List (Addr × Obj)} {I L : Addr} {o : Obj} {st : List Str} {J : Prop} {s₁ : Shared} {h' : Heap} {tk : Nat} (F : Fr h₀ L h' m') (N : News h₀ L h' all) (hI : ∀ p ∈ news, p.1 < I) (hs : ∀ p ∈ (I, o) :: news, p ∈ all)
    (hm : ∀ z, st.contains z = false → m' z = m₀ z) (hj : J) : InvEndG h₀ L (fun m' nx => nx = news ∧ (∀ z, st.contains z = false → m' z = m₀ z) ∧ J) [(I, o)] s₁ { s₁ with heap := h', toks := tk } :=
  InvEndG.intro F N ⟨rfl, hm, hj⟩ (fun p hp b hb => by
    rw [List.mem_singleton.mp hp]
    obtain ⟨q, hq, rfl⟩ := List.mem_map.mp hb
    exact (Nat.ne_of_lt (hI q hq)).symm) (fun p hp => hs p (.tail _ hp)) fun p hp => hs p (by rw [List.mem_singleton.mp hp]; exact .head _)
end
/-- rows of a written table: a name and a number -/
noncomputable def RowsK (K : Frag) : List Value → List (Int × Array UInt8) → Prop
  | [], [] => True
  | v :: vs, (k, b) :: tab => (∃ a t u, v = .ref a ∧ K.lookup a = some (Obj.mk (Value.type "tuple") none (Data.seq #[.bytes b t, .int k u]) #[])) ∧ RowsK K vs tab
  | _, _ => False
theorem rows_at {K : Frag} : ∀ {vs : List Value} {tab : List (Int × Array UInt8)} {i : Nat} {v : Value}, RowsK K vs tab → vs[i]? = some v → ∃ k b a t u, tab[i]? = some (k, b) ∧ v = .ref a ∧ K.lookup a = some (Obj.mk (Value.type "tuple") none (Data.seq #[.bytes b t, .int k u]) #[])
  | [], _, i, v, _, h => by simp at h
  | _ :: _, [], i, v, r, _ => (show False from r).elim
  | x :: vs, (k, b) :: tab, 0, v, ⟨⟨a, t, u, e, hl⟩, _⟩, h => by
    simp only [List.getElem?_cons_zero, Option.some.injEq] at h
    subst h
    exact ⟨k, b, a, t, u, rfl, e, hl⟩
  | x :: vs, (k, b) :: tab, i + 1, v, ⟨_, r⟩, h => by
    rw [List.getElem?_cons_succ] at h ⊢
    exact rows_at r h
noncomputable def findIn1 (t : List (Int × Array UInt8)) (n : Int) : Option (Array UInt8) := match t with
  | [] => none
  | (k, b) :: r => if k = n then some b else findIn1 r n
noncomputable def letterTable : List (Int × Array UInt8) := [(65, #[85, 112]), (66, #[68, 111, 119, 110]), (67, #[82, 105, 103, 104, 116]), (68, #[76, 101, 102, 116]), (70, #[69, 110, 100]), (72, #[72, 111, 109, 101]), (80, #[70, 49]), (81, #[70, 50]), (82, #[70, 51]), (83, #[70, 52])]
noncomputable def numberTable : List (Int × Array UInt8) := [(2, #[73, 110, 115, 101, 114, 116]), (3, #[68, 101, 108, 101, 116, 101]), (5, #[80, 97, 103, 101, 85, 112]), (6, #[80, 97, 103, 101, 68, 111, 119, 110]), (15, #[70, 53]), (17, #[70, 54]), (18, #[70, 55]), (19, #[70, 56]), (20, #[70, 57]), (21, #[70, 49, 48]), (23, #[70, 49, 49]), (24, #[70, 49, 50]), (25, #[70, 49, 51]), (26, #[70, 49, 52]), (28, #[70, 49, 53]), (29, #[70, 49, 54]), (31, #[70, 49, 55]), (32, #[70, 49, 56]), (33, #[70, 49, 57]), (34, #[70, 50, 48])]
noncomputable def otherTable : List (Int × Array UInt8) := [(1, #[72, 111, 109, 101]), (4, #[69, 110, 100]), (7, #[72, 111, 109, 101]), (8, #[69, 110, 100]), (11, #[70, 49]), (12, #[70, 50]), (13, #[70, 51]), (14, #[70, 52])]
/-- the names that a code has -/
noncomputable def codeTable : List (Int × Array UInt8) := [(9, #[84, 97, 98]), (13, #[69, 110, 116, 101, 114]), (27, #[69, 115, 99, 97, 112, 101]), (127, #[66, 83, 112, 97, 99, 101])]
noncomputable def padTable : List (Int × Array UInt8) := [(57399, #[75, 80, 48]), (57400, #[75, 80, 49]), (57401, #[75, 80, 50]), (57402, #[75, 80, 51]), (57403, #[75, 80, 52]), (57404, #[75, 80, 53]), (57405, #[75, 80, 54]), (57406, #[75, 80, 55]), (57407, #[75, 80, 56]), (57408, #[75, 80, 57]),
  (57409, #[75, 80, 46]), (57410, #[75, 80, 47]), (57411, #[75, 80, 42]), (57412, #[75, 80, 45]), (57413, #[75, 80, 43]), (57414, #[75, 80, 69, 110, 116, 101, 114]), (57415, #[75, 80, 61]), (57416, #[75, 80, 44])]
/-- none of the first i rows is n's -/
noncomputable def Past (tab : List (Int × Array UInt8)) (n : Int) (i : Nat) : Prop := findIn1 tab n = findIn1 (tab.drop i) n
theorem past_hit {tab : List (Int × Array UInt8)} {n k : Int} {i : Nat} {b : Array UInt8} (h : Past tab n i) (e : tab[i]? = some (k, b)) (hk : k = n) : findIn1 tab n = some b := by
  have hlt := (List.getElem?_eq_some_iff.mp e).1
  have hv := (List.getElem?_eq_some_iff.mp e).2
  unfold Past at h
  rw [List.drop_eq_getElem_cons hlt, hv] at h
  rw [h, findIn1, if_pos hk]
theorem past_next {tab : List (Int × Array UInt8)} {n k : Int} {i : Nat} {b : Array UInt8} (h : Past tab n i) (e : tab[i]? = some (k, b)) (hk : ¬ k = n) : Past tab n (i + 1) := by
  have hlt := (List.getElem?_eq_some_iff.mp e).1
  have hv := (List.getElem?_eq_some_iff.mp e).2
  unfold Past at h ⊢
  rw [List.drop_eq_getElem_cons hlt, hv] at h
  rw [h, findIn1, if_neg hk]
theorem past_all {tab : List (Int × Array UInt8)} {n : Int} {i : Nat} (h : Past tab n i) (e : tab.length ≤ i) : findIn1 tab n = none := by
  unfold Past at h
  rw [h, List.drop_eq_nil_of_le e]; rfl
theorem rows_length {K : Frag} : ∀ {vs : List Value} {tab : List (Int × Array UInt8)}, RowsK K vs tab → vs.length = tab.length
  | [], [], _ => rfl
  | [], _ :: _, h => (show False from h).elim
  | _ :: _, [], h => (show False from h).elim
  | _ :: vs, _ :: tab, ⟨_, r⟩ => by simp [rows_length r]
section
variable {prog : Program} {w : World} {A : Around} {E : Value → Shared → Prop} {s : Shared} {h₀ : Heap} {L l : Addr} {news : List (Addr × Obj)} {vs : List Value} {n : Nat}
theorem led_len {Q : Value → Shared → Prop} (N : News h₀ L s.heap news) (hm : (l, listOf vs.toArray n) ∈ news) (hfit : (vs.length : Int) < 2 ^ 63) (h : Q (.int (vs.length : Int) (s.toks + 1)) { s with toks := s.toks + 1 + 1 }) :
    wpAny (model prog w) A (call (.builtin "len") [.ref l]) Q E s := by
  have hl : s.heap.IsList l vs.toArray := ⟨_, (N _ hm).1, rfl, n, rfl⟩
  exact len_list hl (by rw [List.size_toArray]; exact hfit) (by rw [List.size_toArray]; exact h)
theorem led_item {value slice : PySem.Expr} {k : Int} {u : Tok} {x : Value} {Q : Value → Shared → Prop} (N : News h₀ L s.heap news) (hm : (l, listOf vs.toArray n) ∈ news) (h0 : 0 ≤ k) (hfit : k < 2 ^ 63) (hx : vs[k.toNat]? = some x) (h : Q x s)
    (hs : subscripted slice false (.ref l) (.int k u) = operate [.ref l, .int k u] (getItem (.ref l) (.int k u)) := by with_unfolding_all rfl) : wpAny (model prog w) A (subscriptTail value slice (.ref l) (.int k u)) Q E s := by
  have hl : s.heap.IsList l vs.toArray := ⟨_, (N _ hm).1, rfl, n, rfl⟩
  exact tail_any hl.typeIs slot_list_getitem.lookup (wpAny_getItem_list hl h0 hfit (by simpa using hx) h) hs
end
/-- a value that is shown once for all its ways; the ledger stands -/
inductive ValH (g : Heap) (L' : Addr) (m : Str → Option Value) (nw : List (Addr × Obj)) (P : Value → Prop) (s₁ : Shared) : Value → Shared → Prop
  | mk (v : Value) (h' : Heap) (tk : Nat) : Fr g L' h' m → News g L' h' nw → P v → ValH g L' m nw P s₁ v { s₁ with heap := h', toks := tk }
theorem val_cut {prog : Program} {w : World} {A : Around} {E : Value → Shared → Prop} {s₁ : Shared} {Q : Value → Shared → Prop} {t : Sem Value} {g : Heap} {L' : Addr} {m : Str → Option Value} {nw : List (Addr × Obj)} (P : Value → Prop) (_ : Fr g L' s₁.heap m) (_ : News g L' s₁.heap nw) (h1 : wpAny (model prog w) A t (ValH g L' m nw P s₁) E s₁)
    (h2 : ∀ v h' tk, P v → Fr g L' h' m → News g L' h' nw → Q v { s₁ with heap := h', toks := tk }) : wpAny (model prog w) A t Q E s₁ :=
  wpAny_mono h1 (fun _ _ h => by cases h with | mk h' tk F N a => exact h2 _ h' tk a F N) fun _ _ h => h
/-- a statement whose ways onward meet again; the frame and the ledger stand -/
inductive NextQ (g : Heap) (L' : Addr) (m : Str → Option Value) (nw : List (Addr × Obj)) (P : Prop) (Q : Flow → Shared → Prop) (s₁ : Shared) : Flow → Shared → Prop
  | next (h' : Heap) (tk : Nat) : Fr g L' h' m → News g L' h' nw → P → NextQ g L' m nw P Q s₁ .next { s₁ with heap := h', toks := tk }
  | ret (v : Value) (s' : Shared) : Q (.ret v) s' → NextQ g L' m nw P Q s₁ (.ret v) s'
theorem cut0 {prog : Program} {w : World} {A : Around} {E : Value → Shared → Prop} {s₁ : Shared} {Q : Flow → Shared → Prop} {t : Sem Flow} {g : Heap} {L' : Addr} {m : Str → Option Value} {nw : List (Addr × Obj)} (P : Prop) (_ : Fr g L' s₁.heap m) (_ : News g L' s₁.heap nw) (h1 : wpAny (model prog w) A t (NextQ g L' m nw P Q s₁) E s₁)
    (h2 : ∀ h' tk, P → Fr g L' h' m → News g L' h' nw → Q .next { s₁ with heap := h', toks := tk }) : wpAny (model prog w) A t Q E s₁ :=
  wpAny_mono h1 (fun _ _ h => by cases h with
    | next h' tk F N a => exact h2 h' tk a F N
    | ret v s' q => exact q) fun _ _ h => h
end
end Mine
namespace Mine
section
open PySem.Spec PySem.Calls PySem.SeqAt
section
variable {A : Around} {s : Shared}
theorem rcAt_bytes (b c : Array UInt8) (t u : Tok) : RcAt A s (.bytes b t) (.bytes c u) (b.toList == c.toList) := fun _ _ _ _ h => PySem.W.eq_bytes h
theorem eqAt_bytes (b c : Array UInt8) (t u : Tok) : EqAt A s (.bytes b t) (.bytes c u) (b.toList == c.toList) := fun prog w E Q h => by
  unfold eqBool
  refine wpAny_holding ?_
  refine wpAny_ite_split (fun hab => ?_) (fun _ => ?_)
  · have e : b = c := by have := eq_of_beq hab; injection this
    subst e
    exact wpAny_bind (wpAny_rule (wpAny_pure (by simpa using h)))
  · exact wpAny_bind (rcAt_bytes b c t u prog w E _ (wpAny_truthy_bool h))
/-- two tuples of the ledger with the same four values -/
theorem ne_same4 {prog : Program} {w : World} {E : Value → Shared → Prop} {a d : Addr} {h₀ : Heap} {L : Addr} {news : List (Addr × Obj)} {n : Array UInt8} {c h e : Int} {t1 t2 t3 t4 u1 u2 u3 u4 : Tok} {Q : Value → Shared → Prop} (N : News h₀ L s.heap news)
    (ha : (a, ({ cls := .type "tuple", data := .seq #[.bytes n t1, .int c t2, .int h t3, .int e t4] } : Obj)) ∈ news) (hd : (d, ({ cls := .type "tuple", data := .seq #[.bytes n u1, .int c u2, .int h u3, .int e u4] } : Obj)) ∈ news) (hu : A.units < cLine) (hq : Q (.bool false) s) :
    wpAny (model prog w) A (compareOp .NotEq (.ref a) (.ref d)) Q E s := by
  have h1 : s.heap.IsTuple a #[.bytes n t1, .int c t2, .int h t3, .int e t4] := ⟨_, (N _ ha).1, rfl, _, rfl⟩
  have h2 : s.heap.IsTuple d #[.bytes n u1, .int c u2, .int h u3, .int e u4] := ⟨_, (N _ hd).1, rfl, _, rfl⟩
  refine RcNeAt.tuples h1 h2 hu (e := fun _ => true) ?_ prog w E Q hq
  intro j j1 j2
  match j, j1, j2 with
  | 0, _, _ => have := eqAt_bytes (A := A.in1) (s := s) n n t1 u1; rwa [beq_self_eq_true] at this
  | 1, _, _ => have := EqAt.int_int (A := A.in1) (s := s) c t2 c u2; rwa [beq_self_eq_true] at this
  | 2, _, _ => have := EqAt.int_int (A := A.in1) (s := s) h t3 h u3; rwa [beq_self_eq_true] at this
  | 3, _, _ => have := EqAt.int_int (A := A.in1) (s := s) e t4 e u4; rwa [beq_self_eq_true] at this
  | n + 4, h, _ => exact absurd h (by simp)
theorem ne_none {prog : Program} {w : World} {E : Value → Shared → Prop} {Q : Value → Shared → Prop} (hq : Q (.bool false) s) : wpAny (model prog w) A (compareOp .NotEq .none .none) Q E s := RcNeAt.none_none prog w E Q hq
end
theorem pick_upto (vs : List Value) {y : Int} (h : 0 ≤ y) : (slicePick vs.toArray none (some y) none).toList = vs.take y.toNat := by
  have e : sliceBounds none (some y) none vs.toArray.size = (((0 : Nat) : Int), ((min y.toNat vs.toArray.size : Nat) : Int), 1) := by
    simp only [sliceBounds, Option.getD_none, show (1 : Int) > 0 by decide, if_true, if_neg (show ¬ (y < 0) by omega)]
    congr 1
    congr 1
    omega
  rw [kmk_pick_nat _ e]
  show (vs.drop 0).take (min y.toNat vs.toArray.size - 0) = _
  rw [List.drop_zero, Nat.sub_zero, List.size_toArray, kmk_take_min]
theorem pick_from (vs : List Value) {x : Int} (h : 0 ≤ x) : (slicePick vs.toArray (some x) none none).toList = vs.drop x.toNat := by
  have e : sliceBounds (some x) none none vs.toArray.size = (((min x.toNat vs.toArray.size : Nat) : Int), ((vs.toArray.size : Nat) : Int), 1) := by
    simp only [sliceBounds, Option.getD_none, show (1 : Int) > 0 by decide, if_true, if_neg (show ¬ (x < 0) by omega)]
    congr 1
    omega
  rw [kmk_pick_nat _ e]
  show (vs.drop (min x.toNat vs.toArray.size)).take (vs.toArray.size - min x.toNat vs.toArray.size) = _
  rw [List.size_toArray, kmk_drop_min, List.take_of_length_le (by rw [List.length_drop]; omega)]
section
variable {prog : Program} {w : World} {A : Around} {E : Value → Shared → Prop} {s : Shared} {env : Env} {h₀ : Heap} {x : Str} {body : List Stmt} {Q : Flow → Shared → Prop}
/-- a loop over a range: what a turn stores is named, the rest of the frame stands -/
theorem loopR {r : Addr} {a₀ b₀ : Int} {t₀ u₀ v₀ : Tok} {n : Nat} {m₀ : Str → Option Value} {news : List (Addr × Obj)} (st : List Str) (J : Nat → List (Addr × Obj) → Prop) (n0 : List (Addr × Obj))
    (hh : A.handled = none) (hr : IsRange s.heap r a₀ b₀ 1 t₀ u₀ v₀) (hsmall : Builtin.Range.small a₀ b₀ 1 = true) (hsz : Builtin.Range.rangeSize a₀ b₀ 1 = (n : Int)) (F : Fr h₀ env.locals s.heap m₀) (N : News h₀ env.locals s.heap news) (hn : ∀ p ∈ n0, p ∈ news) (hj : J 0 n0)
    (turn : ∀ i k t (u : Str → Option Value) nx h tk own, i < n → OwnOff own (nx.map (·.1)) → J i nx → Fr h₀ env.locals h (fun y => if y = x then some (.int k t) else if st.contains y then u y else m₀ y) → News h₀ env.locals h (nx ++ own) →
      wpAny (model prog w) A (execs body env) (InvPostG h₀ env.locals (fun m' nx' => (∀ z, z ≠ x → st.contains z = false → m' z = m₀ z) ∧ J (i + 1) nx') own { s with heap := h, toks := tk } Q) E { s with heap := h, toks := tk })
    (done : ∀ (u : Str → Option Value) nx h tk, J n nx → Fr h₀ env.locals h (fun y => if y = x then u y else if st.contains y then u y else m₀ y) → News h₀ env.locals h nx → Q .next { s with heap := h, toks := tk }) :
    wpAny (model prog w) A (pyIter (.ref r)) (fun it s₂ => LoopAtV prog w A h₀ env x body Q E it s₂) E s := by
  refine wpAny_pyIter_range hr hsmall ?_
  have W : Walks prog w A s.heap.objs.size [s.heap.objs.size] [s.heap.objs.size] n (fun i v => i < n ∧ ∃ t, v = .int (a₀ + i * 1) t)
      (fun i h => IsRangeIter h s.heap.objs.size (a₀ + (i : Nat) * 1) ((n : Int) - (i : Nat)) 1) := (Walks.range hh _ a₀ 1 n).bound
  refine kdr_loop (fun i m nx => (∀ z, z ≠ x → st.contains z = false → m z = m₀ z) ∧ J i nx) W (fun _ h => h) (fun _ h => h) ?_ ?_ ?_ ?_ (by show IsRangeIter _ _ _ _ _; rw [hsz]; simpa using Heap.get?_push_size _ rfl) (F.push _) (fun p hp => ⟨Heap.get?_push_of_some _ (N p (hn p hp)).1, (N p (hn p hp)).2⟩) ⟨fun _ _ _ => rfl, hj⟩ ?_ ?_
  · intro i h hi b hb
    rw [List.mem_singleton.mp hb]
    exact ⟨_, hi⟩
  · intro hm
    exact absurd F.ns.lt ((List.mem_singleton.mp hm) ▸ Nat.lt_irrefl _)
  · intro b hb
    rw [List.mem_singleton.mp hb]
    exact next_is_new F
  · intro p hp hI
    exact absurd (Heap.lt_size (N p (hn p hp)).1) ((List.mem_singleton.mp hI) ▸ Nat.lt_irrefl _)
  · rintro i v m₁ nx h tk own hi ⟨_, t, rfl⟩ hoff ⟨hm, hJ⟩ F₁ N₁
    refine turn i (a₀ + (i : Int) * 1) t m₁ nx h tk own hi hoff hJ ?_ N₁
    have e : (fun y => if y = x then some (Value.int (a₀ + (i : Int) * 1) t) else m₁ y) = fun y => if y = x then some (Value.int (a₀ + (i : Int) * 1) t) else if st.contains y then m₁ y else m₀ y := by
      funext y
      by_cases h1 : y = x
      · simp [h1]
      · simp only [if_neg h1]
        by_cases h2 : st.contains y = true
        · rw [if_pos h2]
        · rw [if_neg h2]; exact hm y h1 (by simpa using h2)
    rw [← e]; exact F₁
  · rintro m₁ nx h tk ⟨hm, hJ⟩ F₁ N₁
    refine done m₁ nx h tk hJ ?_ N₁
    have e : m₁ = fun y => if y = x then m₁ y else if st.contains y then m₁ y else m₀ y := by
      funext y
      by_cases h1 : y = x
      · simp [h1]
      · simp only [if_neg h1]
        by_cases h2 : st.contains y = true
        · rw [if_pos h2]
        · rw [if_neg h2]; exact hm y h1 (by simpa using h2)
    rw [← e]; exact F₁
end
section
variable {prog : Program} {w : World} {A : Around} {E : Value → Shared → Prop} {s₁ : Shared} {h₀ : Heap} {L : Addr} {m : Str → Option Value} {news : List (Addr × Obj)}
/-- a heap that keeps another's objects (a structure: a bare ∀ in the context is unified with every Frag.In) -/
structure KeepsAll (h₀ h : Heap) : Prop where
  keep : ∀ b o, h₀.get? b = some o → h.get? b = some o
theorem ords_are {F : Value → Value → Prop} (hF : ∀ c u r, F (.str ⟨#[c]⟩ u) r → ∃ t, r = .int (c : Int) t) : ∀ {y : List Nat} {vs ys : List Value}, (∀ (j : Nat) (v : Value), vs[j]? = some v → ∃ c u, y[j]? = some c ∧ v = .str ⟨#[c]⟩ u) → vs.length = y.length → Paired F vs ys → IntsAre ys (y.map fun (c : Nat) => (c : Int))
  | [], [], ys, _, _, p => by cases p; exact .nil
  | [], _ :: _, ys, _, hl, _ => by simp at hl
  | _ :: _, [], ys, _, hl, _ => by simp at hl
  | c :: y, v :: vs, ys, hP, hl, p => by
    cases p with
    | cons hr hp =>
      obtain ⟨c', u, e1, e2⟩ := hP 0 v rfl
      cases e1
      subst e2
      obtain ⟨t, rfl⟩ := hF _ _ _ hr
      exact .cons _ _ (ords_are hF (fun j v hv => hP (j + 1) v hv) (by simpa using hl) hp)
theorem srcC_ords {env : Env} {elt : Expr} {x : Str} {scope : Scope} {Q : Value → Shared → Prop} {y : Str} {t : Tok}
    (hh : A.handled = none) (F : Fr h₀ L s₁.heap m) (N : News h₀ L s₁.heap news)
    (g2 : ∀ C (c : Nat) (u : Tok) s₂ m₂ E', s₂.heap.Ns (compEnv scope C env).locals m₂ → m₂ x = some (.str ⟨#[c]⟩ u) → KeepsAll h₀ s₂.heap → wpAny (model prog w) A (eval elt (compEnv scope C env)) (fun r s₃ => (∃ t, r = .int (c : Int) t) ∧ Keeps s₂ s₃) E' s₂)
    (g3 : ∀ D (ys : List Value) h' tk, Fr h₀ L h' m → News h₀ L h' news → h₀.get? D = none → h'.IsList D ys.toArray → NewPlain h' news D ys.toArray → IntsAre ys (y.cps.toList.map fun (c : Nat) => (c : Int)) → Q (.ref D) { s₁ with heap := h', toks := tk }) (hsz : y.length ≤ sizeLine) :
    wpAny (model prog w) A (pyIter (.str y t)) (CompPost prog w A env scope x [] elt Q) E s₁ := by
  unfold CompPost
  refine wpAny_pyIter_str fun o St W hst => ?_
  have up : ∀ (h' : Heap), (∀ b o', b ∉ [s₁.heap.objs.size] → (s₁.heap.push o).get? b = some o' → h'.get? b = some o') → ∀ b o', s₁.heap.get? b = some o' → h'.get? b = some o' :=
    fun h' hk b o' e => hk b o' (old_not_new e) (Heap.get?_push_of_some _ e)
  refine ⟨fun _ => true, fun v r => ∀ c u, v = .str ⟨#[c]⟩ u → ∃ t, r = .int (c : Int) t, s₁.heap.objs.size, [s₁.heap.objs.size], [s₁.heap.objs.size], y.cps.size, SignAt y, St, rfl, W A hh, hsz, hst, ?_, ⟨?_, ?_⟩, ?_⟩
  · intro b hb
    show b < (s₁.heap.push o).objs.size
    rw [Heap.size_push, List.mem_singleton.mp hb]
    exact Nat.lt_succ_self _
  · intro C i v s₃ m₃ E' hP hn hm _ htk
    exact wpAny_pure ⟨rfl, _, _, rfl, fun _ _ e => e⟩
  · intro C i v s₃ m₃ E' hP hp hn hm hkp htk
    obtain ⟨c, u, _, rfl⟩ := hP
    refine wpAny_mono (g2 C c u s₃ m₃ E' hn hm ⟨fun b o e => up s₃.heap hkp b o (F.keep _ _ e)⟩) (fun r s₄ h₄ => ⟨?_, h₄.2⟩) fun _ _ e => e
    intro c' u' e
    cases e
    exact h₄.1
  · intro D h' tk ys vs hnew hlD hplD hlen hP hF hk
    have hfil : vs.filter (fun _ => true) = vs := List.filter_eq_self.mpr fun _ _ => rfl
    rw [hfil] at hF
    refine g3 D ys.toList h' tk (F.keeps (up h' hk)) (N.grown (up h' hk)) ?_ (by rw [Array.toArray_toList]; exact hlD) ⟨by rw [Array.toArray_toList]; exact hplD, fun p hp e => by rw [← e, Heap.get?_push_of_some _ (N p hp).1] at hnew; cases hnew⟩
      (ords_are (fun c u r h => h c u rfl) (fun j v hv => ?_) (by rw [hlen]; simp) hF)
    · cases e : h₀.get? D with
      | none => rfl
      | some o' => rw [Heap.get?_push_of_some _ (F.keep _ _ e)] at hnew; cases hnew
    · obtain ⟨c, u, hc, e⟩ := hP j v hv
      exact ⟨c, u, by simpa using hc, e⟩
end
end
end Mine
namespace Mine
section
variable {prog : Program} {w : World} {A : Around} {E : Value → Shared → Prop} {s : Shared} {h₀ : Heap} {L d : Addr} {news : List (Addr × Obj)} {o : Obj} {kvs : List (Int × Value)} {i : Int} {t : Tok}
theorem dict_of (N : News h₀ L s.heap news) (hm : (d, o) ∈ news) (hd : Obj.IsDictOf (intKind prog w) o kvs) : s.heap.DictOf (intKind prog w) d kvs := Heap.dictOf_iff.mpr ⟨o, (N _ hm).1, hd⟩
theorem dget {Q : Value → Shared → Prop} (N : News h₀ L s.heap news) (hm : (d, o) ∈ news) (hd : Obj.IsDictOf (intKind prog w) o kvs) (lo : (d == sysModules) = false) (h : Q ((valueAt kvs i).getD .none) { s with toks := s.toks + 1 }) :
    wpAny (model prog w) A (call (.builtin "dict.get") [.ref d, .int i t]) Q E s :=
  call_meetsIn PySem.F.slot_dict_get (dict_of N hm hd).typeIs PySem.F.entry_dict_get (PySem.F.args_dict_get_2 _ _) (meets_dict_get (intKind prog w) d (intKind_is prog w i t) lo) ⟨_, (dict_of N hm hd).mapOf, h⟩
theorem din {Q : Value → Shared → Prop} (N : News h₀ L s.heap news) (hm : (d, o) ∈ news) (hd : Obj.IsDictOf (intKind prog w) o kvs) (lo : (d == sysModules) = false) (h : Q (.bool (valueAt kvs i).isSome) { s with toks := s.toks + 1 }) :
    wpAny (model prog w) A (compareOp .In (.int i t) (.ref d)) Q E s := wpAny_in_of (intKind_is prog w i t) lo (dict_of N hm hd).mapOf h
theorem ditem {value slice : PySem.Expr} {v : Value} {Q : Value → Shared → Prop} (N : News h₀ L s.heap news) (hm : (d, o) ∈ news) (hd : Obj.IsDictOf (intKind prog w) o kvs) (hv : valueAt kvs i = some v) (h : Q v { s with toks := s.toks + 1 })
    (hs : subscripted slice false (.ref d) (.int i t) = operate [.ref d, .int i t] (getItem (.ref d) (.int i t)) := by with_unfolding_all rfl) : wpAny (model prog w) A (subscriptTail value slice (.ref d) (.int i t)) Q E s :=
  tail_any (dict_of N hm hd).typeIs PySem.F.slot_dict_getitem.lookup (wpAny_getItem_of (intKind_is prog w i t) (dict_of N hm hd).mapOf hv h) hs
end
end Mine
namespace Mine
section
open PySem.Spec PySem.Calls
section
variable {α : Type} [DecidableEq α]
/-- the pieces between the signs x, the first begun as cur -/
noncomputable def splitAux (x : α) : List α → List α → List (List α)
  | cur, [] => [cur]
  | cur, c :: r => if c = x then cur :: splitAux x [] r else splitAux x (cur ++ [c]) r
noncomputable def posOf (x : α) : Nat → List α → List Nat
  | _, [] => []
  | i, c :: r => if c = x then i :: posOf x (i + 1) r else posOf x (i + 1) r
theorem posOf_len (x : α) : ∀ (l : List α) (i : Nat), (posOf x i l).length ≤ l.length
  | [], _ => Nat.le_refl _
  | c :: r, i => by
    unfold posOf
    have := posOf_len x r (i + 1)
    split <;> simp only [List.length_cons] <;> omega
theorem splitAux_free {x : α} : ∀ (l cur : List α), x ∉ l → splitAux x cur l = [cur ++ l]
  | [], cur, _ => by simp [splitAux]
  | c :: r, cur, h => by
    have h1 : c ≠ x := fun e => h (by simp [e])
    have h2 : x ∉ r := fun e => h (by simp [e])
    rw [splitAux, if_neg h1, splitAux_free r _ h2]; simp
theorem splitAux_cons {x : α} : ∀ (w cur r : List α), x ∉ w → splitAux x cur (w ++ x :: r) = (cur ++ w) :: splitAux x [] r
  | [], cur, r, _ => by simp [splitAux]
  | c :: w, cur, r, h => by
    have h1 : c ≠ x := fun e => h (by simp [e])
    have h2 : x ∉ w := fun e => h (by simp [e])
    rw [List.cons_append, splitAux, if_neg h1, splitAux_cons w _ r h2]; simp
theorem splitAux_size {x : α} : ∀ (l cur : List α), (∀ p ∈ splitAux x cur l, p.length ≤ cur.length + l.length) ∧ (splitAux x cur l).length ≤ l.length + 1
  | [], cur => by simp [splitAux]
  | c :: r, cur => by
    unfold splitAux
    split
    · have ih := splitAux_size (x := x) r []
      refine ⟨fun p hp => ?_, by simp only [List.length_cons]; omega⟩
      rcases List.mem_cons.mp hp with rfl | hp
      · omega
      · have := ih.1 p hp; simp only [List.length_cons, List.length_nil] at *; omega
    · have ih := splitAux_size (x := x) r (cur ++ [c])
      refine ⟨fun p hp => ?_, by simp only [List.length_cons]; omega⟩
      have := ih.1 p hp; simp only [List.length_append, List.length_cons, List.length_nil] at *; omega
end
noncomputable def bcuts (b c : Array UInt8) : List Nat := (Builtin.Bytes.occurrences b c 0 b.size).take (b.size + 1)
noncomputable def bparts (b c : Array UInt8) : List (Array UInt8) := if (bcuts b c).isEmpty = true then [b] else Builtin.Bytes.between b c.size (bcuts b c)
theorem one_at (b : Array UInt8) (x : UInt8) (i : Nat) (h : i < b.size) : (b.extract i (i + (#[x] : Array UInt8).size) == #[x]) = decide (b[i] = x) := by
  have e : b.extract i (i + 1) = #[b[i]] := by
    apply Array.ext
    · simp; omega
    · intro j h1 h2
      have : j = 0 := by simp at h2; omega
      subst this
      simp
  show (b.extract i (i + 1) == #[x]) = _
  rw [e]
  by_cases h' : b[i] = x <;> simp [h']
theorem occ_from (b : Array UInt8) (x : UInt8) : ∀ (k i : Nat) (a : List Nat) (last : Nat), i + k = b.size → last ≤ i →
    ((List.range' i k).foldl (fun (acc : List Nat × Nat) (i : Nat) => if (decide (i ≥ acc.2) && b.extract i (i + (#[x] : Array UInt8).size) == #[x]) = true then (i :: acc.1, i + (#[x] : Array UInt8).size) else acc) (a, last)).1.reverse = a.reverse ++ posOf x i (b.toList.drop i) := by
  intro k
  induction k with
  | zero =>
    intro i a last hi _
    have : b.toList.drop i = [] := List.drop_eq_nil_of_le (by simp; omega)
    simp [this, posOf]
  | succ k ih =>
    intro i a last hi hl
    have hlt : i < b.size := by omega
    have hd : b.toList.drop i = b[i] :: b.toList.drop (i + 1) := by
      rw [List.drop_eq_getElem_cons (by simpa using hlt)]
      simp
    rw [List.range'_succ, List.foldl_cons, hd, posOf]
    rw [one_at b x i hlt]
    by_cases hx : b[i] = x
    · have c : (decide (i ≥ (a, last).2) && decide (b[i] = x)) = true := by simp [hx]; exact hl
      rw [if_pos c, if_pos hx]
      have := ih (i + 1) (i :: a) (i + 1) (by omega) (Nat.le_refl _)
      rw [show i + (#[x] : Array UInt8).size = i + 1 from rfl, this]; simp
    · have c : ¬ (decide (i ≥ (a, last).2) && decide (b[i] = x)) = true := by simp [hx]
      rw [if_neg c, if_neg hx]
      exact ih (i + 1) a last (by omega) (by omega)
theorem occ_eq (b : Array UInt8) (x : UInt8) : Builtin.Bytes.occurrences b #[x] 0 b.size = posOf x 0 b.toList := by
  unfold Builtin.Bytes.occurrences
  have e : (List.range (b.size + 1 - (0 + (#[x] : Array UInt8).size))).map (· + 0) = List.range' 0 b.size := by
    rw [show b.size + 1 - (0 + (#[x] : Array UInt8).size) = b.size from by simp, List.range_eq_range']; simp
  rw [e]
  have := occ_from b x b.size 0 [] 0 (by omega) (Nat.le_refl _)
  simpa using this
theorem cuts_eq (b : Array UInt8) (x : UInt8) : bcuts b #[x] = posOf x 0 b.toList := by
  unfold bcuts
  rw [occ_eq]
  exact List.take_of_length_le (Nat.le_trans (posOf_len x b.toList 0) (by simp))
theorem between_from (b : Array UInt8) (x : UInt8) : ∀ (l pre : List UInt8) (last : Nat) (parts : Array (Array UInt8)), b.toList = pre ++ l → last ≤ pre.length →
    (((posOf x pre.length l).foldl (fun (q : Array (Array UInt8) × Nat) p => (q.1.push (b.extract q.2 p), p + 1)) (parts, last)).1.push
      (b.extract ((posOf x pre.length l).foldl (fun (q : Array (Array UInt8) × Nat) p => (q.1.push (b.extract q.2 p), p + 1)) (parts, last)).2 b.size)).toList
      = parts.toList ++ (splitAux x (pre.drop last) l).map List.toArray := by
  intro l
  induction l with
  | nil =>
    intro pre last parts h hl
    simp only [posOf, List.foldl_nil, Array.toList_push, splitAux, List.map_cons, List.map_nil]
    congr 2
    apply Array.toList_inj.mp
    simp [h]
    have : b.size = pre.length := by have := congrArg List.length h; simpa using this
    rw [this, List.take_of_length_le (by simp)]
  | cons c r ih =>
    intro pre last parts h hl
    have h' : b.toList = (pre ++ [c]) ++ r := by rw [h]; simp
    have hlen : (pre ++ [c]).length = pre.length + 1 := by simp
    unfold posOf splitAux
    by_cases hx : c = x
    · rw [if_pos hx, if_pos hx]
      simp only [List.foldl_cons]
      have := ih (pre ++ [c]) (pre.length + 1) (parts.push (b.extract last pre.length)) h' (by simp)
      rw [hlen] at this
      rw [this]
      have hd : (pre ++ [c]).drop (pre.length + 1) = [] := List.drop_eq_nil_of_le (by simp)
      rw [hd, Array.toList_push, List.map_cons, List.append_assoc]
      congr 1
      simp only [List.cons_append, List.nil_append]
      congr 1
      apply Array.toList_inj.mp
      simp only [Array.toList_extract, h, List.extract_eq_take_drop]
      rw [List.drop_append_of_le_length hl, List.take_append_of_le_length (by simp), List.take_of_length_le (by simp)]
    · rw [if_neg hx, if_neg hx]
      have := ih (pre ++ [c]) last parts h' (by simp; omega)
      rw [hlen] at this
      rw [this, List.drop_append_of_le_length hl]
theorem bparts_eq (b : Array UInt8) (x : UInt8) : bparts b #[x] = (splitAux x [] b.toList).map List.toArray := by
  unfold bparts
  rw [cuts_eq]
  by_cases h : (posOf x 0 b.toList).isEmpty = true
  · rw [if_pos h]
    have hx : ∀ (l : List UInt8) (i : Nat), posOf x i l = [] → x ∉ l := by
      intro l
      induction l with
      | nil => intro _ _; simp
      | cons c r ih =>
        intro i h
        unfold posOf at h
        split at h
        · cases h
        · rename_i hc
          have := ih _ h
          simp [this]; exact fun e => hc e.symm
    rw [splitAux_free _ _ (hx _ 0 (List.isEmpty_iff.mp h))]
    simp
  · rw [if_neg h]
    have := between_from b x b.toList [] 0 #[] (by simp) (Nat.le_refl _)
    simpa [Builtin.Bytes.between] using this
theorem bparts_size (b : Array UInt8) (x : UInt8) : (∀ p ∈ bparts b #[x], p.size ≤ b.size) ∧ (bparts b #[x]).length ≤ b.size + 1 := by
  rw [bparts_eq]
  have h := splitAux_size (x := x) b.toList []
  refine ⟨fun p hp => ?_, by simpa using h.2⟩
  obtain ⟨q, hq, rfl⟩ := List.mem_map.mp hp
  have := h.1 q hq
  simpa using this
end
end Mine
namespace Mine
section
open PySem.Spec PySem.Calls
noncomputable def bvals (l : List (Array UInt8 × Tok)) : List Value := l.map fun p => .bytes p.1 p.2
noncomputable def bfrom : Tok → List (Array UInt8) → List (Array UInt8 × Tok)
  | _, [] => []
  | tk, b :: r => (b, tk) :: bfrom (tk + 1) r
theorem bfrom_fst : ∀ (tk : Tok) (l : List (Array UInt8)), (bfrom tk l).map (·.1) = l
  | _, [] => rfl
  | tk, b :: r => by rw [bfrom, List.map_cons, bfrom_fst]
theorem bfrom_len : ∀ (tk : Tok) (l : List (Array UInt8)), (bfrom tk l).length = l.length
  | _, [] => rfl
  | tk, b :: r => by rw [bfrom, List.length_cons, List.length_cons, bfrom_len]
theorem wp_mapBytes {M : Model} {A : Around} {E : Value → Shared → Prop} : ∀ (xs : List (Array UInt8)) (s : Shared) (Q : List Value → Shared → Prop), (∀ x ∈ xs, x.size ≤ sizeLine) → Q (bvals (bfrom s.toks xs)) { s with toks := s.toks + xs.length } → wpAny M A (xs.mapM mkBytes) Q E s
  | [], s, Q, _, h => by rw [List.mapM_nil]; exact wpAny_pure h
  | x :: r, s, Q, hx, h => by
    rw [List.mapM_cons]
    refine wpAny_bind (wpAny_mkBytes (wpAny_bind (wp_mapBytes r _ _ (fun y hy => hx y (List.mem_cons_of_mem _ hy)) (wpAny_pure ?_))) (hx x (List.mem_cons_self ..)))
    have e : s.toks + 1 + r.length = s.toks + (x :: r).length := by simp [Nat.add_comm, Nat.add_left_comm]
    show Q (.bytes x s.toks :: bvals (bfrom (s.toks + 1) r)) { s with toks := s.toks + 1 + r.length }
    rw [e]; exact h
theorem bslot : Slot "bytes" "split" "bytes.split" :=
  .of (owner := "bytes") (n := "split") (by rw [typeLookup_type, builtinLookup_eq_fast]; kernel_rfl) (by decide +kernel) (by decide +kernel) (by decide +kernel)
    (by first | exact .inl (by decide +kernel) | exact .inr (by decide +kernel)) (by rw [isSubtype_type]; kernel_rfl)
theorem btype : typeOf (.builtin "bytes.split") = pure (.type "method_descriptor") := by show builtinType _ = _; rw [builtinType_eq_fast]; kernel_rfl
theorem bentry : entryFor table "bytes.split" = some Builtin.«bytes.split» := entryFor_of_tree (by kernel_rfl)
theorem bargs (a b : Value) : argsOk "bytes.split" ⟨[a, b], []⟩ := by unfold argsOk; kernel_rfl
theorem bbind (b : Value) : Builtin.Bytes.bindOptional "bytes.split" "split" ["sep", "maxsplit"] [b] [] = pure [some b, none] := by kernel_rfl
theorem bmeets (b : Array UInt8) (x : UInt8) (t u : Tok) (hb : b.size ≤ 1000) : Meets (Builtin.«bytes.split» ⟨[.bytes b t, .bytes #[x] u], []⟩) (fun _ R s => ∀ (l : List (Array UInt8 × Tok)) k, l.map (·.1) = bparts b #[x] → R (.ok (.ret (.ref s.heap.objs.size))) { s with toks := k, heap := s.heap.push { cls := .type "list", data := .seq (bvals l).toArray } }) := by
  refine .of_wp fun prog w A R s h => ?_
  show wpAny _ _ (Builtin.Bytes.bindOptional "bytes.split" "split" ["sep", "maxsplit"] [.bytes #[x] u] [] >>= fun r => _) _ _ s
  refine wpAny_bind (wpAny_of_eq (bbind _) ?_)
  dsimp only
  refine wpAny_bind (wpAny_pure ?_)
  refine wpAny_bind (wpAny_of_eq (a := b) (by rfl) ?_)
  refine wpAny_bind (wpAny_of_eq KBd.like_eq ?_)
  rw [if_neg (by exact Bool.false_ne_true)]
  show wpAny _ _ (if (bcuts b #[x]).isEmpty = true then _ else _) _ _ s
  have hs := bparts_size b x
  by_cases hq : (bcuts b #[x]).isEmpty = true
  · rw [if_pos hq]
    refine wpAny_bind (wpAny_rule ?_)
    refine wpAny_bind (wpAny_bind (wpAny_typeOf (typeIs_bytes s b t) ?_))
    refine wpAny_pure ?_
    refine wpAny_bind (wpAny_newList (wpAny_pure ⟨_, rfl, h [(b, t)] s.toks ?_⟩) (by show 1 ≤ sizeLine; decide))
    simp [bparts, hq]
  · rw [if_neg hq]
    have hs' : (∀ p ∈ Builtin.Bytes.between b (#[x] : Array UInt8).size (bcuts b #[x]), p.size ≤ b.size) ∧ (Builtin.Bytes.between b (#[x] : Array UInt8).size (bcuts b #[x])).length ≤ b.size + 1 := by
      have e : bparts b #[x] = Builtin.Bytes.between b (#[x] : Array UInt8).size (bcuts b #[x]) := by unfold bparts; rw [if_neg hq]
      rw [← e]; exact hs
    refine wpAny_bind (wp_mapBytes _ _ _ (fun p hp => ?_) (wpAny_bind (wpAny_newList (wpAny_pure ⟨_, rfl, h (bfrom s.toks (Builtin.Bytes.between b (#[x] : Array UInt8).size (bcuts b #[x]))) _ ?_⟩) ?_)))
    · have := hs'.1 p hp
      rw [sizeLine_eq]; omega
    · rw [bfrom_fst]; unfold bparts; rw [if_neg hq]
    · show (bvals (bfrom s.toks (Builtin.Bytes.between b (#[x] : Array UInt8).size (bcuts b #[x])))).length ≤ sizeLine
      unfold bvals
      rw [List.length_map, bfrom_len, sizeLine_eq]
      have := hs'.2
      omega
section
variable {prog : Program} {w : World} {A : Around} {E : Value → Shared → Prop} {s : Shared} {h₀ : Heap} {L : Addr} {m : Str → Option Value} {news : List (Addr × Obj)} {Q : Value → Shared → Prop}
theorem bmethod {M : Model} {b : Array UInt8} {t : Tok} {pl : Sem Bool} {Q : Value × List Value → Shared → Prop} (h : Q (.builtin "bytes.split", [.bytes b t]) s) : wpAny M A (getMethod (.bytes b t) "split" pl) Q E s := by
  with_reducible exact KBd.method_of (.bytes b t) (typeIs_bytes _ _ _) bslot btype KBd.noRef h
theorem bsplit {b : Array UInt8} {x : UInt8} {t u : Tok} (F : Fr h₀ L s.heap m) (N : News h₀ L s.heap news) (hb : b.size ≤ 1000)
    (h : ∀ D (l : List (Array UInt8 × Tok)) h' k, l.map (·.1) = bparts b #[x] → Fr h₀ L h' m → News h₀ L h' ((D, listOf (bvals l).toArray 0) :: news) → (∀ p ∈ news, p.1 < D) → Q (.ref D) { s with heap := h', toks := k }) :
    wpAny (model prog w) A (call (.builtin "bytes.split") [.bytes b t, .bytes #[x] u]) Q E s :=
  call_meets bslot (typeIs_bytes _ _ _) bentry (bargs _ _) (bmeets b x t u hb) fun l k e => h _ l _ k e (F.pushS _) (N.push F _) fun p hp => Heap.lt_size (N p hp).1
end
end
end Mine
namespace Mine
section
open PySem.Calls KBw
section
variable {prog : Program} {w : World} {A : Around} {E : Value → Shared → Prop} {s : Shared} {b : Array UInt8} {t : Tok}
theorem nextB_item {it : Addr} {i : Nat} {c : UInt8} {Q : Value → Shared → Prop} (hit : IsBytesIter s.heap it b t i) (hx : b[i]? = some c)
    (hQ : ∀ h', IsBytesIter h' it b t (i + 1) → Heap.SameBut it s.heap h' → Q (.int (c.toNat : Int) s.toks) { s with heap := h', toks := s.toks + 1 }) : wpAny (model prog w) A (Builtin.SmallTypes.nextOf (.ref it)) Q E s := by
  obtain ⟨o, ho, hc, hd⟩ := id hit
  unfold Builtin.SmallTypes.nextOf
  refine wpAny_bind (wpAny_callSpecial?_slot (name := PySem.Str.ofString "__next__") (iter_typeIs hit) slot_next (wpAny_call_entry slot_next (iter_typeIs hit) entry_next ?_ (args_next _)))
  show wpAny _ _ (field (.ref it) 0 >>= _) _ _ s
  refine wpAny_bind (wpAny_field ho hd (x := .bytes b t) rfl ?_)
  show wpAny _ _ (if (Value.bytes b t == Value.none) = true then _ else _) _ _ s
  rw [if_neg (show ¬ ((Value.bytes b t == Value.none) = true) from Bool.false_ne_true)]
  show wpAny _ _ (field (.ref it) 1 >>= _) _ _ s
  refine wpAny_bind (wpAny_field ho hd (x := .int i 0) rfl ?_)
  refine wpAny_bind (wpAny_of_eq (a := b) rfl ?_)
  simp only [Int.toNat_natCast, hx]
  refine wpAny_bind (wpAny_setField ho hd (by simp) (wpAny_bind (wpAny_mkInt (wpAny_pure ⟨_, rfl, wpAny_pure (hQ _ ?_ (Heap.SameBut.update ..))⟩))))
  exact ⟨_, Heap.get?_update_self _ ho (Obj.isFreed_of_fields (Obj.data_mapFields hd _)), (Obj.cls_mapFields ..).trans hc, by
    rw [Obj.data_mapFields hd]; simp [rawInt]⟩
theorem nextB_end {it : Addr} {i : Nat} {Q : Value → Shared → Prop} (hh : A.handled = none) (hit : IsBytesIter s.heap it b t i) (hx : b[i]? = none)
    (hE : ∀ h' e, Heap.ExtBut it s.heap h' → (∃ o, h'.get? e = some o ∧ o.cls = .type "StopIteration") → E (.ref e) { s with heap := h' }) : wpAny (model prog w) A (Builtin.SmallTypes.nextOf (.ref it)) Q E s := by
  obtain ⟨o, ho, hc, hd⟩ := id hit
  unfold Builtin.SmallTypes.nextOf
  refine wpAny_bind (wpAny_callSpecial?_slot (name := PySem.Str.ofString "__next__") (iter_typeIs hit) slot_next (wpAny_call_entry slot_next (iter_typeIs hit) entry_next ?_ (args_next _)))
  show wpAny _ _ (field (.ref it) 0 >>= _) _ _ s
  refine wpAny_bind (wpAny_field ho hd (x := .bytes b t) rfl ?_)
  show wpAny _ _ (if (Value.bytes b t == Value.none) = true then _ else _) _ _ s
  rw [if_neg (show ¬ ((Value.bytes b t == Value.none) = true) from Bool.false_ne_true)]
  show wpAny _ _ (field (.ref it) 1 >>= _) _ _ s
  refine wpAny_bind (wpAny_field ho hd (x := .int i 0) rfl ?_)
  refine wpAny_bind (wpAny_of_eq (a := b) rfl ?_)
  simp only [Int.toNat_natCast, hx]
  refine wpAny_bind (wpAny_rule (wpAny_bind (wpAny_setField ho hd (by simp) ?_)))
  show wpAny _ _ (newExc (.type "StopIteration") [] >>= _) _ _ _
  refine wpAny_bind ?_
  simp only [newExc, newTuple]
  refine wpAny_bind (wpAny_newObj_type ?_ (by size_fits))
  refine wpAny_bind (m := firstArgMember _ _) (wpAny_of_eq (a := Value.none) (by first | rfl | (simp only [firstArgMember]; rfl)) ?_)
  refine wpAny_newObj_type ?_ (by size_fits)
  simp only [raiseNew]
  refine wpAny_bind (wpAny_handled ?_)
  first | rw [show A.in1.handled = none from hh] | rw [hh]
  refine wpAny_bind (wpAny_pure (wpAny_throw ?_))
  exact hE _ _ (((Heap.SameBut.update ..).extBut.push _).push _) ⟨_, Heap.get?_push_size _ rfl, rfl⟩
theorem iterB_at {it e : Addr} {i : Nat} {h h' : Heap} (y : IsBytesIter h it b t i) (k : Heap.SameBut e h h') (hne : it ≠ e) : IsBytesIter h' it b t i := by
  obtain ⟨o, ho, r⟩ := y
  exact ⟨o, k.extBut it o hne ho, r⟩
theorem enumB_next {e it : Addr} {i : Nat} {c : UInt8} {old : Value} {Q : Value → Shared → Prop}
    (he : IsEnum s.heap e it i old) (hit : IsBytesIter s.heap it b t i) (hx : b[i]? = some c) (hne : e ≠ it)
    (hQ : ∀ h' x, x = Value.int (c.toNat : Int) s.toks → IsEnumOut h' e it ((i : Int) + 1) x s.heap.objs.size → IsBytesIter h' it b t (i + 1) →
      h'.get? s.heap.objs.size = some { cls := .type "tuple", data := .seq #[.int i (s.toks + 1), x] } → h'.objs.size = s.heap.objs.size + 1 →
      (∀ b o, b ≠ e → b ≠ it → s.heap.get? b = some o → h'.get? b = some o) → Q (.ref s.heap.objs.size) { s with heap := h', toks := s.toks + 1 + 1 }) :
    wpAny (model prog w) A (Builtin.«enumerate.__next__» ⟨[.ref e], []⟩) (fun fin s' => ∃ v, fin = .done (.ret v) ∧ Q v s') E s := by
  obtain ⟨hp, g, d, tk, os⟩ := s
  show wpAny _ _ (field (.ref e) 2 >>= _) _ _ _
  refine wpAny_bind (wpAny_field he rfl (x := .ref it) rfl ?_)
  refine wpAny_bind (nextB_item hit hx fun h₁ hit₁ hs₁ => ?_)
  generalize hX : Value.int (c.toNat : Int) (Shared.toks ⟨hp, g, d, tk, os⟩) = x
  replace hs₁ : Heap.SameBut it hp h₁ := hs₁
  have he₁ : IsEnum h₁ e it i old := (hs₁.2 e hne).trans he
  show wpAny _ _ (field (.ref e) 3 >>= _) _ _ ⟨h₁, g, d, tk + 1, os⟩
  refine wpAny_bind (wpAny_field he₁ rfl (x := rawInt i) rfl ?_)
  show wpAny _ _ (field (.ref e) 4 >>= _) _ _ ⟨h₁, g, d, tk + 1, os⟩
  refine wpAny_bind (wpAny_field he₁ rfl (x := .none) rfl ?_)
  show wpAny _ _ (mkInt i >>= _) _ _ ⟨h₁, g, d, tk + 1, os⟩
  refine wpAny_bind (wpAny_mkInt ?_)
  show wpAny _ _ (setField (.ref e) 3 (rawInt ((i : Int) + 1)) >>= _) _ _ ⟨h₁, g, d, tk + 1 + 1, os⟩
  refine wpAny_bind (wpAny_setField_rec he₁ (by simp) fun h₂ he₂ hs₂ => ?_)
  replace hs₂ : Heap.SameBut e h₁ h₂ := hs₂
  replace he₂ : IsEnum h₂ e it ((i : Int) + 1) old := he₂
  show wpAny _ _ (setField (.ref e) 4 .none >>= _) _ _ ⟨h₂, g, d, tk + 1 + 1, os⟩
  refine wpAny_bind (wpAny_setField_rec he₂ (by simp) fun h₃ he₃ hs₃ => ?_)
  replace hs₃ : Heap.SameBut e h₂ h₃ := hs₃
  replace he₃ : IsEnum h₃ e it ((i : Int) + 1) old := he₃
  show wpAny _ _ (newTuple [.int i (tk + 1), x] >>= _) _ _ ⟨h₃, g, d, tk + 1 + 1, os⟩
  refine wpAny_bind (wpAny_newTuple ?_)
  have he₄ : IsEnum (h₃.push { cls := .type "tuple", data := .seq #[.int i (tk + 1), x] }) e it ((i : Int) + 1) old := Heap.get?_push_of_some _ he₃
  generalize hh₄ : h₃.push { cls := .type "tuple", data := .seq #[.int i (tk + 1), x] } = h₄ at he₄
  have hsz : h₃.objs.size = hp.objs.size := by rw [hs₃.1, hs₂.1, hs₁.1]
  have hel : e < hp.objs.size := Heap.lt_size he
  have ht₄ : h₄.get? hp.objs.size = some { cls := .type "tuple", data := .seq #[.int i (tk + 1), x] } := by rw [← hh₄, ← hsz]; exact Heap.get?_push_size _ rfl
  have hz₄ : h₄.objs.size = hp.objs.size + 1 := by rw [← hh₄, Heap.size_push, hsz]
  have hk₄ : ∀ b o, b ≠ e → b ≠ it → hp.get? b = some o → h₄.get? b = some o := fun b o hbe hbi hb => by
    rw [← hh₄]; exact Heap.get?_push_of_some _ (hs₃.extBut b o hbe (hs₂.extBut b o hbe (hs₁.extBut b o hbi hb)))
  have hit₄ : IsBytesIter h₄ it b t (i + 1) := by
    rw [← hh₄]; obtain ⟨o, ho, r⟩ := iterB_at (iterB_at hit₁ hs₂ (Ne.symm hne)) hs₃ (Ne.symm hne); exact ⟨o, Heap.get?_push_of_some _ ho, r⟩
  show wpAny _ _ (Builtin.SmallTypes.ownedTupleIsFree (.ref e) >>= _) _ _ ⟨h₄, g, d, tk + 1 + 1, os⟩
  rw [hsz]
  clear hh₄ he₃ hs₃ he₂ hs₂ he₁ hs₁ hit₁ hsz h₃ h₂ h₁
  refine wpAny_bind ?_
  · unfold Builtin.SmallTypes.ownedTupleIsFree
    refine wpAny_bind (wpAny_field he₄ rfl (x := .none) rfl (wpAny_pure ?_))
    simp only [if_true]
    refine wpAny_bind (wpAny_rule ?_)
    refine wpAny_bind (wpAny_field he₄ rfl (x := old) rfl ?_)
    refine wpAny_bind (wpAny_setField_rec he₄ (by simp) fun h₅ he₅ hs₅ => ?_)
    replace hs₅ : Heap.SameBut e h₄ h₅ := hs₅
    replace he₅ : IsEnum h₅ e it ((i : Int) + 1) x := he₅
    show wpAny _ _ (Builtin.SmallTypes.ownedTupleHandOut (.ref e) (.ref hp.objs.size) >>= _) _ _ ⟨h₅, g, d, tk + 1 + 1, os⟩
    refine wpAny_bind ?_
    · unfold Builtin.SmallTypes.ownedTupleHandOut
      refine wpAny_bind (wpAny_setField_rec he₅ (by simp) fun h₆ he₆ hs₆ => ?_)
      replace hs₆ : Heap.SameBut e h₅ h₆ := hs₆
      replace he₆ : IsEnumOut h₆ e it ((i : Int) + 1) x hp.objs.size := he₆
      refine wpAny_setField_rec he₆ (by simp) fun h₇ he₇ hs₇ => ?_
      replace hs₇ : Heap.SameBut e h₆ h₇ := hs₇
      replace he₇ : IsEnumOut h₇ e it ((i : Int) + 1) x hp.objs.size := he₇
      refine wpAny_bind (wpAny_letGo (wpAny_pure ⟨_, rfl, hQ h₇ x hX.symm he₇ ?_ ?_ ?_ ?_⟩))
      · exact iterB_at (iterB_at (iterB_at hit₄ hs₅ (Ne.symm hne)) hs₆ (Ne.symm hne)) hs₇ (Ne.symm hne)
      · exact hs₇.extBut _ _ (Nat.ne_of_gt hel) (hs₆.extBut _ _ (Nat.ne_of_gt hel) (hs₅.extBut _ _ (Nat.ne_of_gt hel) ht₄))
      · rw [hs₇.1, hs₆.1, hs₅.1, hz₄]
      · exact fun b o hbe hbi hb => hs₇.extBut b o hbe (hs₆.extBut b o hbe (hs₅.extBut b o hbe (hk₄ b o hbe hbi hb)))
theorem pyNextB_item {e it : Addr} {i : Nat} {c : UInt8} {old : Value} {Q : Option Value → Shared → Prop}
    (he : IsEnum s.heap e it i old) (hit : IsBytesIter s.heap it b t i) (hx : b[i]? = some c) (hne : e ≠ it)
    (hQ : ∀ h' x, x = Value.int (c.toNat : Int) s.toks → IsEnumOut h' e it ((i : Int) + 1) x s.heap.objs.size → IsBytesIter h' it b t (i + 1) →
      h'.get? s.heap.objs.size = some { cls := .type "tuple", data := .seq #[.int i (s.toks + 1), x] } → h'.objs.size = s.heap.objs.size + 1 →
      (∀ b o, b ≠ e → b ≠ it → s.heap.get? b = some o → h'.get? b = some o) → Q (some (.ref s.heap.objs.size)) { s with heap := h', toks := s.toks + 1 + 1 }) :
    wpAny (model prog w) A (pyNext (.ref e)) Q E s := by
  have hT : s.TypeIs (.ref e) "enumerate" := ⟨_, he, rfl⟩
  unfold pyNext
  exact wpAny_bind (wpAny_attempt (wpAny_callSpecial?_slot (name := PySem.Str.ofString "__next__") hT F.slot_enumerate_next
    (wpAny_call_entry F.slot_enumerate_next hT F.entry_enumerate_next
      (enumB_next he hit hx hne fun h' x hx a b c d k => wpAny_pure (hQ h' x hx a b c d k)) (F.args_enumerate_next_1 _))))
theorem pyNextB_end {e it : Addr} {i : Nat} {old : Value} {Q : Option Value → Shared → Prop} (hh : A.handled = none)
    (he : IsEnum s.heap e it i old) (hit : IsBytesIter s.heap it b t i) (hx : b[i]? = none)
    (hQ : ∀ h', Heap.ExtBut it s.heap h' → Q none { s with heap := h' }) : wpAny (model prog w) A (pyNext (.ref e)) Q E s := by
  have hT : s.TypeIs (.ref e) "enumerate" := ⟨_, he, rfl⟩
  unfold pyNext
  refine wpAny_bind (wpAny_attempt (wpAny_callSpecial?_slot (name := PySem.Str.ofString "__next__") hT F.slot_enumerate_next
    (wpAny_call_entry F.slot_enumerate_next hT F.entry_enumerate_next ?_ (F.args_enumerate_next_1 _))))
  show wpAny _ _ (field (.ref e) 2 >>= _) _ _ _
  refine wpAny_bind (wpAny_field he rfl (x := .ref it) rfl ?_)
  refine wpAny_bind (nextB_end hh hit hx fun h' x he' hx' => ?_)
  obtain ⟨o, ho, hc⟩ := hx'
  refine wpAny_bind (wpAny_isInstance (T := "StopIteration") (b := true) ⟨o, ho, hc⟩ isSubtype_stop ?_)
  exact wpAny_pure (hQ _ he')
end
theorem walksEnB {prog : Program} {w : World} {A : Around} (hh : A.handled = none) (e it : Addr) (hei : e ≠ it) (b : Array UInt8) (tb : Tok) :
    WalksT prog w A e [e, it] [e, it] b.size
      (fun i vals => ∃ t u c, b[i]? = some c ∧ vals = #[.int i t, .int (c.toNat : Int) u])
      (fun i h => (∃ old, IsEnum h e it i old) ∧ IsBytesIter h it b tb i)
      (fun i T h => (∃ x, IsEnumOut h e it ((i : Int) + 1) x T) ∧ IsBytesIter h it b tb (i + 1) ∧ T ≠ e ∧ T ≠ it) where
  sub := fun _ hb => hb
  frame := fun i h h' hst hk => by
    obtain ⟨⟨old, he⟩, o, ho, r⟩ := hst
    exact ⟨⟨old, hk e (by simp) _ he⟩, o, hk it (by simp) o ho, r⟩
  item := fun i s Q E hi hst hQ => by
    obtain ⟨⟨old, he⟩, hit⟩ := hst
    refine pyNextB_item he hit (c := b[i]) (by simp [hi]) hei fun h' x hx ho hit' hT hsz hk => ?_
    have helt : e < s.heap.objs.size := Heap.lt_size he
    have hilt : it < s.heap.objs.size := by obtain ⟨_, x, _⟩ := hit; exact Heap.lt_size x
    exact hQ s.heap.objs.size #[.int i (s.toks + 1), x] h' (s.toks + 1 + 1) ⟨s.toks + 1, s.toks, b[i], by simp [hi], by rw [hx]⟩ (Nat.le_refl _) ⟨_, hT, rfl, _, rfl⟩
      ⟨⟨_, ho⟩, hit', Nat.ne_of_gt helt, Nat.ne_of_gt hilt⟩
      fun b o hb x => hk b o (fun e' => hb (by simp [e'])) (fun e' => hb (by simp [e'])) x
  go := fun elts k pos i T s Q E hm hQ => by
    obtain ⟨⟨x, ho⟩, hit, hTe, hTi⟩ := hm
    refine wpAny_letOwnedTupleGo_enum ho fun h' he' hs' => hQ h' ⟨⟨x, by simpa using he'⟩, iterB_at hit hs' hei.symm⟩ fun b o hb y => ?_
    exact (hs'.2 b fun e' => hb (by simp [e'])).trans y
  apart := fun i T h hm hT => by
    obtain ⟨_, _, hTe, hTi⟩ := hm
    rcases List.mem_cons.mp hT with rfl | hT
    · exact hTe rfl
    · rcases List.mem_cons.mp hT with rfl | hT
      · exact hTi rfl
      · cases hT
  done := fun s Q E hst hQ => by
    obtain ⟨⟨old, he⟩, hit⟩ := hst
    exact pyNextB_end hh he hit (by simp) fun h' hx => hQ h' s.toks fun b o hb y => hx b o (fun e' => hb (by simp [e'])) y
  self := fun i s Q E hst hQ => by
    obtain ⟨⟨old, he⟩, _⟩ := hst
    exact wpAny_pyIter_enum he hQ
theorem newB (b : Array UInt8) (t : Tok) :
    Meets (Builtin.«enumerate.__new__» ⟨[.type "enumerate", .bytes b t], []⟩) (fun _ R s =>
      R (.ok (.ret (.ref (s.heap.push { cls := .type "bytes_iterator", data := .fields #[.bytes b t, .int 0 0] }).objs.size)))
        { s with heap := (s.heap.push { cls := .type "bytes_iterator", data := .fields #[.bytes b t, .int 0 0] }).push { cls := .type "enumerate", data := .fields #[.none, .bool false, .ref s.heap.objs.size, rawInt 0, .none, .none] } }) :=
  .of_wp fun prog w A R s h => by
    obtain ⟨hp, g, d, tk, os⟩ := s
    have hsub := sub_enumerate
    wp_walk
    refine wpAny_stack_any fun st => wpAny_pure ?_
    split
    · rename_i c _ _ _ _ _
      cases (c == Value.type "enumerate")
      · wp_walk using pyIter_bytes
        exact ⟨_, rfl, h⟩
      · wp_walk using pyIter_bytes
        exact ⟨_, rfl, h⟩
    · wp_walk using pyIter_bytes
      exact ⟨_, rfl, h⟩
theorem call_enB {prog : Program} {w : World} {A : Around} {E : Value → Shared → Prop} {s : Shared} {b : Array UInt8} {t : Tok} {Q : Value → Shared → Prop}
    (h : ∀ h', IsEnum h' (s.heap.objs.size + 1) s.heap.objs.size 0 .none → IsBytesIter h' s.heap.objs.size b t 0 → h'.objs.size = s.heap.objs.size + 2 →
      (∀ b o, s.heap.get? b = some o → h'.get? b = some o) → Q (.ref (s.heap.objs.size + 1)) { s with heap := h' }) :
    wpAny (model prog w) A (call (.type "enumerate") [.bytes b t]) Q E s := by
  refine callType_new F.called_enumerate (by decide) (F.typeCall_enumerate_1 _) (F.newCall_enumerate_1 _) (fun obj => F.args_object_init_2 obj _) F.entry_enumerate_new
    (newB b t) ?_
  have hz : (s.heap.push { cls := .type "bytes_iterator", data := .fields #[.bytes b t, .int 0 0] }).objs.size = s.heap.objs.size + 1 := Heap.size_push ..
  show _ ∧ _
  rw [hz]
  have he : IsEnum ((s.heap.push { cls := .type "bytes_iterator", data := .fields #[.bytes b t, .int 0 0] }).push
      { cls := .type "enumerate", data := .fields #[.none, .bool false, .ref s.heap.objs.size, rawInt 0, .none, .none] }) (s.heap.objs.size + 1) s.heap.objs.size 0 .none := by
    have := Heap.get?_push_size (s.heap.push { cls := .type "bytes_iterator", data := .fields #[.bytes b t, .int 0 0] })
      (o := { cls := .type "enumerate", data := .fields #[.none, .bool false, .ref s.heap.objs.size, rawInt 0, .none, .none] }) rfl
    rw [hz] at this; exact this
  refine ⟨⟨_, he, rfl⟩, h _ he ⟨_, Heap.get?_push_of_some _ (Heap.get?_push_size _ rfl), rfl, rfl⟩ (by rw [Heap.size_push, hz]) fun b o y => Heap.get?_push_of_some _ (Heap.get?_push_of_some _ y)⟩
end
end Mine
namespace Mine
section
open PySem.Calls KBw
noncomputable def enumB : Nat → List UInt8 → List Itm
  | _, [] => []
  | i, c :: r => .pairF (fun t => .int (i : Int) t) (PyData.int (c.toNat : Int)) :: enumB (i + 1) r
theorem enumB_length : ∀ (l : List UInt8) (a : Nat), (enumB a l).length = l.length
  | [], _ => rfl
  | _ :: r, a => congrArg (· + 1) (enumB_length r (a + 1))
theorem enumB_get : ∀ (l : List UInt8) (a i : Nat) {c : UInt8}, l[i]? = some c → (enumB a l)[i]? = some (.pairF (fun t => .int ((a + i : Nat) : Int) t) (PyData.int (c.toNat : Int)))
  | [], _, _, _, h => by simp at h
  | x :: r, a, 0, c, h => by
    have e : x = c := by simpa using h
    subst e
    rfl
  | x :: r, a, i + 1, c, h => by
    have h' : r[i]? = some c := by simpa using h
    have q := enumB_get r (a + 1) i h'
    have e : a + 1 + i = a + (i + 1) := by omega
    rw [e] at q
    simpa [enumB] using q
section
variable {prog : Program} {w : World} {A : Around} {E : Value → Shared → Prop} {s : Shared} {env : Env} {h₀ : Heap} {body : List Stmt} {Q : Flow → Shared → Prop}
theorem ktu_enB {elts : List PySem.Expr} {k : Nat} {pos : Pos} {b : Array UInt8} {tb : Tok} {xs : List Itm} {m₀ : Str → Option Value} {news : List (Addr × Obj)}
    (hh : A.handled = none) (F : Fr h₀ env.locals s.heap m₀) (N : News h₀ env.locals s.heap news) (hx : enumB 0 b.toList = xs)
    (rest₀ : ∀ I : Addr, (∀ p ∈ news, p.1 < I) → ItemsRest prog w A E h₀ env (.Tuple elts k pos) body Q s [(I + 1, "enumerate"), (I, "bytes_iterator")] [] xs m₀ news) :
    wpAny (model prog w) A (call (.type "enumerate") [.bytes b tb]) (fun xv s₁ => wpAny (model prog w) A (pyIter xv) (fun it s₂ => TurnsAt prog w A h₀ env (.Tuple elts k pos) body Q E it s₂) E s₁) E s := by
  subst hx
  have hLs : env.locals < s.heap.objs.size := F.ns.lt
  refine call_enB fun h' hE hI hsz hk => ?_
  refine wpAny_pyIter_enum hE ?_
  refine ktu_core (tk0 := s.toks) (keep := []) (KTurns.ofWalksU (walksEnB hh (s.heap.objs.size + 1) s.heap.objs.size (Nat.succ_ne_self _) b tb).toU) (by simp [enumB_length]) ?_ ?_ ?_ ?_ ?_ ?_ ?_ ?_ (F.keeps hk) (N.grown hk) trivial (rest₀ _ fun p hp => Heap.lt_size (N p hp).1)
  · rintro i v h ⟨T, vals, rfl, ⟨t, u, c, hc, rfl⟩, hT⟩
    refine ⟨_, enumB_get b.toList 0 i (c := c) (by simpa using hc), T, t, _, rfl, PyProof.V.Flat.int (c.toNat : Int) u, ?_⟩
    show IsTup h T #[.int ((0 + i : Nat) : Int) t, .int (c.toNat : Int) u]
    rw [Nat.zero_add]
    exact hT
  · rintro i h ⟨⟨old, he⟩, oi, hoi, hic, _⟩
    have he' : ∃ oe : Obj, h.get? (s.heap.objs.size + 1) = some oe ∧ oe.cls = .type "enumerate" := ⟨_, he, rfl⟩
    obtain ⟨oe, h1, h2⟩ := he'
    refine ⟨[(s.heap.objs.size + 1, oe), (s.heap.objs.size, oi)], ⟨⟨rfl, h2⟩, ⟨rfl, hic⟩, trivial⟩, fun p hp => ?_⟩
    rcases List.mem_cons.mp hp with rfl | hp
    · exact h1
    · rw [List.mem_singleton.mp hp]; exact hoi
  · intro b hb
    have hb' : b = s.heap.objs.size + 1 ∨ b = s.heap.objs.size := by simpa using hb
    rcases hb' with rfl | rfl
    · exact ⟨by simp, ktu_new F (Nat.le_add_right _ _)⟩
    · exact ⟨by simp, ktu_new F (Nat.le_refl _)⟩
  · intro b hb
    simpa using hb
  · intro b hb
    have hb' : b = s.heap.objs.size + 1 ∨ b = s.heap.objs.size := by simpa using hb
    rcases hb' with rfl | rfl
    · exact .inl (by simp)
    · exact .inl (by simp)
  · intro hI'
    have hb' : env.locals = s.heap.objs.size + 1 ∨ env.locals = s.heap.objs.size := by simpa using hI'
    rcases hb' with e | e
    · exact ktu_ne 1 hLs e
    · exact Nat.ne_of_lt hLs e
  · intro p hp hI'
    have hb' : p.1 = s.heap.objs.size + 1 ∨ p.1 = s.heap.objs.size := by simpa using hI'
    have hlp := Heap.lt_size (N p hp).1
    rcases hb' with e | e
    · exact ktu_ne 1 hlp e
    · exact Nat.ne_of_lt hlp e
  · exact ⟨⟨.none, hE⟩, hI⟩
end
end
end Mine
open Mine
local macro_rules | `(tactic| ktr_room) => `(tactic| ((try simp only [depth_under_make, depth_under_kw, depth_in1, depth_deeper, depth_caller]); (try dsimp only [ktrTop]); omega))
local macro_rules | `(tactic| ktr_units) => `(tactic| ((have hcL9 := cLine_is); (try simp only [units_in1, units_deeper, Around.mark_units, units_caller]); (try dsimp only [ktrTop]); omega))
local macro_rules | `(tactic| k_room) => `(tactic| ktr_room)
local macro_rules | `(tactic| k_units) => `(tactic| ktr_units)
local macro_rules | `(tactic| cell_enter) => `(tactic| (refine' code_def ?k1 ?k2 ?k3 ?k4 ?k5 ?kA ?kF ?kK ?k6 ?k7 ?k8 ?k9 ?kB ?_ ?c2 ?c3 ?c4 ?c5; (case kA => exact rfl); (case kF => exact rfl); (case kK => first | exact rfl | assumption); (case k1 => k_asm); (case k2 => k_asm); (case k3 => k_asm); (case k4 => k_asm); (case k5 => k_asm); (case k6 => k_is); (case k7 => k_is); (case k8 => ktr_room); (case k9 => first | (refine' binds_K ?q1 ?q2 ?q3 ?q4 ?q5 ?q6; (case q2 => exact rfl); (case q1 => (refine' Frag.In.keeps ?x1 ?x2; (case x2 => (refine' Fr.keep ?x3; (case x3 => with_reducible assumption))); (case x1 => with_reducible assumption))); (case q3 => k_is); (case q4 => exact rfl); (case q5 => exact rfl); (case q6 => exact rfl)) | exact BindsTo.of_eq rfl); (case c5 => decide); (case kB => exact locs rfl); (case c2 => exact rfl); (case c3 => exact rfl); (case c4 => exact rfl); k_whole; intro g' L' h' FG' F' N' B' X' T'; (try dsimp only); (try k_lift B'); (try k_fold)))
local macro_rules | `(tactic| ktr_enter) => `(tactic| (refine' code_def0 ?k1 ?k2 ?k3 ?k4 ?k5 ?kA ?kF ?kK ?k6 ?k7 ?k8 ?k9 ?kB ?_ ?c2 ?c3 ?c4 ?c5; (case kA => exact rfl); (case kF => exact rfl); (case kK => first | exact rfl | assumption); (case k1 => k_asm); (case k2 => k_asm); (case k3 => k_asm); (case k4 => k_asm); (case k5 => k_asm); (case k6 => k_is); (case k7 => k_is); (case k8 => ktr_room); (case k9 => first | (refine' binds_K ?q1 ?q2 ?q3 ?q4 ?q5 ?q6; (case q2 => exact rfl); (case q1 => (refine' Frag.In.keeps ?x1 ?x2; (case x2 => (refine' Fr.keep ?x3; (case x3 => with_reducible assumption))); (case x1 => with_reducible assumption))); (case q3 => k_is); (case q4 => exact rfl); (case q5 => exact rfl); (case q6 => exact rfl)) | exact BindsTo.of_eq rfl); (case c5 => decide); (case kB => exact locs rfl); (case c2 => exact rfl); (case c3 => exact rfl); (case c4 => exact rfl); k_whole; intro g' L' h' FG' NG' F' N' B' X' T'; (try dsimp only); (try k_lift B'); (try k_fold)))
local macro_rules | `(tactic| walk_at "eval Name") => `(tactic| (k_here; k_dflt (first
  | (refine' nameX_L ?nF ?nv ?_ ?nA ?nB; (case nF => k_asm); (case nA => rfl); (case nB => rfl); (case nv => rfl); k_whole)
  | (refine' nameX_K ?nF ?nX ?nT ?nE ?_ ?nA ?nB; (case nF => k_asm); (case nX => k_asm); (case nT => k_asm); (case nA => rfl); (case nB => rfl); (case nE => k_is); k_whole))))
local macro_rules | `(tactic| walk_at "ite") => `(tactic| (k_here; k_openite; first
  | (refine' ite_pos ?c ?_; (case c => first | omega | ((simp only [decide_eq_true_eq, decide_eq_false_iff_not, Bool.and_eq_true, Bool.not_eq_true', Bool.not_eq_false', Bool.not_eq_true, bne_iff_ne, beq_iff_eq, ne_eq, Bool.or_eq_true, Bool.not_eq_eq_eq_not, Bool.not_true, Bool.not_false]); omega)))
  | (refine' ite_neg ?c ?_; (case c => first | omega | ((simp only [decide_eq_true_eq, decide_eq_false_iff_not, Bool.and_eq_true, Bool.not_eq_true', Bool.not_eq_false', Bool.not_eq_true, bne_iff_ne, beq_iff_eq, ne_eq, Bool.or_eq_true, Bool.not_eq_eq_eq_not, Bool.not_true, Bool.not_false]); omega)))))
local macro_rules | `(tactic| cell_ask $C:term) => `(tactic| (refine' $C _ _ _ _ _ _ _ _ _ _ _ _ _ _ _ _ _ ?k1 ?k2 ?k3 ?k4 ?k5 ?kK ?kd ?ku ?_; (case k1 => k_asm); (case k2 => k_asm); (case k3 => k_asm); (case k4 => first | with_reducible assumption | (refine' cb_drop ?cn ?cs; (case cn => with_reducible assumption); (case cs => exact fun _ h => List.mem_cons_of_mem _ h)) | k_asm); (case k5 => k_asm); (case kK => first | exact rfl | assumption); (case kd => ktr_room); (case ku => ktr_units)))
local macro_rules | `(tactic| walk_at "execs cons") => `(tactic| (k_here; (with_reducible refine gen_toks ?_); intro tk; (with_reducible refine wpAny_execs_cons ?_); try dsimp only))
local macro_rules | `(tactic| walk_at "execs nil") => `(tactic| (k_here; (with_reducible refine gen_toks ?_); intro tk; (with_reducible refine wpAny_execs_nil ?_); try dsimp only))
local macro_rules | `(tactic| k_steps) => `(tactic| repeat' (first | (k_unfold; (try dsimp only)) | (k_end; wrow_close) | ((fail_if_success (with_reducible show wpAny _ _ (call (Value.ref _) _ _) _ _ _)); (fail_if_success (with_reducible show wpAny _ _ (pyIter _) _ _ _)); (fail_if_success (with_reducible show wpAny _ _ (exec (Stmt.For _ _ _ _ _) _) _ _ _)); (fail_if_success (with_reducible show InvEndG _ _ _ _ _ _)); (fail_if_success (with_reducible show wpAny _ _ (eval (PySem.Expr.BoolOp _ _ _) _) _ _ _)); (fail_if_success (with_reducible show wpAny _ _ (eval (PySem.Expr.IfExp _ _ _ _) _) _ _ _)); (first | walk1 | (dsimp only; walk1) | (leave1; walk_say "STEP leave1"; try dsimp only))) | fail "no step"))
local macro_rules | `(tactic| walk_at "call builtin:len") => `(tactic| (k_here; (with_reducible show wpAny _ _ (call (Value.builtin "len") [Value.ref _]) _ _ _); k_dflt (refine' led_len ?k1 ?k2 ?k3 ?_; (case k1 => k_asm); (case k2 => repeat' (first | assumption | apply List.mem_cons_of_mem)); (case k3 => omega); k_whole)))
local macro_rules | `(tactic| walk_at "subscriptTail") => `(tactic| (k_here; (with_reducible show wpAny _ _ (subscriptTail _ _ (Value.ref _) (Value.int _ _)) _ _ _); k_dflt (refine' led_item ?k1 ?k2 ?k3 ?k4 ?k5 ?_ ?k6; (case k1 => k_asm); (case k2 => repeat' (first | assumption | apply List.mem_cons_of_mem)); (case k3 => omega); (case k4 => omega); (case k5 => assumption); (case k6 => with_unfolding_all rfl); k_whole)))
local macro_rules | `(tactic| k_all) => `(tactic| assumption)
local macro_rules | `(tactic| walk_at "call builtin:list.append") => `(tactic| (k_here; (with_reducible show wpAny _ _ (call (Value.builtin _) [Value.ref _, _]) _ _ _); k_dflt (refine' append_K ?k1 ?k2 ?k3 ?_ ?z; (case k1 => k_asm); (case k2 => k_asm); (case k3 => k_upd); (case z => assumption); k_whole); intro h' F' N'; (try k_sweep)))
namespace Mine
inductive NameR : Option (Array UInt8) → Value → Prop
  | none : NameR none .none
  | some (b : Array UInt8) (t : Tok) : NameR (some b) (.bytes b t)
abbrev NRet (r : Option (Array UInt8)) (news : List (Addr × Obj)) (h₀ : Heap) (L : Addr) (m : Str → Option Value) (s : Shared) (Q : Value → Shared → Prop) : Prop :=
  ∀ (v : Value) (h' : Heap) (tk' : Nat), NameR r v → Fr h₀ L h' m → News h₀ L h' news → Q v { s with heap := h', toks := tk' }
theorem nret_some {r : Option (Array UInt8)} {news : List (Addr × Obj)} {h₀ g h' : Heap} {L L' : Addr} {m m' : Str → Option Value} {s : Shared} {Q : Value → Shared → Prop} {tk' : Nat} {b : Array UInt8} {t : Tok} (H : NRet r news h₀ L m s Q) (NG : News h₀ L g news) (F' : Fr g L' h' m') (F : Fr h₀ L h' m) (E : r = some b) : Q (.bytes b t) { s with heap := h', toks := tk' } := by
  subst E
  exact H _ _ _ (.some b t) F (news_back (new := []) NG F' News.nil)
theorem nret_none {r : Option (Array UInt8)} {news : List (Addr × Obj)} {h₀ g h' : Heap} {L L' : Addr} {m m' : Str → Option Value} {s : Shared} {Q : Value → Shared → Prop} {tk' : Nat} (H : NRet r news h₀ L m s Q) (NG : News h₀ L g news) (F' : Fr g L' h' m') (F : Fr h₀ L h' m) (E : r = none) : Q .none { s with heap := h', toks := tk' } := by
  subst E
  exact H _ _ _ .none F (news_back (new := []) NG F' News.nil)
theorem nret_any {r : Option (Array UInt8)} {v : Value} {news : List (Addr × Obj)} {h₀ g h' : Heap} {L L' : Addr} {m m' : Str → Option Value} {s : Shared} {Q : Value → Shared → Prop} {tk' : Nat} (H : NRet r news h₀ L m s Q) (NG : News h₀ L g news) (F' : Fr g L' h' m') (F : Fr h₀ L h' m) (R : NameR r v) : Q v { s with heap := h', toks := tk' } :=
  H _ _ _ R F (news_back (new := []) NG F' News.nil)
theorem name_C (w p loose mean mg mb) (news : List (Addr × Obj)) (l : Addr) (n : Int) (tn : Tok) (tab : List (Int × Array UInt8)) (lo : Obj) (vs : List Value) (nn : Nat) (hkl : (KK w.params).lookup l = some lo) (hcl : lo.cls = .type "tuple") (hdl : lo.data = .seq vs.toArray nn) (hz : vs.length ≤ 24) (hr : RowsK (KK w.params) vs tab) :
  Con w p loose mean mg mb 157 news [.ref l, .int n tn] 1 10 (NRet (findIn1 tab n) news) := by
  unfold Con prg
  k_fill
  intro dp un gd cn cs a ccd cl outer A₀ base h₀ L m s Q E B F X N T hk hdp hun hret
  refine wpAny_call ?_
  k_dflt ktr_enter
  k_steps
  k_here
  rename Fr _ _ _ _ => lF'
  refine' For_turns lF' ?_
  k_whole
  k_steps
  k_here
  with_unfolding_all refine' loopT ["name", "one"] (Past tab n) ?hh ?F ?N ?X hkl hcl hdl hz rfl ?turn ?done
  case hh => rfl
  case F => k_asm
  case N => k_asm
  case X => k_asm
  case turn =>
    intro i v u I o h tk hv hJ hI F3 N3
    obtain ⟨k, b, a', t, u', htab, rfl, hl⟩ := rows_at hr hv
    k_here
    with_unfolding_all refine' unpackK ?F ?N ?X hl rfl rfl rfl rfl rfl ?_
    case F => k_asm
    case N => k_asm
    case X => k_asm
    intro h' F' N'
    try k_fold
    k_steps
    · refine' nret_some hret ?eG ?eF' ?eF (past_hit hJ htab (by omega))
      case eG => with_reducible assumption
      case eF => with_reducible assumption
      case eF' => with_reducible assumption
    · refine' turn_end ?F ?N hI (fun p hp => hp) ?hm (past_next hJ htab (by omega))
      case F => k_asm
      case N => k_asm
      case hm =>
        intro z h2
        have h4 : z ≠ Str.ofString "name" := by intro e; subst e; exact absurd h2 (by decide)
        have h5 : z ≠ Str.ofString "one" := by intro e; subst e; exact absurd h2 (by decide)
        simp only [if_neg h4, if_neg h5, h2, Bool.false_eq_true, if_false]
  case done =>
    intro u h tk hJ F3 N3
    try dsimp only
    try k_fold
    k_steps
    refine' nret_none hret ?eG ?eF' ?eF (past_all hJ (by rw [rows_length hr]; exact Nat.le_refl _))
    case eG => with_reducible assumption
    case eF => with_reducible assumption
    case eF' => with_reducible assumption
theorem name_letters_C (w p loose mean mg mb) (news : List (Addr × Obj)) (n : Int) (tn : Tok) : Con w p loose mean mg mb 157 news [.ref 39, .int n tn] 1 10 (NRet (findIn1 letterTable n) news) :=
  name_C w p loose mean mg mb news 39 n tn letterTable _ _ _ rfl rfl rfl (by decide) (by repeat (first | exact True.intro | refine ⟨⟨_, _, _, rfl, rfl⟩, ?_⟩))
theorem name_numbers_C (w p loose mean mg mb) (news : List (Addr × Obj)) (n : Int) (tn : Tok) : Con w p loose mean mg mb 157 news [.ref 60, .int n tn] 1 10 (NRet (findIn1 numberTable n) news) :=
  name_C w p loose mean mg mb news 60 n tn numberTable _ _ _ rfl rfl rfl (by decide) (by repeat (first | exact True.intro | refine ⟨⟨_, _, _, rfl, rfl⟩, ?_⟩))
theorem name_others_C (w p loose mean mg mb) (news : List (Addr × Obj)) (n : Int) (tn : Tok) : Con w p loose mean mg mb 157 news [.ref 166, .int n tn] 1 10 (NRet (findIn1 otherTable n) news) :=
  name_C w p loose mean mg mb news 166 n tn otherTable _ _ _ rfl rfl rfl (by decide) (by repeat (first | exact True.intro | refine ⟨⟨_, _, _, rfl, rfl⟩, ?_⟩))
theorem name_codes_C (w p loose mean mg mb) (news : List (Addr × Obj)) (n : Int) (tn : Tok) : Con w p loose mean mg mb 157 news [.ref 65, .int n tn] 1 10 (NRet (findIn1 codeTable n) news) :=
  name_C w p loose mean mg mb news 65 n tn codeTable _ _ _ rfl rfl rfl (by decide) (by repeat (first | exact True.intro | refine ⟨⟨_, _, _, rfl, rfl⟩, ?_⟩))
end Mine
namespace Mine
/-- the two objects of a key -/
abbrev keyAt (w : World) (n : Array UInt8) (c h e : Int) (x d : Addr) (t1 t2 t3 t4 u1 u2 u3 u4 : Tok) (rest : List (Addr × Obj)) : List (Addr × Obj) := (x, instObj 116 d) :: (d, dictOf [⟨PyData.keyHash w.params (Str.ofString "name"), .str (Str.ofString "name") t1, .bytes n u1⟩, ⟨PyData.keyHash w.params (Str.ofString "code"), .str (Str.ofString "code") t2, .int c u2⟩,
        ⟨PyData.keyHash w.params (Str.ofString "held"), .str (Str.ofString "held") t3, .int h u3⟩, ⟨PyData.keyHash w.params (Str.ofString "event"), .str (Str.ofString "event") t4, .int e u4⟩] 4) :: rest
abbrev KRetS (w : World) (n : Array UInt8) (c h e : Int) (news : List (Addr × Obj)) (h₀ : Heap) (L : Addr) (m : Str → Option Value) (s : Shared) (Q : Value → Shared → Prop) : Prop :=
  ∀ (x d : Addr) (t1 t2 t3 t4 u1 u2 u3 u4 : Tok) (h' : Heap) (tk' : Nat), Fr h₀ L h' m → News h₀ L h' (keyAt w n c h e x d t1 t2 t3 t4 u1 u2 u3 u4 news) → Q (.ref x) { s with heap := h', toks := tk' }
theorem krets_end {w : World} {n n' : Array UInt8} {c c' h hh e e' : Int} {news rest : List (Addr × Obj)} {h₀ g h' : Heap} {L L' : Addr} {m m' : Str → Option Value} {s : Shared} {Q : Value → Shared → Prop} {tk' : Nat} {x d : Addr} {t1 t2 t3 t4 u1 u2 u3 u4 : Tok} (H : KRetS w n c h e news h₀ L m s Q) (NG : News h₀ L g news) (F' : Fr g L' h' m') (F : Fr h₀ L h' m)
    (N : News h₀ L h' (keyAt w n' c' hh e' x d t1 t2 t3 t4 u1 u2 u3 u4 rest)) (E : n' = n ∧ c' = c ∧ hh = h ∧ e' = e) : Q (.ref x) { s with heap := h', toks := tk' } := by
  obtain ⟨rfl, rfl, rfl, rfl⟩ := E
  refine H _ _ _ _ _ _ _ _ _ _ _ _ F (news_back (new := keyAt w n' c' hh e' x d t1 t2 t3 t4 u1 u2 u3 u4 []) NG F' fun p hp => N p ?_)
  rcases List.mem_cons.mp hp with rfl | hp
  · exact .head _
  · rw [List.mem_singleton.mp hp]; exact .tail _ (.head _)
theorem key_new_C (w p loose mean mg mb) (news : List (Addr × Obj)) (n : Array UInt8) (c h e : Int) (tn tc th te : Tok) :
  Con w p loose mean mg mb 116 news [.bytes n tn, .int c tc, .int h th, .int e te] 2 10 (KRetS w n c h e news) := by
  unfold Con prg
  k_fill
  intro dp un gd cn cs a ccd cl outer A₀ base h₀ L m s Q E B F X N T hk hdp hun hret
  k_here
  k_dflt (refine' call_cls ?k1 ?k2 ?k3 ?k4 ?k5 ?k6 ?_; (case k1 => k_asm); (case k2 => k_asm); (case k3 => k_asm); (case k4 => k_is); (case k5 => k_is); (case k6 => k_is); k_whole; intro x' d' h' F' N' l1 l2; (try k_lt l1); (try k_lt2 l2); (try k_sweep); cell_enter)
  k_steps
  refine' hret _ _ _ _ _ _ _ _ _ _ _ _ ?eF ?eN
  case eF => with_reducible assumption
  case eN => with_reducible assumption
abbrev BRet (b : Bool) (news : List (Addr × Obj)) (h₀ : Heap) (L : Addr) (m : Str → Option Value) (s : Shared) (Q : Value → Shared → Prop) : Prop :=
  ∀ (h' : Heap) (tk' : Nat), Fr h₀ L h' m → News h₀ L h' news → Q (.bool b) { s with heap := h', toks := tk' }
theorem bret_end {b b' : Bool} {news : List (Addr × Obj)} {h₀ g h' : Heap} {L L' : Addr} {m m' : Str → Option Value} {s : Shared} {Q : Value → Shared → Prop} {tk' : Nat} (H : BRet b news h₀ L m s Q) (NG : News h₀ L g news) (F' : Fr g L' h' m') (F : Fr h₀ L h' m) (E : b' = b) : Q (.bool b') { s with heap := h', toks := tk' } := by
  subst E
  exact H _ _ F (news_back (new := []) NG F' News.nil)
theorem capital_C (w p loose mean mg mb) (news : List (Addr × Obj)) (code : Int) (tc : Tok) :
  Con w p loose mean mg mb 127 news [.int code tc] 1 10 (BRet (decide (65 ≤ code ∧ code ≤ 90)) news) := by
  unfold Con prg
  k_fill
  intro dp un gd cn cs a ccd cl outer A₀ base h₀ L m s Q E B F X N T hk hdp hun hret
  refine wpAny_call ?_
  k_dflt ktr_enter
  k_steps
  all_goals (refine' bret_end hret ?eG ?eF' ?eF ?_; (case eG => with_reducible assumption); (case eF => with_reducible assumption); (case eF' => with_reducible assumption))
  all_goals (simp only [decide_eq_decide, Bool.false_eq, Bool.true_eq, decide_eq_true_eq, decide_eq_false_iff_not]; omega)
theorem small_C (w p loose mean mg mb) (news : List (Addr × Obj)) (code : Int) (tc : Tok) :
  Con w p loose mean mg mb 134 news [.int code tc] 1 10 (BRet (decide (97 ≤ code ∧ code ≤ 122)) news) := by
  unfold Con prg
  k_fill
  intro dp un gd cn cs a ccd cl outer A₀ base h₀ L m s Q E B F X N T hk hdp hun hret
  refine wpAny_call ?_
  k_dflt ktr_enter
  k_steps
  all_goals (refine' bret_end hret ?eG ?eF' ?eF ?_; (case eG => with_reducible assumption); (case eF => with_reducible assumption); (case eF' => with_reducible assumption))
  all_goals (simp only [decide_eq_decide, Bool.false_eq, Bool.true_eq, decide_eq_true_eq, decide_eq_false_iff_not]; omega)
inductive Next2 (g : Heap) (L' : Addr) (nw : List (Addr × Obj)) (m₀ : Str → Option Value) (a b : Str) (P : Value → Value → Prop) (s₁ : Shared) : Flow → Shared → Prop
  | mk (x y : Value) (h' : Heap) (tk : Nat) (m' : Str → Option Value) : Fr g L' h' m' → News g L' h' nw → m' a = some x → m' b = some y → (∀ z, z ≠ a → z ≠ b → m' z = m₀ z) → P x y → Next2 g L' nw m₀ a b P s₁ .next { s₁ with heap := h', toks := tk }
theorem cut2 {prog : Program} {w : World} {A : Around} {E : Value → Shared → Prop} {s₁ : Shared} {Q : Flow → Shared → Prop} {t : Sem Flow} {g : Heap} {L' : Addr} {nw : List (Addr × Obj)} {m₀ : Str → Option Value} (a b : Str) (P : Value → Value → Prop) (_ : Fr g L' s₁.heap m₀) (_ : News g L' s₁.heap nw)
    (h1 : wpAny (model prog w) A t (Next2 g L' nw m₀ a b P s₁) E s₁)
    (h2 : ∀ x y h' tk, P x y → Fr g L' h' (fun z => if z = a then some x else if z = b then some y else m₀ z) → News g L' h' nw → Q .next { s₁ with heap := h', toks := tk }) : wpAny (model prog w) A t Q E s₁ :=
  wpAny_mono h1 (fun _ _ h => by
    cases h with
    | mk x y h' tk m' F N ha hb hm hp =>
      refine h2 x y h' tk hp ?_ N
      have e : m' = fun z => if z = a then some x else if z = b then some y else m₀ z := by
        funext z
        by_cases h1 : z = a
        · rw [if_pos h1, h1, ha]
        · rw [if_neg h1]
          by_cases h2 : z = b
          · rw [if_pos h2, h2, hb]
          · rw [if_neg h2, hm z h1 h2]
      rw [← e]; exact F) fun _ _ h => h
theorem and4 (x : Int) : Builtin.bitAnd x 4 = (x / 4 % 2) * 4 := kbt_bit x 2
theorem and1 (x : Int) : Builtin.bitAnd x 1 = x % 2 := kbt_mask x 1
theorem andN : ∀ x : Int, 0 ≤ x → x ≤ 7 → x % 2 = 1 → Builtin.bitAnd x (Builtin.bitNot 1) = x - 1 := by
  intro x h0 h7 h
  rcases (by omega : x = 1 ∨ x = 3 ∨ x = 5 ∨ x = 7) with rfl | rfl | rfl | rfl <;> decide
theorem settled_is {code held a b : Int} {t u : Tok} (h : settledS code held = (a, b)) : ∃ t' u', Value.int a t = .int (settledS code held).1 t' ∧ Value.int b u = .int (settledS code held).2 u' := ⟨t, u, by rw [h], by rw [h]⟩
theorem settled_C (w p loose mean mg mb) (news : List (Addr × Obj)) (tb tc th te : Tok) (code held event : Int) (h0 : 0 ≤ held) (h7 : held ≤ 7) :
  Con w p loose mean mg mb 142 news [.bytes #[] tb, .int code tc, .int held th, .int event te] 3 20 (KRetS w #[] (settledS code held).1 (settledS code held).2 event news) := by
  unfold Con prg
  k_fill
  intro dp un gd cn cs a ccd cl outer A₀ base h₀ L m s Q E B F X N T hk hdp hun hret
  have h4 := and4 held
  have h1 := and1 held
  have hN := andN held h0 h7
  refine wpAny_call ?_
  k_dflt ktr_enter
  walk1
  with_unfolding_all refine' cut2 (Str.ofString "code") (Str.ofString "held") (fun x y => ∃ t u, x = .int (settledS code held).1 t ∧ y = .int (settledS code held).2 u) ?F ?N ?h1 ?h2
  case F => with_reducible assumption
  case N => with_reducible assumption
  case h1 =>
    k_steps
    all_goals (first | (k_here; k_dflt (cell_ask (capital_C _ _ _ _ _ _ _ _ _)); intro h9 tk9 F9 N9; (try dsimp only); (try k_fold); k_steps) | (k_here; k_dflt (cell_ask (small_C _ _ _ _ _ _ _ _ _)); intro h9 tk9 F9 N9; (try dsimp only); (try k_fold); k_steps) | skip)
    all_goals (first | (k_here; k_dflt (cell_ask (capital_C _ _ _ _ _ _ _ _ _)); intro h9 tk9 F9 N9; (try dsimp only); (try k_fold); k_steps) | (k_here; k_dflt (cell_ask (small_C _ _ _ _ _ _ _ _ _)); intro h9 tk9 F9 N9; (try dsimp only); (try k_fold); k_steps) | skip)
    all_goals (refine' .mk _ _ _ _ _ ?eF ?eN ?ea ?eb ?em (settled_is ?_); (case eF => with_reducible assumption); (case eN => exact News.nil); (case ea => exact rfl); (case eb => exact rfl); (case em => first | exact fun _ _ _ => rfl | (intro z h1 h2; simp only [if_neg h1, if_neg h2])))
    all_goals (try rw [hN (by omega)])
    all_goals (unfold settledS; (repeat' split) <;> first | rfl | (exfalso; omega) | (simp only [Prod.mk.injEq]; omega))
  case h2 =>
    intro x y h' tk ⟨t, u, ex, ey⟩ F3 N3
    subst ex ey
    try dsimp only
    try k_fold
    k_steps
    k_here
    k_dflt (cell_ask (key_new_C _ _ _ _ _ _ _ _ _ _ _ _ _ _ _))
    intro x9 d9 t1 t2 t3 t4 u1 u2 u3 u4 h9 tk9 F9 N9
    dsimp only [keyAt] at N9
    try dsimp only
    try k_fold
    k_steps
    refine' krets_end hret ?eG ?eF' ?eF ?eN ⟨rfl, rfl, rfl, rfl⟩
    case eG => with_reducible assumption
    case eF => with_reducible assumption
    case eN => with_reducible assumption
    case eF' => with_reducible assumption
end Mine
namespace Mine
noncomputable def ofCode (code held event : Int) : K4 := match findIn1 (codeTable ++ padTable) code with
  | some b => (b, 0, held, event)
  | none => (#[], (settledS code held).1, (settledS code held).2, event)
theorem find_app (a b : List (Int × Array UInt8)) (i : Int) : findIn1 (a ++ b) i = match findIn1 a i with
    | some x => some x
    | none => findIn1 b i := by
  induction a with
  | nil => rfl
  | cons q r ih =>
    obtain ⟨k, v⟩ := q
    by_cases e : k = i
    · simp [findIn1, e]
    · simp [findIn1, e, ih]
/-- rows of the pad's table: a name, two signs, the code -/
noncomputable def RowsP (K : Frag) : List Value → List (Int × Array UInt8) → Prop
  | [], [] => True
  | v :: vs, (k, b) :: tab => (∃ a t f tf p tp u, v = .ref a ∧ K.lookup a = some (Obj.mk (Value.type "tuple") none (Data.seq #[.bytes b t, .int f tf, .int p tp, .int k u]) #[])) ∧ RowsP K vs tab
  | _, _ => False
theorem rowsP_at {K : Frag} : ∀ {vs : List Value} {tab : List (Int × Array UInt8)} {i : Nat} {v : Value}, RowsP K vs tab → vs[i]? = some v → ∃ k b a t f tf p tp u, tab[i]? = some (k, b) ∧ v = .ref a ∧ K.lookup a = some (Obj.mk (Value.type "tuple") none (Data.seq #[.bytes b t, .int f tf, .int p tp, .int k u]) #[])
  | [], _, i, v, _, h => by simp at h
  | _ :: _, [], i, v, r, _ => (show False from r).elim
  | x :: vs, (k, b) :: tab, 0, v, ⟨⟨a, t, f, tf, p, tp, u, e, hl⟩, _⟩, h => by
    simp only [List.getElem?_cons_zero, Option.some.injEq] at h
    subst h
    exact ⟨k, b, a, t, f, tf, p, tp, u, rfl, e, hl⟩
  | x :: vs, (k, b) :: tab, i + 1, v, ⟨_, r⟩, h => by
    rw [List.getElem?_cons_succ] at h ⊢
    exact rowsP_at r h
theorem rowsP_length {K : Frag} : ∀ {vs : List Value} {tab : List (Int × Array UInt8)}, RowsP K vs tab → vs.length = tab.length
  | [], [], _ => rfl
  | [], _ :: _, h => (show False from h).elim
  | _ :: _, [], h => (show False from h).elim
  | _ :: vs, _ :: tab, ⟨_, r⟩ => by simp [rowsP_length r]
theorem of_found {code held event : Int} {b : Array UInt8} (h : findIn1 codeTable code = some b) : b = (ofCode code held event).1 ∧ 0 = (ofCode code held event).2.1 ∧ held = (ofCode code held event).2.2.1 ∧ event = (ofCode code held event).2.2.2 := by
  unfold ofCode
  rw [find_app, h]
  exact ⟨rfl, rfl, rfl, rfl⟩
theorem of_pad {code held event : Int} {b : Array UInt8} (h0 : findIn1 codeTable code = none) (h : findIn1 padTable code = some b) : b = (ofCode code held event).1 ∧ 0 = (ofCode code held event).2.1 ∧ held = (ofCode code held event).2.2.1 ∧ event = (ofCode code held event).2.2.2 := by
  unfold ofCode
  rw [find_app, h0]
  dsimp only
  rw [h]
  exact ⟨rfl, rfl, rfl, rfl⟩
theorem of_none {code held event : Int} (h0 : findIn1 codeTable code = none) (h : findIn1 padTable code = none) : #[] = (ofCode code held event).1 ∧ (settledS code held).1 = (ofCode code held event).2.1 ∧ (settledS code held).2 = (ofCode code held event).2.2.1 ∧ event = (ofCode code held event).2.2.2 := by
  unfold ofCode
  rw [find_app, h0]
  dsimp only
  rw [h]
  exact ⟨rfl, rfl, rfl, rfl⟩
theorem code_rows (P : Params) : ∃ lo vs nn, (KK P).lookup 65 = some lo ∧ lo.cls = .type "tuple" ∧ lo.data = .seq (List.toArray vs) nn ∧ vs.length ≤ 24 ∧ RowsK (KK P) vs codeTable := by
  refine ⟨_, _, _, rfl, rfl, rfl, by decide, ?_⟩
  repeat (first | exact True.intro | refine ⟨⟨_, _, _, rfl, rfl⟩, ?_⟩)
theorem pad_rows (P : Params) : ∃ lo vs nn, (KK P).lookup 84 = some lo ∧ lo.cls = .type "tuple" ∧ lo.data = .seq (List.toArray vs) nn ∧ vs.length ≤ 24 ∧ RowsP (KK P) vs padTable := by
  refine ⟨_, _, _, rfl, rfl, rfl, by decide, ?_⟩
  repeat (first | exact True.intro | refine ⟨⟨_, _, _, _, _, _, _, rfl, rfl⟩, ?_⟩)
theorem of_code_C (w p loose mean mg mb) (news : List (Addr × Obj)) (tc th te : Tok) (code held event : Int) (h0 : 0 ≤ held) (h7 : held ≤ 7) :
  Con w p loose mean mg mb 150 news [.int code tc, .int held th, .int event te] 4 30 (KRetS w (ofCode code held event).1 (ofCode code held event).2.1 (ofCode code held event).2.2.1 (ofCode code held event).2.2.2 news) := by
  unfold Con prg
  k_fill
  intro dp un gd cn cs a ccd cl outer A₀ base h₀ L m s Q E B F X N T hk hdp hun hret
  obtain ⟨lo, vs, nn, hkl, hcl, hdl, hz, hr⟩ := code_rows w.params
  obtain ⟨lo2, vs2, nn2, hkl2, hcl2, hdl2, hz2, hr2⟩ := pad_rows w.params
  refine wpAny_call ?_
  k_dflt ktr_enter
  k_steps
  k_here
  rename Fr _ _ _ _ => lF'
  refine' For_turns lF' ?_
  k_whole
  k_steps
  k_here
  with_unfolding_all refine' loopT ["name", "own"] (Past codeTable code) ?hh ?F ?N ?X hkl hcl hdl hz rfl ?turn ?done
  case hh => rfl
  case F => k_asm
  case N => k_asm
  case X => k_asm
  case turn =>
    intro i v u I o h tk hv hJ hI F3 N3
    obtain ⟨k, b, a', t, u', htab, rfl, hl⟩ := rows_at hr hv
    k_here
    with_unfolding_all refine' unpackK ?F ?N ?X hl rfl rfl rfl rfl rfl ?_
    case F => k_asm
    case N => k_asm
    case X => k_asm
    intro h' F' N'
    try k_fold
    k_steps
    · k_here
      k_dflt (cell_ask (key_new_C _ _ _ _ _ _ _ _ _ _ _ _ _ _ _))
      intro x9 d9 t1 t2 t3 t4 u1 u2 u3 u4 h9 tk9 F9 N9
      dsimp only [keyAt] at N9
      try dsimp only
      try k_fold
      k_steps
      refine' krets_end hret ?eG ?eF' ?eF ?eN (of_found (past_hit hJ htab (by omega)))
      case eG => with_reducible assumption
      case eF => with_reducible assumption
      case eN => with_reducible assumption
      case eF' => with_reducible assumption
    · refine' turn_end ?F ?N hI (fun p hp => hp) ?hm (past_next hJ htab (by omega))
      case F => k_asm
      case N => k_asm
      case hm =>
        intro z h2
        have h4 : z ≠ Str.ofString "name" := by intro e; subst e; exact absurd h2 (by decide)
        have h5 : z ≠ Str.ofString "own" := by intro e; subst e; exact absurd h2 (by decide)
        simp only [if_neg h4, if_neg h5, h2, Bool.false_eq_true, if_false]
  case done =>
    intro u h tk hJ F3 N3
    have hno := past_all hJ (by rw [rows_length hr]; exact Nat.le_refl _)
    try dsimp only
    try k_fold
    k_steps
    k_here
    rename Fr _ _ _ _ => lF'
    refine' For_turns lF' ?_
    k_whole
    k_steps
    k_here
    with_unfolding_all refine' loopT ["name", "final", "plain", "own"] (Past padTable code) ?hh ?F ?N ?X hkl2 hcl2 hdl2 hz2 rfl ?turn ?done
    case hh => rfl
    case F => k_asm
    case N => k_asm
    case X => k_asm
    case turn =>
      intro i v u I o h tk hv hJ hI F3 N3
      obtain ⟨k, b, a', t, f, tf, pl, tp, u', htab, rfl, hl⟩ := rowsP_at hr2 hv
      k_here
      with_unfolding_all refine' unpackK ?F ?N ?X hl rfl rfl rfl rfl rfl ?_
      case F => k_asm
      case N => k_asm
      case X => k_asm
      intro h' F' N'
      try k_fold
      k_steps
      · k_here
        k_dflt (cell_ask (key_new_C _ _ _ _ _ _ _ _ _ _ _ _ _ _ _))
        intro x9 d9 t1 t2 t3 t4 u1 u2 u3 u4 h9 tk9 F9 N9
        dsimp only [keyAt] at N9
        try dsimp only
        try k_fold
        k_steps
        refine' krets_end hret ?eG ?eF' ?eF ?eN (of_pad hno (past_hit hJ htab (by omega)))
        case eG => with_reducible assumption
        case eF => with_reducible assumption
        case eN => with_reducible assumption
        case eF' => with_reducible assumption
      · refine' turn_end ?F ?N hI (fun p hp => hp) ?hm (past_next hJ htab (by omega))
        case F => k_asm
        case N => k_asm
        case hm =>
          intro z h2
          have h4 : z ≠ Str.ofString "name" := by intro e; subst e; exact absurd h2 (by decide)
          have h5 : z ≠ Str.ofString "own" := by intro e; subst e; exact absurd h2 (by decide)
          have h6 : z ≠ Str.ofString "final" := by intro e; subst e; exact absurd h2 (by decide)
          have h7 : z ≠ Str.ofString "plain" := by intro e; subst e; exact absurd h2 (by decide)
          simp only [if_neg h4, if_neg h5, if_neg h6, if_neg h7, h2, Bool.false_eq_true, if_false]
    case done =>
      intro u h tk hJ F3 N3
      have hno2 := past_all hJ (by rw [rowsP_length hr2]; exact Nat.le_refl _)
      try dsimp only
      try k_fold
      k_steps
      k_here
      k_dflt (cell_ask (settled_C _ _ _ _ _ _ _ _ _ _ _ _ _ _ (by assumption) (by assumption)))
      intro x9 d9 t1 t2 t3 t4 u1 u2 u3 u4 h9 tk9 F9 N9
      dsimp only [keyAt] at N9
      try dsimp only
      try k_fold
      k_steps
      refine' krets_end hret ?eG ?eF' ?eF ?eN (of_none hno hno2)
      case eG => with_reducible assumption
      case eF => with_reducible assumption
      case eN => with_reducible assumption
      case eF' => with_reducible assumption
end Mine
namespace Mine
abbrev Rows : Type := List (List (Option Int))
noncomputable def cellD : Option Int → Dat
  | none => .none
  | some i => .int i
noncomputable def rowD (r : List (Option Int)) : Dat := .list (r.map cellD)
noncomputable def rowsD (fs : Rows) : Dat := .list (fs.map rowD)
/-- the cell at a place, or the default -/
noncomputable def cellV (fs : Rows) (i j : Nat) (d : Int) : Int := match fs[i]? with
  | none => d
  | some r => match r[j]? with
    | none => d
    | some none => d
    | some (some x) => x
theorem rows_open {news : List (Addr × Obj)} {v : Value} {fs : Rows} (h : DatIn news v (rowsD fs)) : ∃ a vs n, v = .ref a ∧ (a, listOf vs.toArray n) ∈ news ∧ DatAll news vs (fs.map rowD) ∧ vs.length = fs.length := by
  cases h with
  | list hm ha => exact ⟨_, _, _, rfl, hm, ha, by rw [ha.length, List.length_map]⟩
theorem row_open {news : List (Addr × Obj)} {vs : List Value} {fs : Rows} (h : DatAll news vs (fs.map rowD)) {i : Nat} {r : List (Option Int)} (e : fs[i]? = some r) :
    ∃ a ws n, vs[i]? = some (.ref a) ∧ (a, listOf ws.toArray n) ∈ news ∧ DatAll news ws (r.map cellD) ∧ ws.length = r.length := by
  have hi : i < (fs.map rowD).length := by rw [List.length_map]; exact (List.getElem?_eq_some_iff.mp e).1
  obtain ⟨v, hv, hD⟩ := h.get hi
  have e2 : (fs.map rowD)[i] = rowD r := by
    have := (List.getElem?_eq_some_iff.mp e).2
    rw [List.getElem_map, this]
  rw [e2] at hD
  cases hD with
  | list hm ha => exact ⟨_, _, _, hv, hm, ha, by rw [ha.length, List.length_map]⟩
theorem cell_open {news : List (Addr × Obj)} {ws : List Value} {r : List (Option Int)} (h : DatAll news ws (r.map cellD)) {j : Nat} {o : Option Int} (e : r[j]? = some o) :
    (o = none ∧ ws[j]? = some .none) ∨ ∃ i t, o = some i ∧ ws[j]? = some (.int i t) := by
  have hi : j < (r.map cellD).length := by rw [List.length_map]; exact (List.getElem?_eq_some_iff.mp e).1
  obtain ⟨v, hv, hD⟩ := h.get hi
  have e2 : (r.map cellD)[j] = cellD o := by
    have := (List.getElem?_eq_some_iff.mp e).2
    rw [List.getElem_map, this]
  rw [e2] at hD
  cases o with
  | none => cases hD; exact .inl ⟨rfl, hv⟩
  | some i => cases hD; exact .inr ⟨_, _, rfl, hv⟩
theorem field_C (w p loose mean mg mb) (news : List (Addr × Obj)) (v : Value) (fs : Rows) (i j d : Int) (ti tj td : Tok) (hv : DatIn news v (rowsD fs)) (hi0 : 0 ≤ i) (hi1 : i < 10) (hj0 : 0 ≤ j) (hj1 : j < 10) (hz : fs.length < 1000) (hz2 : ∀ r ∈ fs, r.length < 1000) :
  Con w p loose mean mg mb 180 news [v, .int i ti, .int j tj, .int d td] 1 10 (fun h₀ L m s Q => ∀ t h' tk', Fr h₀ L h' m → News h₀ L h' news → Q (.int (cellV fs i.toNat j.toNat d) t) { s with heap := h', toks := tk' }) := by
  unfold Con prg
  k_fill
  intro dp un gd cn cs a ccd cl outer A₀ base h₀ L m s Q E B F X N T hk hdp hun hret
  obtain ⟨l, vs, n, rfl, hm, hall, hlen⟩ := rows_open hv
  clear hv
  rcases e1 : fs[i.toNat]? with _ | r
  · have hc : ¬ i < (vs.length : Int) := by have := List.getElem?_eq_none_iff.mp e1; omega
    refine wpAny_call ?_
    k_dflt cell_enter
    k_steps
    all_goals (have E1 : cellV fs i.toNat j.toNat d = d := by (unfold cellV; rw [e1]))
    all_goals (rw [E1] at hret; exact hret _ _ _ (by with_reducible assumption) (by with_reducible assumption))
  · obtain ⟨r', ws, n', hv1, hm1, hall1, hlen1⟩ := row_open hall e1
    have hc : i < (vs.length : Int) := by have := (List.getElem?_eq_some_iff.mp e1).1; omega
    have hz3 := hz2 r (List.mem_of_getElem? e1)
    rcases e2 : r[j.toNat]? with _ | o
    · have hc2 : ¬ j < (ws.length : Int) := by have := List.getElem?_eq_none_iff.mp e2; omega
      refine wpAny_call ?_
      k_dflt cell_enter
      k_steps
      all_goals (have E1 : cellV fs i.toNat j.toNat d = d := by (unfold cellV; simp only [e1, e2]))
      all_goals (rw [E1] at hret; exact hret _ _ _ (by with_reducible assumption) (by with_reducible assumption))
    · have hc2 : j < (ws.length : Int) := by have := (List.getElem?_eq_some_iff.mp e2).1; omega
      rcases cell_open hall1 e2 with ⟨rfl, hw⟩ | ⟨x, t, rfl, hw⟩
      · refine wpAny_call ?_
        k_dflt cell_enter
        k_steps
        all_goals (have E1 : cellV fs i.toNat j.toNat d = d := by (unfold cellV; simp only [e1, e2]))
        all_goals (rw [E1] at hret; exact hret _ _ _ (by with_reducible assumption) (by with_reducible assumption))
      · refine wpAny_call ?_
        k_dflt cell_enter
        k_steps
        all_goals (have E1 : cellV fs i.toNat j.toNat d = x := by (unfold cellV; simp only [e1, e2]))
        all_goals (rw [E1] at hret; exact hret _ _ _ (by with_reducible assumption) (by with_reducible assumption))
end Mine
namespace Mine
abbrev isSign (c : Int) : Prop := (32 ≤ c ∧ c < 127) ∨ (160 ≤ c ∧ c < 55296) ∨ (57344 ≤ c ∧ c ≤ 1114111)
noncomputable def byCode (code held event : Int) : Option K4 := if findIn1 codeTable code ≠ none ∨ isSign code then some (ofCode code held event) else none
noncomputable def numName (n : Int) : Option (Array UInt8) := match findIn1 numberTable n with
  | some b => some b
  | none => findIn1 otherTable n
noncomputable def byLetter (final : Int) (fs : Rows) (held event : Int) : Option K4 :=
  if final = 90 then some (#[84, 97, 98], 0, held + 1 - held % 2, event)
  else match findIn1 letterTable final with
    | none => none
    | some b => if 2 < fs.length ∨ cellV fs 0 0 1 ≠ 1 then none else if b = #[70, 51] ∧ fs.length < 2 then none else some (b, 0, held, event)
noncomputable def byNumber (fs : Rows) (held event : Int) : Option K4 :=
  if cellV fs 0 0 0 = 27 ∧ fs.length = 3 then byCode (cellV fs 2 0 0) held event
  else if 2 < fs.length then none
  else match numName (cellV fs 0 0 0) with
    | some b => some (b, 0, held, event)
    | none => none
theorem name_cases {r : Option (Array UInt8)} {v : Value} (h : NameR r v) : (r = none ∧ v = .none) ∨ ∃ b t, r = some b ∧ v = .bytes b t := by
  cases h with
  | none => exact .inl ⟨rfl, rfl⟩
  | some b t => exact .inr ⟨b, t, rfl, rfl⟩
/-- an end of a def that keeps the whole ledger -/
theorem kret_endW {w : World} {r : Option K4} {news : List (Addr × Obj)} {h₀ h' : Heap} {L : Addr} {m : Str → Option Value} {s : Shared} {Q : Value → Shared → Prop} {tk' : Nat} (H : KRet w r news h₀ L m s Q) (F : Fr h₀ L h' m) (N : News h₀ L h' news) (E : r = none) : Q .none { s with heap := h', toks := tk' } := by
  subst E
  exact H _ _ _ [] .none F N
/-- a result handed on -/
theorem kret_on {w : World} {r r' : Option K4} {news new : List (Addr × Obj)} {h₀ h' : Heap} {L : Addr} {m : Str → Option Value} {s : Shared} {Q : Value → Shared → Prop} {tk' : Nat} {v : Value} (H : KRet w r news h₀ L m s Q) (R : KeyR w r' v new) (F : Fr h₀ L h' m) (N : News h₀ L h' (new ++ news)) (E : r = r') : Q v { s with heap := h', toks := tk' } := by
  subst E
  exact H _ _ _ _ R F N
theorem of_code_some {code held event : Int} (h : findIn1 codeTable code ≠ none ∨ isSign code) : byCode code held event = some ((ofCode code held event).1, (ofCode code held event).2.1, (ofCode code held event).2.2.1, (ofCode code held event).2.2.2) := by
  unfold byCode; rw [if_pos h]
theorem by_code_C (w p loose mean mg mb) (news : List (Addr × Obj)) (tc th te : Tok) (code held event : Int) (h0 : 0 ≤ held) (h7 : held ≤ 7) :
  Con w p loose mean mg mb 201 news [.int code tc, .int held th, .int event te] 5 40 (KRet w (byCode code held event) news) := by
  unfold Con prg
  k_fill
  intro dp un gd cn cs a ccd cl outer A₀ base h₀ L m s Q E B F X N T hk hdp hun hret
  refine wpAny_call ?_
  k_dflt ktr_enter
  k_steps
  k_here
  k_dflt (cell_ask (name_codes_C _ _ _ _ _ _ _ _ _))
  intro v9 h9 tk9 R9 F9 N9
  rcases name_cases R9 with ⟨e9, q9⟩ | ⟨b9, t9, e9, q9⟩
  · subst q9
    try dsimp only
    try k_fold
    k_steps
    with_unfolding_all refine' val_cut (fun v => v = .bool (decide (isSign code))) ?F ?N ?h1 ?h2
    case F => with_reducible assumption
    case N => with_reducible assumption
    case h1 =>
      walk1
      k_steps
      all_goals (try (walk1; k_steps))
      all_goals (try (walk1; k_steps))
      all_goals (refine' .mk _ _ _ ?eF ?eN ?_; (case eF => with_reducible assumption); (case eN => with_reducible assumption))
      all_goals (congr 1; first | (exact (decide_eq_true (by unfold isSign; omega)).symm) | (exact (decide_eq_false (by unfold isSign; omega)).symm) | (exact decide_eq_decide.mpr (by unfold isSign; omega)))
    case h2 =>
      intro v h' tk e F3 N3
      subst e
      try dsimp only
      try k_fold
      k_steps
      walk1
      k_steps
      · k_here
        k_dflt (cell_ask (of_code_C _ _ _ _ _ _ _ _ _ _ _ _ _ (by assumption) (by assumption)))
        intro x9 d9 t1 t2 t3 t4 u1 u2 u3 u4 h9 tk9 F9 N9
        dsimp only [keyAt] at N9
        try dsimp only
        try k_fold
        k_steps
        refine' kret_end hret ?eG ?eF' ?eF ?eN (of_code_some (.inr (by assumption)))
        case eG => with_reducible assumption
        case eF => with_reducible assumption
        case eN => with_reducible assumption
        case eF' => with_reducible assumption
      · refine' kret_endN (rest := []) hret ?eG ?eF' ?eF ?_
        case eG => with_reducible assumption
        case eF => with_reducible assumption
        case eF' => with_reducible assumption
        unfold byCode
        rw [if_neg]
        rintro (h | h)
        · exact h e9
        · contradiction
  · subst q9
    try dsimp only
    try k_fold
    k_steps
    k_here
    k_dflt (cell_ask (of_code_C _ _ _ _ _ _ _ _ _ _ _ _ _ (by assumption) (by assumption)))
    intro x9 d9 t1 t2 t3 t4 u1 u2 u3 u4 h9 tk9 F9 N9
    dsimp only [keyAt] at N9
    try dsimp only
    try k_fold
    k_steps
    refine' kret_end hret ?eG ?eF' ?eF ?eN (of_code_some (.inl (by rw [e9]; simp)))
    case eG => with_reducible assumption
    case eF => with_reducible assumption
    case eN => with_reducible assumption
    case eF' => with_reducible assumption
theorem or1 : ∀ x : Int, 0 ≤ x → x ≤ 7 → Builtin.bitOr x 1 = x + 1 - x % 2 := by
  intro x h0 h7
  rcases (by omega : x = 0 ∨ x = 1 ∨ x = 2 ∨ x = 3 ∨ x = 4 ∨ x = 5 ∨ x = 6 ∨ x = 7) with rfl | rfl | rfl | rfl | rfl | rfl | rfl | rfl <;> decide
theorem of_beqL {b c : Array UInt8} (h : (b.toList == c.toList) = true) : b = c := Array.toList_inj.mp (eq_of_beq h)
theorem ne_beqL {b c : Array UInt8} (h : (b.toList == c.toList) = false) : b ≠ c := by rintro rfl; simp at h
theorem bytes_eq (b : Array UInt8) (l : List UInt8) : b.toList = l ↔ b = l.toArray := ⟨fun e => by rw [← e], fun e => by rw [e]⟩
section
variable {final held event o : Int} {fs : Rows} {b : Array UInt8}
theorem bl_tab (h : final = 90) (ho : o = held + 1 - held % 2) : byLetter final fs held event = some (#[84, 97, 98], 0, o, event) := by
  unfold byLetter; rw [if_pos h, ho]
theorem bl_none (h : ¬ final = 90) (e : findIn1 letterTable final = none) : byLetter final fs held event = none := by
  unfold byLetter; rw [if_neg h, e]
theorem bl_many (h : ¬ final = 90) (e : findIn1 letterTable final = some b) (hn : 2 < fs.length ∨ cellV fs 0 0 1 ≠ 1) : byLetter final fs held event = none := by
  unfold byLetter; rw [if_neg h, e]; dsimp only; rw [if_pos hn]
theorem bl_f3 (h : ¬ final = 90) (e : findIn1 letterTable final = some b) (hn : ¬ (2 < fs.length ∨ cellV fs 0 0 1 ≠ 1)) (hb : b = #[70, 51]) (hl : fs.length < 2) : byLetter final fs held event = none := by
  unfold byLetter; rw [if_neg h, e]; dsimp only; rw [if_neg hn, if_pos ⟨hb, hl⟩]
theorem bl_some (h : ¬ final = 90) (e : findIn1 letterTable final = some b) (hn : ¬ (2 < fs.length ∨ cellV fs 0 0 1 ≠ 1)) (hb : ¬ (b = #[70, 51] ∧ fs.length < 2)) : byLetter final fs held event = some (b, 0, held, event) := by
  unfold byLetter; rw [if_neg h, e]; dsimp only; rw [if_neg hn, if_neg hb]
end
theorem by_letter_C (w p loose mean mg mb) (news : List (Addr × Obj)) (v : Value) (fs : Rows) (tf th te : Tok) (final held event : Int) (hv : DatIn news v (rowsD fs)) (hz : fs.length < 1000) (hz2 : ∀ r ∈ fs, r.length < 1000) (h0 : 0 ≤ held) (h7 : held ≤ 7) :
  Con w p loose mean mg mb 187 news [.int final tf, v, .int held th, .int event te] 6 50 (KRet w (byLetter final fs held event) news) := by
  unfold Con prg
  k_fill
  intro dp un gd cn cs a ccd cl outer A₀ base h₀ L m s Q E B F X N T hk hdp hun hret
  have hv' := hv
  obtain ⟨l, vs, n, rfl, hm, hall, hlen⟩ := rows_open hv'
  have hor := or1 held h0 h7
  refine wpAny_call ?_
  k_dflt cell_enter
  k_steps
  · k_here
    k_dflt (cell_ask (key_new_C _ _ _ _ _ _ _ _ _ _ _ _ _ _ _))
    intro x9 d9 t1 t2 t3 t4 u1 u2 u3 u4 h9 tk9 F9 N9
    dsimp only [keyAt] at N9
    try dsimp only
    try k_fold
    k_steps
    refine' kret_new hret ?eF ?eN (bl_tab (by assumption) hor)
    case eF => with_reducible assumption
    case eN => with_reducible assumption
  · k_here
    k_dflt (cell_ask (name_letters_C _ _ _ _ _ _ _ _ _))
    intro v9 h9 tk9 R9 F9 N9
    rcases name_cases R9 with ⟨e9, q9⟩ | ⟨b9, t9, e9, q9⟩
    · subst q9
      try dsimp only
      try k_fold
      k_steps
      refine' kret_endW hret ?eF ?eN (bl_none (by assumption) e9)
      case eF => with_reducible assumption
      case eN => with_reducible assumption
    · subst q9
      try dsimp only
      try k_fold
      k_steps
      · refine' kret_endW hret ?eF ?eN (bl_many (by assumption) e9 (.inl (by omega)))
        case eF => with_reducible assumption
        case eN => with_reducible assumption
      · k_here
        k_dflt (cell_ask (field_C _ _ _ _ _ _ _ _ _ _ _ _ _ _ _ (by assumption) (by decide) (by decide) (by decide) (by decide) (by assumption) (by assumption)))
        intro t9 h9 tk9 F9 N9
        try dsimp only
        try k_fold
        k_steps
        · refine' kret_endW hret ?eF ?eN (bl_many (by assumption) e9 (.inr (by assumption)))
          case eF => with_reducible assumption
          case eN => with_reducible assumption
        · refine' kret_endW hret ?eF ?eN (bl_f3 (by assumption) e9 (not_or.mpr ⟨by omega, not_not_intro (by assumption)⟩) (of_beqL (by assumption)) (by omega))
          case eF => with_reducible assumption
          case eN => with_reducible assumption
        · k_here
          k_dflt (cell_ask (key_new_C _ _ _ _ _ _ _ _ _ _ _ _ _ _ _))
          intro x9 d9 t1 t2 t3 t4 u1 u2 u3 u4 h9 tk9 F9 N9
          dsimp only [keyAt] at N9
          try dsimp only
          try k_fold
          k_steps
          refine' kret_new hret ?eF ?eN (bl_some (by assumption) e9 (not_or.mpr ⟨by omega, not_not_intro (by assumption)⟩) (fun h => absurd h.2 (by omega)))
          case eF => with_reducible assumption
          case eN => with_reducible assumption
        · k_here
          k_dflt (cell_ask (key_new_C _ _ _ _ _ _ _ _ _ _ _ _ _ _ _))
          intro x9 d9 t1 t2 t3 t4 u1 u2 u3 u4 h9 tk9 F9 N9
          dsimp only [keyAt] at N9
          try dsimp only
          try k_fold
          k_steps
          refine' kret_new hret ?eF ?eN (bl_some (by assumption) e9 (not_or.mpr ⟨by omega, not_not_intro (by assumption)⟩) (fun h => absurd h.1 (ne_beqL (by assumption))))
          case eF => with_reducible assumption
          case eN => with_reducible assumption
section
variable {held event n : Int} {fs : Rows} {b : Array UInt8}
theorem bn_27 (hn : cellV fs 0 0 0 = 27) (hl : fs.length = 3) : byNumber fs held event = byCode (cellV fs 2 0 0) held event := by
  unfold byNumber; rw [if_pos ⟨hn, hl⟩]
theorem bn_many (h : ¬ (cellV fs 0 0 0 = 27 ∧ fs.length = 3)) (hl : 2 < fs.length) : byNumber fs held event = none := by
  unfold byNumber; rw [if_neg h, if_pos hl]
theorem bn_none (h : ¬ (cellV fs 0 0 0 = 27 ∧ fs.length = 3)) (hl : ¬ 2 < fs.length) (e : numName (cellV fs 0 0 0) = none) : byNumber fs held event = none := by
  unfold byNumber; rw [if_neg h, if_neg hl, e]
theorem bn_some (h : ¬ (cellV fs 0 0 0 = 27 ∧ fs.length = 3)) (hl : ¬ 2 < fs.length) (e : numName (cellV fs 0 0 0) = some b) : byNumber fs held event = some (b, 0, held, event) := by
  unfold byNumber; rw [if_neg h, if_neg hl, e]
theorem num_first (e : findIn1 numberTable n = some b) : numName n = some b := by unfold numName; rw [e]
theorem num_then (e : findIn1 numberTable n = none) : numName n = findIn1 otherTable n := by unfold numName; rw [e]
end
theorem by_number_C (w p loose mean mg mb) (news : List (Addr × Obj)) (v : Value) (fs : Rows) (th te : Tok) (held event : Int) (hv : DatIn news v (rowsD fs)) (hz : fs.length < 1000) (hz2 : ∀ r ∈ fs, r.length < 1000) (h0 : 0 ≤ held) (h7 : held ≤ 7) :
  Con w p loose mean mg mb 194 news [v, .int held th, .int event te] 7 60 (KRet w (byNumber fs held event) news) := by
  unfold Con prg
  k_fill
  intro dp un gd cn cs a ccd cl outer A₀ base h₀ L m s Q E B F X N T hk hdp hun hret
  have hv' := hv
  obtain ⟨l, vs, n, rfl, hm, hall, hlen⟩ := rows_open hv'
  refine wpAny_call ?_
  k_dflt cell_enter
  k_steps
  k_here
  k_dflt (cell_ask (field_C _ _ _ _ _ _ _ _ _ _ _ _ _ _ _ (by assumption) (by decide) (by decide) (by decide) (by decide) (by assumption) (by assumption)))
  intro t9 h9 tk9 F9 N9
  try dsimp only
  try k_fold
  repeat (first | (k_unfold; (try dsimp only)) | ((fail_if_success (with_reducible show wpAny _ _ (exec (Stmt.If _ _ _ _) _) _ _ _)); first | walk1 | (dsimp only; walk1)))
  with_unfolding_all refine' cut0 (¬ (cellV fs 0 0 0 = 27 ∧ fs.length = 3)) ?F ?N ?h1 ?h2
  case F => with_reducible assumption
  case N => with_reducible assumption
  case h1 =>
    k_steps
    · k_here
      k_dflt (cell_ask (field_C _ _ _ _ _ _ _ _ _ _ _ _ _ _ _ (by assumption) (by decide) (by decide) (by decide) (by decide) (by assumption) (by assumption)))
      intro t9 h9 tk9 F9 N9
      try dsimp only
      try k_fold
      k_steps
      k_here
      k_dflt (cell_ask (by_code_C _ _ _ _ _ _ _ _ _ _ _ _ _ (by assumption) (by assumption)))
      intro v9 h9 tk9 new9 R9 F9 N9
      try dsimp only
      try k_fold
      k_steps
      refine .ret _ _ ?_
      k_steps
      refine' kret_on hret R9 ?eF ?eN (bn_27 (by assumption) (by omega))
      case eF => with_reducible assumption
      case eN => with_reducible assumption
    · refine' .next _ _ ?eF ?eN (fun h => absurd h.2 (by omega))
      case eF => with_reducible assumption
      case eN => with_reducible assumption
    · refine' .next _ _ ?eF ?eN (fun h => absurd h.1 (by assumption))
      case eF => with_reducible assumption
      case eN => with_reducible assumption
  case h2 =>
    intro h' tk hno F3 N3
    try dsimp only
    try k_fold
    k_steps
    · refine' kret_endW hret ?eF ?eN (bn_many hno (by omega))
      case eF => with_reducible assumption
      case eN => with_reducible assumption
    · k_here
      k_dflt (cell_ask (name_numbers_C _ _ _ _ _ _ _ _ _))
      intro v9 h9 tk9 R9 F9 N9
      rcases name_cases R9 with ⟨e9, q9⟩ | ⟨b9, t9, e9, q9⟩
      · subst q9
        try dsimp only
        try k_fold
        k_steps
        walk1
        k_steps
        k_here
        k_dflt (cell_ask (name_others_C _ _ _ _ _ _ _ _ _))
        intro v9 h9 tk9 R9 F9 N9
        rcases name_cases R9 with ⟨e8, q9⟩ | ⟨b9, t9, e8, q9⟩
        · subst q9
          try dsimp only
          try k_fold
          k_steps
          walk1
          k_steps
          refine' kret_endW hret ?eF ?eN (bn_none hno (by omega) ((num_then e9).trans e8))
          case eF => with_reducible assumption
          case eN => with_reducible assumption
        · subst q9
          try dsimp only
          try k_fold
          k_steps
          walk1
          k_steps
          k_here
          k_dflt (cell_ask (key_new_C _ _ _ _ _ _ _ _ _ _ _ _ _ _ _))
          intro x9 d9 t1 t2 t3 t4 u1 u2 u3 u4 h9 tk9 F9 N9
          dsimp only [keyAt] at N9
          try dsimp only
          try k_fold
          k_steps
          refine' kret_new hret ?eF ?eN (bn_some hno (by omega) ((num_then e9).trans e8))
          case eF => with_reducible assumption
          case eN => with_reducible assumption
      · subst q9
        try dsimp only
        try k_fold
        k_steps
        walk1
        k_steps
        walk1
        k_steps
        k_here
        k_dflt (cell_ask (key_new_C _ _ _ _ _ _ _ _ _ _ _ _ _ _ _))
        intro x9 d9 t1 t2 t3 t4 u1 u2 u3 u4 h9 tk9 F9 N9
        dsimp only [keyAt] at N9
        try dsimp only
        try k_fold
        k_steps
        refine' kret_new hret ?eF ?eN (bn_some hno (by omega) (num_first e9))
        case eF => with_reducible assumption
        case eN => with_reducible assumption
end Mine
namespace Mine
section
open PySem.Spec PySem.Calls
section
variable {α β : Type}
noncomputable def mapO (f : α → Option β) : List α → Option (List β)
  | [] => some []
  | a :: r => match f a, mapO f r with
    | some b, some bs => some (b :: bs)
    | _, _ => none
theorem mapO_snoc {f : α → Option β} : ∀ {l : List α} {bs : List β} {a : α} {b : β}, mapO f l = some bs → f a = some b → mapO f (l ++ [a]) = some (bs ++ [b])
  | [], bs, a, b, h, e => by
    cases h
    simp [mapO, e]
  | c :: r, bs, a, b, h, e => by
    simp only [mapO] at h
    rcases h1 : f c with _ | x
    · rw [h1] at h; cases h
    · rcases h2 : mapO f r with _ | xs
      · rw [h1, h2] at h; cases h
      · rw [h1, h2] at h
        cases h
        have := mapO_snoc h2 e
        simp [mapO, h1, this]
theorem mapO_none {f : α → Option β} : ∀ {l : List α} {a : α}, a ∈ l → f a = none → mapO f l = none
  | c :: r, a, h, e => by
    rcases List.mem_cons.mp h with rfl | h
    · simp [mapO, e]
    · have := mapO_none h e
      simp only [mapO, this]
      rcases f c with _ | x <;> rfl
theorem mapO_len {f : α → Option β} : ∀ {l : List α} {bs : List β}, mapO f l = some bs → bs.length = l.length
  | [], bs, h => by cases h; rfl
  | c :: r, bs, h => by
    simp only [mapO] at h
    rcases h1 : f c with _ | x
    · rw [h1] at h; cases h
    · rcases h2 : mapO f r with _ | xs
      · rw [h1, h2] at h; cases h
      · rw [h1, h2] at h
        cases h
        simp [mapO_len h2]
theorem mapO_mem {f : α → Option β} : ∀ {l : List α} {bs : List β} {b : β}, mapO f l = some bs → b ∈ bs → ∃ a ∈ l, f a = some b
  | [], bs, b, h, hb => by cases h; cases hb
  | c :: r, bs, b, h, hb => by
    simp only [mapO] at h
    rcases h1 : f c with _ | x
    · rw [h1] at h; cases h
    · rcases h2 : mapO f r with _ | xs
      · rw [h1, h2] at h; cases h
      · rw [h1, h2] at h
        cases h
        rcases List.mem_cons.mp hb with rfl | hb
        · exact ⟨c, .head _, h1⟩
        · obtain ⟨a, ha, e⟩ := mapO_mem h2 hb
          exact ⟨a, .tail _ ha, e⟩
end
/-- what a word says: none: it is no number -/
noncomputable def numOf (ks : List Int) : Option Int := if ks = [] ∨ ∃ x ∈ ks, ¬ digit x then none else some (digs ks)
theorem num_cases {ks : List Int} {v : Value} (h : NumIs ks v) : (numOf ks = none ∧ v = .none) ∨ ∃ i t, numOf ks = some i ∧ v = .int i t := by
  rcases h with ⟨rfl, h⟩ | ⟨t, rfl, h1, h2⟩
  · exact .inl ⟨if_pos h, rfl⟩
  · refine .inr ⟨_, t, if_neg ?_, rfl⟩
    rintro (h | ⟨x, hx, h⟩)
    · exact h1 h
    · exact h (h2 x hx)
/-- one cell: an empty one, a number; none: it is neither -/
noncomputable def cellOf (b : Array UInt8) : Option (Option Int) := if b = #[] then some none else match numOf (KBw.bInts b) with
  | none => none
  | some i => some (some i)
noncomputable def rowOf (b : Array UInt8) : Option (List (Option Int)) := mapO cellOf (bparts b #[58])
noncomputable def fieldsOf (b : Array UInt8) : Option Rows := if b = #[] then some [] else mapO rowOf (bparts b #[59])
inductive FieldsR : Option Rows → Value → List (Addr × Obj) → Prop
  | none : FieldsR none .none []
  | some {fs : Rows} {v : Value} {new : List (Addr × Obj)} : DatIn new v (rowsD fs) → FieldsR (some fs) v new
abbrev FRet (r : Option Rows) (news : List (Addr × Obj)) (h₀ : Heap) (L : Addr) (m : Str → Option Value) (s : Shared) (Q : Value → Shared → Prop) : Prop :=
  ∀ (v : Value) (h' : Heap) (tk' : Nat) (new : List (Addr × Obj)), FieldsR r v new → Fr h₀ L h' m → News h₀ L h' (new ++ news) → Q v { s with heap := h', toks := tk' }
theorem fret_none {r : Option Rows} {news : List (Addr × Obj)} {h₀ g h' : Heap} {L L' : Addr} {m m' : Str → Option Value} {s : Shared} {Q : Value → Shared → Prop} {tk' : Nat} (H : FRet r news h₀ L m s Q) (NG : News h₀ L g news) (F' : Fr g L' h' m') (F : Fr h₀ L h' m) (E : r = none) : Q .none { s with heap := h', toks := tk' } := by
  subst E
  exact H _ _ _ _ .none F (news_back NG F' News.nil)
theorem fret_some {r : Option Rows} {fs : Rows} {news new : List (Addr × Obj)} {h₀ g h' : Heap} {L L' : Addr} {m m' : Str → Option Value} {s : Shared} {Q : Value → Shared → Prop} {tk' : Nat} {v : Value} (H : FRet r news h₀ L m s Q) (NG : News h₀ L g news) (F' : Fr g L' h' m') (F : Fr h₀ L h' m) (N : News h₀ L h' new) (D : DatIn new v (rowsD fs)) (E : r = some fs) : Q v { s with heap := h', toks := tk' } := by
  subst E
  exact H _ _ _ _ (.some D) F (news_back NG F' N)
theorem allLt_mem {d : Addr} (l : List (Addr × Obj)) (h : AllLt d l) : ∀ p ∈ l, p.1 < d := by
  induction l with
  | nil => intro p hp; cases hp
  | cons q r ih =>
    intro p hp
    have h1 : q.1 < d := h.1
    have h2 : AllLt d r := h.2
    rcases List.mem_cons.mp hp with e | hp
    · rw [e]; exact h1
    · exact ih h2 p hp
section
variable {prog : Program} {w : World} {A : Around} {E : Value → Shared → Prop} {s : Shared} {env : Env} {h₀ : Heap} {x : Str} {body : List Stmt} {Q : Flow → Shared → Prop}
/-- a loop over a list of the ledger: what a turn stores is named, the rest of the frame stands -/
theorem loopK {l : Addr} {vs : List Value} {nn : Nat} {m₀ : Str → Option Value} {news : List (Addr × Obj)} (st : List Str) (J : Nat → List (Addr × Obj) → Prop)
    (hh : A.handled = none) (hl : (l, listOf vs.toArray nn) ∈ news) (F : Fr h₀ env.locals s.heap m₀) (N : News h₀ env.locals s.heap news) (hj : J 0 news)
    (turn : ∀ i v (u : Str → Option Value) nx h tk own, vs[i]? = some v → OwnOff own (nx.map (·.1)) → (l, listOf vs.toArray nn) ∈ nx → J i nx → Fr h₀ env.locals h (fun y => if y = x then some v else if st.contains y then u y else m₀ y) → News h₀ env.locals h (nx ++ own) →
      wpAny (model prog w) A (execs body env) (InvPostG h₀ env.locals (fun m' nx' => (l, listOf vs.toArray nn) ∈ nx' ∧ (∀ z, z ≠ x → st.contains z = false → m' z = m₀ z) ∧ J (i + 1) nx') own { s with heap := h, toks := tk } Q) E { s with heap := h, toks := tk })
    (done : ∀ (u : Str → Option Value) nx h tk, J vs.length nx → Fr h₀ env.locals h (fun y => if y = x then u y else if st.contains y then u y else m₀ y) → News h₀ env.locals h nx → Q .next { s with heap := h, toks := tk }) :
    wpAny (model prog w) A (pyIter (.ref l)) (fun it s₂ => LoopAtV prog w A h₀ env x body Q E it s₂) E s := by
  refine kdl_iter (fun i m nx => (∀ z, z ≠ x → st.contains z = false → m z = m₀ z) ∧ J i nx) hh hl F N ⟨fun _ _ _ => rfl, hj⟩ ?_ ?_
  · rintro i v m₁ nx h tk own hv off hl₁ ⟨hm, hJ⟩ F₁ N₁
    refine turn i v m₁ nx h tk own hv off hl₁ hJ ?_ N₁
    have e : (fun y => if y = x then some v else m₁ y) = fun y => if y = x then some v else if st.contains y then m₁ y else m₀ y := by
      funext y
      by_cases h1 : y = x
      · simp [h1]
      · simp only [if_neg h1]
        by_cases h2 : st.contains y = true
        · rw [if_pos h2]
        · rw [if_neg h2]; exact hm y h1 (by simpa using h2)
    rw [← e]; exact F₁
  · rintro m₁ nx h tk ⟨hm, hJ⟩ F₁ N₁
    refine done m₁ nx h tk hJ ?_ N₁
    have e : m₁ = fun y => if y = x then m₁ y else if st.contains y then m₁ y else m₀ y := by
      funext y
      by_cases h1 : y = x
      · simp [h1]
      · simp only [if_neg h1]
        by_cases h2 : st.contains y = true
        · rw [if_pos h2]
        · rw [if_neg h2]; exact hm y h1 (by simpa using h2)
    rw [← e]; exact F₁
end
end
end Mine
namespace Mine
theorem bvals_get {l : List (Array UInt8 × Tok)} {i : Nat} {v : Value} (h : (bvals l)[i]? = some v) : ∃ b t, v = .bytes b t ∧ (l.map (·.1))[i]? = some b := by
  unfold bvals at h
  rw [List.getElem?_map] at h
  rcases e : l[i]? with _ | p
  · rw [e] at h; cases h
  · rw [e] at h
    cases h
    exact ⟨p.1, p.2, rfl, by rw [List.getElem?_map, e]; rfl⟩
theorem bvals_len (l : List (Array UInt8 × Tok)) : (bvals l).length = (l.map (·.1)).length := by simp [bvals]
theorem take_snoc {α : Type} {l : List α} {i : Nat} {a : α} (h : l[i]? = some a) : l.take (i + 1) = l.take i ++ [a] := by simp [List.take_add_one, h]
/-- the ledger of a row's loop -/
noncomputable def RowJ (R W : Addr) (lw : Obj) (r0 : List (Addr × Obj)) (words : List (Array UInt8)) (i : Nat) (nx : List (Addr × Obj)) : Prop :=
  ∃ ws k row, nx = (R, listOf (List.toArray ws) k) :: (W, lw) :: r0 ∧ DatAll [] ws (List.map cellD row) ∧ mapO cellOf (words.take i) = some row
noncomputable def FieldJ (D P : Addr) (lp : Obj) (parts : List (Array UInt8)) (i : Nat) (nx : List (Addr × Obj)) : Prop :=
  ∃ us n tl fs, nx = (D, listOf (List.toArray us) n) :: (P, lp) :: tl ∧ (∀ p ∈ tl, p.1 ≠ D) ∧ DatAll tl us (List.map rowD fs) ∧ mapO rowOf (parts.take i) = some fs
theorem toList_ne (w : Array UInt8) : (w.toList != (#[] : Array UInt8).toList) = !decide (w = #[]) := by
  by_cases h : w = #[]
  · subst h; rfl
  · have : w.toList ≠ [] := fun e => h (Array.toList_inj.mp e)
    simp [h]
theorem cell_empty {w : Array UInt8} (h : (w.toList != (#[] : Array UInt8).toList) = false) : cellOf w = some none := by
  rw [toList_ne] at h
  have : w = #[] := by simpa using h
  rw [cellOf, if_pos this]
theorem cell_num {w : Array UInt8} {i : Int} (h : (w.toList != (#[] : Array UInt8).toList) = true) (e : numOf (KBw.bInts w) = some i) : cellOf w = some (some i) := by
  rw [toList_ne] at h
  have : ¬ w = #[] := by simpa using h
  rw [cellOf, if_neg this, e]
theorem cell_bad {w : Array UInt8} (h : (w.toList != (#[] : Array UInt8).toList) = true) (e : numOf (KBw.bInts w) = none) : cellOf w = none := by
  rw [toList_ne] at h
  have : ¬ w = #[] := by simpa using h
  rw [cellOf, if_neg this, e]
theorem row_step {R W : Addr} {lw : Obj} {r0 own r3 : List (Addr × Obj)} {words : List (Array UInt8)} {i : Nat} {h₀ h' : Heap} {L : Addr} {s₁ : Shared} {tk : Nat} {m' m₀ : Str → Option Value} {x : Str} {st : List Str} {ws : List Value} {k : Nat} {row : List (Option Int)} {c : Value} {o : Option Int} {w : Array UInt8}
    (e3 : (W, lw) :: (r0 ++ own) = r3) (hc : DatAll [] ws (row.map cellD)) (hr : mapO cellOf (words.take i) = some row) (hw : words[i]? = some w) (ho : cellOf w = some o) (hd : DatIn [] c (cellD o)) (off : OwnOff own (((R, listOf ws.toArray k) :: (W, lw) :: r0).map (·.1)))
    (F : Fr h₀ L h' m') (N : News h₀ L h' ((R, listOf (ws.toArray.push c) (k + 1)) :: r3)) (hm : ∀ z, z ≠ x → st.contains z = false → m' z = m₀ z) :
    InvEndG h₀ L (fun m' nx' => (W, lw) ∈ nx' ∧ (∀ z, z ≠ x → st.contains z = false → m' z = m₀ z) ∧ RowJ R W lw r0 words (i + 1) nx') own s₁ { s₁ with heap := h', toks := tk } := by
  subst e3
  rw [List.push_toArray] at N
  refine InvEndG.intro (nx := (R, listOf (ws ++ [c]).toArray (k + 1)) :: (W, lw) :: r0) F N ⟨.tail _ (.head _), hm, ws ++ [c], k + 1, row ++ [o], rfl, ?_, ?_⟩ off (fun p hp => ?_) (fun p hp => ?_)
  · rw [List.map_append]; exact hc.append (DatAll.one hd)
  · rw [take_snoc hw]; exact mapO_snoc hr ho
  · rcases List.mem_cons.mp hp with rfl | hp
    · exact .head _
    · exact .tail _ (List.mem_append_left own hp)
  · exact .tail _ (.tail _ (List.mem_append_right _ hp))
theorem field_step {D P R : Addr} {lp : Obj} {tl own r4 : List (Addr × Obj)} {parts : List (Array UInt8)} {i : Nat} {h₀ h' : Heap} {L : Addr} {s₁ : Shared} {tk : Nat} {m' m₀ : Str → Option Value} {x : Str} {st : List Str} {us ws : List Value} {n k : Nat} {fs : Rows} {row : List (Option Int)} {pw : Array UInt8}
    (e4 : (R, listOf ws.toArray k) :: (P, lp) :: (tl ++ own) = r4) (hRD : R ≠ D) (hRo : ∀ p ∈ own, p.1 ≠ R) (htl : ∀ p ∈ tl, p.1 ≠ D) (hall : DatAll tl us (fs.map rowD)) (hfs : mapO rowOf (parts.take i) = some fs) (hp : parts[i]? = some pw) (hrow : rowOf pw = some row) (hc : DatAll [] ws (row.map cellD))
    (off : OwnOff own (((D, listOf us.toArray n) :: (P, lp) :: tl).map (·.1)))
    (F : Fr h₀ L h' m') (N : News h₀ L h' ((D, listOf (us.toArray.push (.ref R)) (n + 1)) :: r4)) (hm : ∀ z, z ≠ x → st.contains z = false → m' z = m₀ z) :
    InvEndG h₀ L (fun m' nx' => (P, lp) ∈ nx' ∧ (∀ z, z ≠ x → st.contains z = false → m' z = m₀ z) ∧ FieldJ D P lp parts (i + 1) nx') own s₁ { s₁ with heap := h', toks := tk } := by
  subst e4
  rw [List.push_toArray] at N
  refine InvEndG.intro (nx := (D, listOf (us ++ [Value.ref R]).toArray (n + 1)) :: (P, lp) :: (R, listOf ws.toArray k) :: tl) F N ⟨.tail _ (.head _), hm, us ++ [Value.ref R], n + 1, (R, listOf ws.toArray k) :: tl, fs ++ [row], rfl, ?_, ?_, ?_⟩ ?_ (fun p hp => ?_) (fun p hp => ?_)
  · intro p hp
    rcases List.mem_cons.mp hp with rfl | hp
    · exact hRD
    · exact htl p hp
  · rw [List.map_append]
    exact (hall.mono fun p hp => .tail _ hp).append (DatAll.one (.list (.head _) (DatAll.mono (news := []) (fun p h => absurd h List.not_mem_nil) hc)))
  · rw [take_snoc hp]; exact mapO_snoc hfs hrow
  · intro p hp b hb
    simp only [List.map_cons, List.mem_cons] at hb
    rcases hb with rfl | rfl | rfl | hb
    · exact off p hp _ (.head _)
    · exact off p hp _ (.tail _ (.head _))
    · exact hRo p hp
    · exact off p hp _ (.tail _ (.tail _ hb))
  · rcases List.mem_cons.mp hp with rfl | hp
    · exact .head _
    · rcases List.mem_cons.mp hp with rfl | hp
      · exact .tail _ (.tail _ (.head _))
      · rcases List.mem_cons.mp hp with rfl | hp
        · exact .tail _ (.head _)
        · exact .tail _ (.tail _ (.tail _ (List.mem_append_left own hp)))
  · exact .tail _ (.tail _ (.tail _ (List.mem_append_right _ hp)))
end Mine
namespace Mine
theorem fits_of {α : Type} {news : List (Addr × Obj)} {ws : List Value} {row : List α} {g : α → Dat} {β : Type} {f : β → Option α} {words : List β} {i : Nat} {w : β} {n : Nat} (hc : DatAll news ws (row.map g)) (hr : mapO f (words.take i) = some row) (hw : words[i]? = some w) (hn : words.length ≤ n + 1) (h : n ≤ 1000) : ws.toArray.size ≤ sizeLine := by
  have h1 := hc.length
  have h2 := mapO_len hr
  have h3 := (List.getElem?_eq_some_iff.mp hw).1
  rw [List.length_map] at h1
  rw [List.length_take] at h2
  rw [List.size_toArray, sizeLine_eq]
  omega
theorem fields_C (w p loose mean mg mb) (news : List (Addr × Obj)) (b : Array UInt8) (tb : Tok) (hb : b.size ≤ 60) :
  Con w p loose mean mg mb 173 news [.bytes b tb] 4 40 (FRet (fieldsOf b) news) := by
  unfold Con prg
  k_fill
  intro dp un gd cn cs a ccd cl outer A₀ base h₀ L m s Q E B F X N T hk hdp hun hret
  refine wpAny_call ?_
  k_dflt ktr_enter
  k_steps
  k_here
  rename Fr _ _ _ _ => lF'
  with_unfolding_all refine' For_invVF lF' ?k1 ?k2 ?_
  case k1 => exact rfl
  case k2 => exact rfl
  k_whole
  k_steps
  walk1
  k_steps
  · k_here
    with_reducible refine bmethod ?_
    k_steps
    k_here
    k_dflt (refine' bsplit ?k1 ?k2 ?k3 ?_; (case k1 => k_asm); (case k2 => k_asm); (case k3 => omega))
    intro P l _ _ e1 F1 N1 o1
    try dsimp only
    k_steps
    rename_i D _ _ _ _ _ hne _ _
    have hbne : ¬ b = #[] := by rw [toList_ne] at hne; simpa using hne
    have hDP : D ≠ P := Nat.ne_of_lt (o1 _ (.head _))
    have hsz := (bparts_size b 59).1
    have N2 : News _ _ _ ((D, listOf (List.toArray []) 0) :: (P, listOf (bvals l).toArray 0) :: []) := fun p hp => N1 p (by
      rcases List.mem_cons.mp hp with rfl | hp
      · exact .tail _ (.head _)
      · rcases List.mem_cons.mp hp with rfl | hp
        · exact .head _
        · exact absurd hp List.not_mem_nil)
    refine loopK ["row", "word", "number"] (fun i nx => FieldJ D P (listOf (bvals l).toArray 0) (bparts b #[59]) i nx) rfl (.tail _ (.head _)) F1 N2 ⟨[], 0, [], [], rfl, (fun _ h => absurd h List.not_mem_nil), .nil, rfl⟩ ?_ ?_
    · intro i v u nx h tk own hv off hl1 hJ F3 N3
      obtain ⟨us, n, tl, fs, rfl, htl, hall, hfs⟩ := hJ
      obtain ⟨pw, tp, rfl, hpw⟩ := bvals_get hv
      rw [e1] at hpw
      have hpz := hsz pw (List.mem_of_getElem? hpw)
      try k_fold
      k_steps
      rename_i R _ _ _ oR _ F4 N4 _
      k_here
      with_unfolding_all refine' For_invVF F4 ?k1 ?k2 ?_
      case k1 => exact rfl
      case k2 => exact rfl
      k_whole
      k_steps
      k_here
      with_reducible refine bmethod ?_
      k_steps
      k_here
      k_dflt (refine' bsplit ?k1 ?k2 ?k3 ?_; (case k1 => k_asm); (case k2 => k_asm); (case k3 => omega))
      intro W l2 _ _ e2 F5 N5 oW
      try dsimp only
      k_steps
      have hRW : R ≠ W := Nat.ne_of_lt (oW _ (.head _))
      have N6 : News _ _ _ ((R, listOf (List.toArray []) 0) :: (W, listOf (bvals l2).toArray 0) :: ((D, listOf us.toArray n) :: (P, listOf (bvals l).toArray 0) :: tl ++ own)) := fun p hp => N5 p (by
        rcases List.mem_cons.mp hp with rfl | hp
        · exact .tail _ (.head _)
        · rcases List.mem_cons.mp hp with rfl | hp
          · exact .head _
          · exact .tail _ (.tail _ hp))
      refine loopK ["number"] (fun i nx => RowJ R W (listOf (bvals l2).toArray 0) ((D, listOf us.toArray n) :: (P, listOf (bvals l).toArray 0) :: tl ++ own) (bparts pw #[58]) i nx) rfl (.tail _ (.head _)) F5 N6 ⟨[], 0, [], rfl, .nil, rfl⟩ ?_ ?_
      · intro i2 v2 u2 nx2 h2 tk2 own2 hv2 off2 hl2 hJ2 F7 N7
        obtain ⟨ws, k, row, rfl, hc, hrow⟩ := hJ2
        obtain ⟨w1, tw, rfl, hw1⟩ := bvals_get hv2
        rw [e2] at hw1
        have hwz := (bparts_size pw 58).1 w1 (List.mem_of_getElem? hw1)
        have hwsz := fits_of hc hrow hw1 (bparts_size pw 58).2 (by omega)
        have hne3 : ∀ p ∈ (W, listOf (bvals l2).toArray 0) :: (((D, listOf us.toArray n) :: (P, listOf (bvals l).toArray 0) :: tl ++ own) ++ own2), p.1 ≠ R := by
          intro p hp
          rcases List.mem_cons.mp hp with rfl | hp
          · exact hRW.symm
          · rcases List.mem_append.mp hp with hp | hp
            · exact Nat.ne_of_lt (oR p hp)
            · exact off2 p hp R (.head _)
        have N8 : News _ _ _ ((R, listOf ws.toArray k) :: (W, listOf (bvals l2).toArray 0) :: (((D, listOf us.toArray n) :: (P, listOf (bvals l).toArray 0) :: tl ++ own) ++ own2)) := N7
        clear N7
        generalize e3 : (W, listOf (bvals l2).toArray 0) :: (((D, listOf us.toArray n) :: (P, listOf (bvals l).toArray 0) :: tl ++ own) ++ own2) = r3 at N8 hne3
        try k_fold
        k_steps
        walk1
        k_steps
        · k_here
          k_dflt (cell_ask (number_of_C _ _ _ _ _ _ _ _ _ (by omega)))
          intro v9 h9 tk9 R9 F9 N9
          rcases num_cases R9 with ⟨e9, q9⟩ | ⟨i9, t9, e9, q9⟩
          · subst q9
            try dsimp only
            try k_fold
            k_steps
            refine' fret_none hret ?eG ?eF' ?eF ?_
            case eG => with_reducible assumption
            case eF => with_reducible assumption
            case eF' => with_reducible assumption
            have hr0 : rowOf pw = none := mapO_none (List.mem_of_getElem? hw1) (cell_bad (by assumption) (by assumption))
            rw [fieldsOf, if_neg hbne]
            exact mapO_none (List.mem_of_getElem? hpw) hr0
          · subst q9
            try dsimp only
            try k_fold
            k_steps
            refine' row_step e3 hc hrow hw1 ?c1 ?c2 off2 ?c3 ?c4 ?c5
            case c3 => k_asm
            case c4 => k_asm
            case c1 => exact cell_num (by assumption) (by assumption)
            case c2 => exact .int _ _
            case c5 =>
              intro z h1 h2
              have h3 : z ≠ Str.ofString "number" := by intro e; subst e; exact absurd h2 (by decide)
              simp only [if_neg h1, if_neg h3, h2, Bool.false_eq_true, if_false]
        · refine' row_step e3 hc hrow hw1 ?c1 ?c2 off2 ?c3 ?c4 ?c5
          case c3 => k_asm
          case c4 => k_asm
          case c1 => exact cell_empty (by assumption)
          case c2 => exact .none
          case c5 =>
            intro z h1 h2
            have h3 : z ≠ Str.ofString "number" := by intro e; subst e; exact absurd h2 (by decide)
            simp only [if_neg h1, if_neg h3, h2, Bool.false_eq_true, if_false]
      · intro u3 nx3 h3 tk3 hJ3 F9 N9
        obtain ⟨ws, k, row, rfl, hc, hrow⟩ := hJ3
        rw [bvals_len, e2, List.take_length] at hrow
        have hRo : ∀ p ∈ (D, listOf us.toArray n) :: (P, listOf (bvals l).toArray 0) :: tl ++ own, p.1 ≠ R := fun p hp => Nat.ne_of_lt (oR p hp)
        have N10 : News _ _ _ ((D, listOf us.toArray n) :: (R, listOf ws.toArray k) :: (P, listOf (bvals l).toArray 0) :: (tl ++ own)) := fun p hp => N9 p (by
          rcases List.mem_cons.mp hp with rfl | hp
          · exact .tail _ (.tail _ (.head _))
          · rcases List.mem_cons.mp hp with rfl | hp
            · exact .head _
            · exact .tail _ (.tail _ (.tail _ hp)))
        have hD4 : ∀ p ∈ (R, listOf ws.toArray k) :: (P, listOf (bvals l).toArray 0) :: (tl ++ own), p.1 ≠ D := by
          intro p hp
          rcases List.mem_cons.mp hp with rfl | hp
          · exact (hRo _ (.head _)).symm
          · rcases List.mem_cons.mp hp with rfl | hp
            · exact hDP.symm
            · rcases List.mem_append.mp hp with hp | hp
              · exact htl p hp
              · exact off p hp D (.head _)
        have husz := fits_of hall hfs hpw (bparts_size b 59).2 (by omega)
        clear N9
        generalize e4 : (R, listOf ws.toArray k) :: (P, listOf (bvals l).toArray 0) :: (tl ++ own) = r4 at N10 hD4
        try dsimp only
        try k_fold
        k_steps
        refine' field_step e4 (hRo _ (.head _)).symm (fun p hp => hRo p (List.mem_append_right _ hp)) htl hall hfs hpw hrow hc off ?c3 ?c4 ?c5
        case c3 => k_asm
        case c4 => k_asm
        case c5 =>
          intro z h1 h2
          have h3 : z ≠ Str.ofString "number" := by intro e; subst e; exact absurd h2 (by decide)
          have h4 : z ≠ Str.ofString "word" := by intro e; subst e; exact absurd h2 (by decide)
          have h5 : z ≠ Str.ofString "row" := by intro e; subst e; exact absurd h2 (by decide)
          have h6 : [Str.ofString "number"].contains z = false := by simpa using h3
          simp only [if_neg h1, if_neg h4, if_neg h5, h2, h6, Bool.false_eq_true, if_false]
    · intro u nx h tk hJ F11 N11
      obtain ⟨us, n, tl, fs, rfl, htl, hall, hfs⟩ := hJ
      rw [bvals_len, e1, List.take_length] at hfs
      try dsimp only
      try k_fold
      k_steps
      refine' fret_some (fs := fs) hret ?eG ?eF' ?eF ?eN ?eD ?eE
      case eG => with_reducible assumption
      case eF => with_reducible assumption
      case eF' => with_reducible assumption
      case eN => with_reducible assumption
      case eD => exact .list (.head _) (DatAll.mono (fun p hp => .tail _ (.tail _ hp)) hall)
      case eE => rw [fieldsOf, if_neg hbne, hfs]
  · have hbe : b = #[] := by
      have h : (b.toList != (#[] : Array UInt8).toList) = false := by assumption
      rw [toList_ne] at h
      simpa using h
    walk1
    k_steps
    refine' fret_some (fs := []) hret ?eG ?eF' ?eF ?eN ?eD ?eE
    case eG => with_reducible assumption
    case eF => with_reducible assumption
    case eF' => with_reducible assumption
    case eN => with_reducible assumption
    case eD => exact .list (vs := []) (ds := []) (n := 0) (by k_mem) .nil
    case eE => rw [fieldsOf, if_pos hbe]
end Mine
namespace Mine
noncomputable def keyOf (r : Option Rows) (final : Int) : Option K4 := match r with
  | none => none
  | some fs =>
    if cellV fs 1 0 1 - 1 < 0 ∨ ¬ (1 ≤ cellV fs 1 1 1 ∧ cellV fs 1 1 1 ≤ 3) then none
    else if final = 126 then byNumber fs ((cellV fs 1 0 1 - 1) % 8) (cellV fs 1 1 1)
    else if final = 117 then (if 0 < fs.length ∧ fs.length ≤ 3 then byCode (cellV fs 0 0 0) ((cellV fs 1 0 1 - 1) % 8) (cellV fs 1 1 1) else none)
    else byLetter final fs ((cellV fs 1 0 1 - 1) % 8) (cellV fs 1 1 1)
section
variable {fs : Rows} {final H e c : Int}
theorem ko_bad (hH : cellV fs 1 0 1 - 1 = H) (he : cellV fs 1 1 1 = e) (h : H < 0 ∨ ¬ (1 ≤ e ∧ e ≤ 3)) : keyOf (some fs) final = none := by
  subst hH he; unfold keyOf; dsimp only; rw [if_pos h]
theorem ko_num (hH : cellV fs 1 0 1 - 1 = H) (he : cellV fs 1 1 1 = e) (h : ¬ (H < 0 ∨ ¬ (1 ≤ e ∧ e ≤ 3))) (hf : final = 126) : keyOf (some fs) final = byNumber fs (Builtin.bitAnd H 7) e := by
  subst hH he; unfold keyOf; dsimp only; rw [if_neg h, if_pos hf, show Builtin.bitAnd (cellV fs 1 0 1 - 1) 7 = (cellV fs 1 0 1 - 1) % 8 from kbt_mask _ 3]
theorem ko_code (hH : cellV fs 1 0 1 - 1 = H) (he : cellV fs 1 1 1 = e) (h : ¬ (H < 0 ∨ ¬ (1 ≤ e ∧ e ≤ 3))) (h6 : ¬ final = 126) (hf : final = 117) (hl : 0 < fs.length ∧ fs.length ≤ 3) (hc : cellV fs 0 0 0 = c) : keyOf (some fs) final = byCode c (Builtin.bitAnd H 7) e := by
  subst hH he hc; unfold keyOf; dsimp only; rw [if_neg h, if_neg h6, if_pos hf, if_pos hl, show Builtin.bitAnd (cellV fs 1 0 1 - 1) 7 = (cellV fs 1 0 1 - 1) % 8 from kbt_mask _ 3]
theorem ko_long (hH : cellV fs 1 0 1 - 1 = H) (he : cellV fs 1 1 1 = e) (h : ¬ (H < 0 ∨ ¬ (1 ≤ e ∧ e ≤ 3))) (h6 : ¬ final = 126) (hf : final = 117) (hl : ¬ (0 < fs.length ∧ fs.length ≤ 3)) : keyOf (some fs) final = none := by
  subst hH he; unfold keyOf; dsimp only; rw [if_neg h, if_neg h6, if_pos hf, if_neg hl]
theorem ko_letter (hH : cellV fs 1 0 1 - 1 = H) (he : cellV fs 1 1 1 = e) (h : ¬ (H < 0 ∨ ¬ (1 ≤ e ∧ e ≤ 3))) (h6 : ¬ final = 126) (hf : ¬ final = 117) : keyOf (some fs) final = byLetter final fs (Builtin.bitAnd H 7) e := by
  subst hH he; unfold keyOf; dsimp only; rw [if_neg h, if_neg h6, if_neg hf, show Builtin.bitAnd (cellV fs 1 0 1 - 1) 7 = (cellV fs 1 0 1 - 1) % 8 from kbt_mask _ 3]
end
theorem and7_lo (x : Int) : 0 ≤ Builtin.bitAnd x 7 := by rw [show Builtin.bitAnd x 7 = x % 8 from kbt_mask x 3]; omega
theorem and7_hi (x : Int) : Builtin.bitAnd x 7 ≤ 7 := by rw [show Builtin.bitAnd x 7 = x % 8 from kbt_mask x 3]; omega
theorem fr_cases {r : Option Rows} {v : Value} {new : List (Addr × Obj)} (h : FieldsR r v new) : (r = none ∧ v = .none ∧ new = []) ∨ ∃ fs, r = some fs ∧ DatIn new v (rowsD fs) := by
  cases h with
  | none => exact .inl ⟨rfl, rfl, rfl⟩
  | some h => exact .inr ⟨_, rfl, h⟩
theorem row_small {p : Array UInt8} {row : List (Option Int)} (h : rowOf p = some row) : row.length ≤ p.size + 1 := by
  rw [mapO_len h]; exact (bparts_size p 58).2
theorem fields_small {b : Array UInt8} {fs : Rows} (hb : b.size ≤ 60) (h : fieldsOf b = some fs) : fs.length < 1000 ∧ ∀ r ∈ fs, r.length < 1000 := by
  unfold fieldsOf at h
  split at h
  · cases h; exact ⟨by decide, fun r hr => absurd hr List.not_mem_nil⟩
  · have h1 := mapO_len h
    have h2 := bparts_size b 59
    refine ⟨by omega, fun r hr => ?_⟩
    obtain ⟨p, hp, e⟩ := mapO_mem h hr
    have := row_small e
    have := h2.1 p hp
    omega
/-- a result handed on by a def whose caller's ledger is hidden -/
theorem kret_onK {w : World} {r r' : Option K4} {news new rest : List (Addr × Obj)} {h₀ g h' : Heap} {L L' : Addr} {m m' : Str → Option Value} {s : Shared} {Q : Value → Shared → Prop} {tk' : Nat} {v : Value} (H : KRet w r news h₀ L m s Q) (R : KeyR w r' v new) (NG : News h₀ L g news) (F' : Fr g L' h' m') (F : Fr h₀ L h' m) (N : News h₀ L h' (new ++ rest)) (E : r = r') : Q v { s with heap := h', toks := tk' } := by
  subst E
  exact H _ _ _ _ R F (news_back NG F' fun p hp => N p (List.mem_append_left _ hp))
theorem csi_C (w p loose mean mg mb) (news : List (Addr × Obj)) (b : Array UInt8) (tb tf : Tok) (final : Int) (hb : b.size ≤ 60) :
  Con w p loose mean mg mb 208 news [.bytes b tb, .int final tf] 9 80 (KRet w (keyOf (fieldsOf b) final) news) := by
  unfold Con prg
  k_fill
  intro dp un gd cn cs a ccd cl outer A₀ base h₀ L m s Q E B F X N T hk hdp hun hret
  refine wpAny_call ?_
  k_dflt ktr_enter
  k_steps
  k_here
  k_dflt (cell_ask (fields_C _ _ _ _ _ _ _ _ _ (by assumption)))
  intro v9 h9 tk9 new9 R9 F9 N9
  simp only [List.append_nil] at N9
  rcases fr_cases R9 with ⟨e9, q9, p9⟩ | ⟨fs, e9, D9⟩
  · subst q9 p9
    try dsimp only
    try k_fold
    k_steps
    refine' kret_endN (rest := []) hret ?eG ?eF' ?eF ?_
    case eG => with_reducible assumption
    case eF => with_reducible assumption
    case eF' => with_reducible assumption
    rw [e9]; rfl
  · have D8 := D9
    obtain ⟨l9, vs9, n9, q9, m9, dd9, len9⟩ := rows_open D8
    subst q9
    obtain ⟨s8, s7⟩ := fields_small hb e9
    rw [e9] at hret
    try dsimp only
    try k_fold
    k_steps
    k_here
    k_dflt (cell_ask (field_C _ _ _ _ _ _ _ _ _ _ _ _ _ _ _ (by assumption) (by decide) (by decide) (by decide) (by decide) (by assumption) (by assumption)))
    intro t9 h9 tk9 F9 N9
    try dsimp only
    try k_fold
    k_steps
    k_here
    k_dflt (cell_ask (field_C _ _ _ _ _ _ _ _ _ _ _ _ _ _ _ (by assumption) (by decide) (by decide) (by decide) (by decide) (by assumption) (by assumption)))
    intro t9 h9 tk9 F9 N9
    try dsimp only
    try k_fold
    have a8 := and7_lo (cellV fs (Int.toNat 1) (Int.toNat 0) 1 - 1)
    have a7 := and7_hi (cellV fs (Int.toNat 1) (Int.toNat 0) 1 - 1)
    k_steps
    · refine' kret_endN (rest := []) hret ?eG ?eF' ?eF (ko_bad (H := cellV fs (Int.toNat 1) (Int.toNat 0) 1 - 1) (e := cellV fs (Int.toNat 1) (Int.toNat 1) 1) rfl rfl (by omega))
      case eG => with_reducible assumption
      case eF => with_reducible assumption
      case eF' => with_reducible assumption
    · k_here
      k_dflt (cell_ask (by_number_C _ _ _ _ _ _ _ _ _ _ _ _ _ (by assumption) (by assumption) (by assumption) (by assumption) (by assumption)))
      intro v9 h9 tk9 new9 R9 F9 N9
      try dsimp only
      try k_fold
      k_steps
      refine' kret_onK hret R9 ?eG ?eF' ?eF ?eN (ko_num (H := cellV fs (Int.toNat 1) (Int.toNat 0) 1 - 1) (e := cellV fs (Int.toNat 1) (Int.toNat 1) 1) rfl rfl (by omega) (by assumption))
      case eG => with_reducible assumption
      case eF => with_reducible assumption
      case eN => with_reducible assumption
      case eF' => with_reducible assumption
    · walk1
      k_steps
      · k_here
        k_dflt (cell_ask (field_C _ _ _ _ _ _ _ _ _ _ _ _ _ _ _ (by assumption) (by decide) (by decide) (by decide) (by decide) (by assumption) (by assumption)))
        intro t9 h9 tk9 F9 N9
        try dsimp only
        try k_fold
        k_steps
        k_here
        k_dflt (cell_ask (by_code_C _ _ _ _ _ _ _ _ _ _ _ _ _ (by assumption) (by assumption)))
        intro v9 h9 tk9 new9 R9 F9 N9
        try dsimp only
        try k_fold
        k_steps
        refine' kret_onK hret R9 ?eG ?eF' ?eF ?eN (ko_code (H := cellV fs (Int.toNat 1) (Int.toNat 0) 1 - 1) (e := cellV fs (Int.toNat 1) (Int.toNat 1) 1) rfl rfl (by omega) (by assumption) (by assumption) (by omega) rfl)
        case eG => with_reducible assumption
        case eF => with_reducible assumption
        case eN => with_reducible assumption
        case eF' => with_reducible assumption
      all_goals (refine' kret_endN (rest := []) hret ?eG ?eF' ?eF (ko_long (H := cellV fs (Int.toNat 1) (Int.toNat 0) 1 - 1) (e := cellV fs (Int.toNat 1) (Int.toNat 1) 1) rfl rfl (by omega) (by assumption) (by assumption) (by omega)); (case eG => with_reducible assumption); (case eF => with_reducible assumption); (case eF' => with_reducible assumption))
    · k_here
      k_dflt (cell_ask (by_letter_C _ _ _ _ _ _ _ _ _ _ _ _ _ _ _ (by assumption) (by assumption) (by assumption) (by assumption) (by assumption)))
      intro v9 h9 tk9 new9 R9 F9 N9
      try dsimp only
      try k_fold
      k_steps
      refine' kret_onK hret R9 ?eG ?eF' ?eF ?eN (ko_letter (H := cellV fs (Int.toNat 1) (Int.toNat 0) 1 - 1) (e := cellV fs (Int.toNat 1) (Int.toNat 1) 1) rfl rfl (by omega) (by assumption) (by assumption))
      case eG => with_reducible assumption
      case eF => with_reducible assumption
      case eN => with_reducible assumption
      case eF' => with_reducible assumption
    · refine' kret_endN (rest := []) hret ?eG ?eF' ?eF (ko_bad (H := cellV fs (Int.toNat 1) (Int.toNat 0) 1 - 1) (e := cellV fs (Int.toNat 1) (Int.toNat 1) 1) rfl rfl (by omega))
      case eG => with_reducible assumption
      case eF => with_reducible assumption
      case eF' => with_reducible assumption
    · refine' kret_endN (rest := []) hret ?eG ?eF' ?eF (ko_bad (H := cellV fs (Int.toNat 1) (Int.toNat 0) 1 - 1) (e := cellV fs (Int.toNat 1) (Int.toNat 1) 1) rfl rfl (by omega))
      case eG => with_reducible assumption
      case eF => with_reducible assumption
      case eF' => with_reducible assumption
end Mine
namespace Mine
theorem rows_get (n : Int) (t0 u0 t1 u1 t2 u2 t3 u3 t4 u4 t5 u5 t6 u6 t7 u7 : Tok) (hr : n < 11 ∨ n = 16 ∨ n = 22 ∨ n = 27 ∨ n = 30 ∨ 34 < n) : NameR (numName n) ((valueAt (intKeyPairs [(.int 2 t0, .bytes #[73, 110, 115, 101, 114, 116] u0), (.int 3 t1, .bytes #[68, 101, 108, 101, 116, 101] u1), (.int 5 t2, .bytes #[80, 97, 103, 101, 85, 112] u2), (.int 6 t3, .bytes #[80, 97, 103, 101, 68, 111, 119, 110] u3), (.int 1 t4, .bytes #[72, 111, 109, 101] u4), (.int 7 t5, .bytes #[72, 111, 109, 101] u5), (.int 4 t6, .bytes #[69, 110, 100] u6), (.int 8 t7, .bytes #[69, 110, 100] u7)]) n).getD .none) := by
  by_cases h2 : n = 2
  · subst h2; exact .some _ _
  by_cases h3 : n = 3
  · subst h3; exact .some _ _
  by_cases h5 : n = 5
  · subst h5; exact .some _ _
  by_cases h6 : n = 6
  · subst h6; exact .some _ _
  by_cases h1 : n = 1
  · subst h1; exact .some _ _
  by_cases h7 : n = 7
  · subst h7; exact .some _ _
  by_cases h4 : n = 4
  · subst h4; exact .some _ _
  by_cases h8 : n = 8
  · subst h8; exact .some _ _
  have e1 : numName n = none := by
    unfold numName
    have a : findIn1 numberTable n = none := by simp only [numberTable, findIn1]; repeat' (rw [if_neg (by omega)])
    have b : findIn1 otherTable n = none := by simp only [otherTable, findIn1]; repeat' (rw [if_neg (by omega)])
    rw [a, b]
  rw [e1]
  simp only [valueAt, intKeyPairs, List.find?]
  repeat' (rw [show (decide (_ = n)) = false from decide_eq_false (by omega)])
  exact .none
theorem num_one (b f n : Int) (h : (b = 11 ∧ f = 1 ∧ 11 ≤ n ∧ n ≤ 15) ∨ (b = 17 ∧ f = 6 ∧ 17 ≤ n ∧ n ≤ 20)) : numName n = some #[70, (48 + (f + n - b)).toNat.toUInt8] := by
  rcases h with ⟨rfl, rfl, h1, h2⟩ | ⟨rfl, rfl, h1, h2⟩
  · rcases (by omega : n = 11 ∨ n = 12 ∨ n = 13 ∨ n = 14 ∨ n = 15) with rfl | rfl | rfl | rfl | rfl <;> decide
  · rcases (by omega : n = 17 ∨ n = 18 ∨ n = 19 ∨ n = 20) with rfl | rfl | rfl | rfl <;> decide
theorem num_two (b f n : Int) (h : (b = 17 ∧ f = 6 ∧ n = 21) ∨ (b = 23 ∧ f = 11 ∧ 23 ≤ n ∧ n ≤ 24) ∨ (b = 25 ∧ f = 13 ∧ 25 ≤ n ∧ n ≤ 26) ∨ (b = 28 ∧ f = 15 ∧ 28 ≤ n ∧ n ≤ 29) ∨ (b = 31 ∧ f = 17 ∧ 31 ≤ n ∧ n ≤ 33)) : numName n = some #[70, (Int.toNat 49).toUInt8, (38 + (f + n - b)).toNat.toUInt8] := by
  rcases h with ⟨rfl, rfl, rfl⟩ | ⟨rfl, rfl, h1, h2⟩ | ⟨rfl, rfl, h1, h2⟩ | ⟨rfl, rfl, h1, h2⟩ | ⟨rfl, rfl, h1, h2⟩
  · decide
  · rcases (by omega : n = 23 ∨ n = 24) with rfl | rfl <;> decide
  · rcases (by omega : n = 25 ∨ n = 26) with rfl | rfl <;> decide
  · rcases (by omega : n = 28 ∨ n = 29) with rfl | rfl <;> decide
  · rcases (by omega : n = 31 ∨ n = 32 ∨ n = 33) with rfl | rfl | rfl <;> decide
theorem num_last (n : Int) (h : n = 34) : numName n = some #[70, 50, 48] := by subst h; decide
theorem fold_tuple (a : List PySem.Expr) (b : Nat) (c : Pos) (env : Env) (x : Value) : foldedSetIterable (PySem.Expr.Tuple a b c) env x = pure x := rfl
/-- the ranges that the law's own rows tell -/
noncomputable def numTab : List (Int × Int × Int) := [(11, 15, 1), (17, 21, 6), (23, 24, 11), (25, 26, 13), (28, 29, 15), (31, 34, 17)]
noncomputable def TripsN (news : List (Addr × Obj)) : List Value → List (Int × Int × Int) → Prop
  | [], [] => True
  | v :: vs, (b, l, f) :: r => (∃ a t u q, v = .ref a ∧ (a, ({ cls := .type "tuple", data := .seq #[.int b t, .int l u, .int f q] } : Obj)) ∈ news) ∧ TripsN news vs r
  | _, _ => False
theorem trips_at {news : List (Addr × Obj)} : ∀ {vs : List Value} {tab : List (Int × Int × Int)} {i : Nat} {v : Value}, TripsN news vs tab → vs[i]? = some v → ∃ b l f a t u q, tab[i]? = some (b, l, f) ∧ v = .ref a ∧ (a, ({ cls := .type "tuple", data := .seq #[.int b t, .int l u, .int f q] } : Obj)) ∈ news
  | [], _, i, v, _, h => by simp at h
  | _ :: _, [], i, v, r, _ => (show False from r).elim
  | x :: vs, (b, l, f) :: tab, 0, v, ⟨⟨a, t, u, q, e, hl⟩, _⟩, h => by
    simp only [List.getElem?_cons_zero, Option.some.injEq] at h
    subst h
    exact ⟨b, l, f, a, t, u, q, rfl, e, hl⟩
  | x :: vs, (b, l, f) :: tab, i + 1, v, ⟨_, r⟩, h => by
    rw [List.getElem?_cons_succ] at h ⊢
    exact trips_at r h
theorem trips_in {news : List (Addr × Obj)} {h₀ h : Heap} {L I : Addr} {o : Obj} {vs : List Value} {i : Nat} {v : Value} (_ : News h₀ L h ((I, o) :: news)) (hv : vs[i]? = some v) (T : TripsN news vs numTab) : ∃ b l f a t u q, numTab[i]? = some (b, l, f) ∧ v = .ref a ∧ (a, ({ cls := .type "tuple", data := .seq #[.int b t, .int l u, .int f q] } : Obj)) ∈ news := trips_at T hv
theorem trip_is {i : Nat} {b l f : Int} (h : numTab[i]? = some (b, l, f)) : (b = 11 ∧ l = 15 ∧ f = 1) ∨ (b = 17 ∧ l = 21 ∧ f = 6) ∨ (b = 23 ∧ l = 24 ∧ f = 11) ∨ (b = 25 ∧ l = 26 ∧ f = 13) ∨ (b = 28 ∧ l = 29 ∧ f = 15) ∨ (b = 31 ∧ l = 34 ∧ f = 17) := by
  have hm := List.mem_of_getElem? h
  simp only [numTab, List.mem_cons, Prod.mk.injEq, List.not_mem_nil, or_false] at hm
  exact hm
noncomputable def TripD (b l f : Int) : Prop := (b = 11 ∧ l = 15 ∧ f = 1) ∨ (b = 17 ∧ l = 21 ∧ f = 6) ∨ (b = 23 ∧ l = 24 ∧ f = 11) ∨ (b = 25 ∧ l = 26 ∧ f = 13) ∨ (b = 28 ∧ l = 29 ∧ f = 15) ∨ (b = 31 ∧ l = 34 ∧ f = 17)
theorem trip_fig {b l f : Int} (h : TripD b l f) : 1 ≤ f ∧ f + l - b ≤ 20 := by
  rcases h with ⟨rfl, rfl, rfl⟩ | ⟨rfl, rfl, rfl⟩ | ⟨rfl, rfl, rfl⟩ | ⟨rfl, rfl, rfl⟩ | ⟨rfl, rfl, rfl⟩ | ⟨rfl, rfl, rfl⟩ <;> decide
theorem fig_one {b l f n : Int} (h : TripD b l f) (h1 : b ≤ n) (h2 : n ≤ l) (h3 : ¬ 10 ≤ f + n - b) : numName n = some #[70, (48 + (f + n - b)).toNat.toUInt8] := by
  apply num_one
  rcases h with ⟨rfl, rfl, rfl⟩ | ⟨rfl, rfl, rfl⟩ | ⟨rfl, rfl, rfl⟩ | ⟨rfl, rfl, rfl⟩ | ⟨rfl, rfl, rfl⟩ | ⟨rfl, rfl, rfl⟩
  · exact .inl ⟨rfl, rfl, h1, h2⟩
  · exact .inr ⟨rfl, rfl, h1, by omega⟩
  all_goals (exfalso; omega)
theorem fig_two {b l f n : Int} (h : TripD b l f) (h1 : b ≤ n) (h2 : n ≤ l) (h3 : 10 ≤ f + n - b) (h4 : f + n - b < 20) : numName n = some #[70, (Int.toNat 49).toUInt8, (38 + (f + n - b)).toNat.toUInt8] := by
  apply num_two
  rcases h with ⟨rfl, rfl, rfl⟩ | ⟨rfl, rfl, rfl⟩ | ⟨rfl, rfl, rfl⟩ | ⟨rfl, rfl, rfl⟩ | ⟨rfl, rfl, rfl⟩ | ⟨rfl, rfl, rfl⟩
  · exfalso; omega
  · exact .inl ⟨rfl, rfl, by omega⟩
  · exact .inr (.inl ⟨rfl, rfl, h1, h2⟩)
  · exact .inr (.inr (.inl ⟨rfl, rfl, h1, h2⟩))
  · exact .inr (.inr (.inr (.inl ⟨rfl, rfl, h1, h2⟩)))
  · exact .inr (.inr (.inr (.inr ⟨rfl, rfl, h1, by omega⟩)))
theorem fig_last {b l f n : Int} (h : TripD b l f) (h1 : b ≤ n) (h2 : n ≤ l) (h3 : f + n - b = 20) : numName n = some #[70, 50, 48] := by
  apply num_last
  rcases h with ⟨rfl, rfl, rfl⟩ | ⟨rfl, rfl, rfl⟩ | ⟨rfl, rfl, rfl⟩ | ⟨rfl, rfl, rfl⟩ | ⟨rfl, rfl, rfl⟩ | ⟨rfl, rfl, rfl⟩ <;> omega
noncomputable def Out (n : Int) (i : Nat) : Prop := ∀ r ∈ numTab.take i, ¬ (r.1 ≤ n ∧ n ≤ r.2.1)
theorem out_next {n b l f : Int} {i : Nat} (h : Out n i) (e : numTab[i]? = some (b, l, f)) (hn : ¬ (b ≤ n ∧ n ≤ l)) : Out n (i + 1) := by
  intro r hr
  rw [List.take_add_one, e] at hr
  rcases List.mem_append.mp hr with hr | hr
  · exact h r hr
  · simp only [Option.toList, List.mem_singleton] at hr
    rw [hr]; exact hn
theorem out_all {n : Int} (h : Out n 6) : n < 11 ∨ n = 16 ∨ n = 22 ∨ n = 27 ∨ n = 30 ∨ 34 < n := by
  have h1 := h (11, 15, 1) (by decide)
  have h2 := h (17, 21, 6) (by decide)
  have h3 := h (23, 24, 11) (by decide)
  have h4 := h (25, 26, 13) (by decide)
  have h5 := h (28, 29, 15) (by decide)
  have h6 := h (31, 34, 17) (by decide)
  dsimp only at h1 h2 h3 h4 h5 h6
  omega
theorem lnum_C (w p loose mean mg mb) (news : List (Addr × Obj)) (n : Int) (tn : Tok) :
  Con w p loose mean mg mb 251 news [.int n tn] 2 60 (NRet (numName n) news) := by
  unfold Con prg
  k_fill
  intro dp un gd cn cs a ccd cl outer A₀ base h₀ L m s Q E B F X N T hk hdp hun hret
  refine wpAny_call ?_
  k_dflt ktr_enter
  k_steps
  k_here
  rename Fr _ _ _ _ => lF'
  with_reducible refine' For_turns lF' ?_ ?hs ?hE
  case hs => intro x; exact fold_tuple _ _ _ _ _
  case hE => passes_own
  k_whole
  k_steps
  k_here
  rename News _ _ _ _ => NN
  with_unfolding_all refine' loopM ["begin", "last", "first"] (Out n) ?hh ?F NN (.head _) rfl rfl ?hj ?turn ?done
  case hh => rfl
  case F => k_asm
  case hj => exact fun r hr => absurd hr List.not_mem_nil
  case turn =>
    intro i v u I o h tk hv hJ hI F3 N3
    obtain ⟨b, l, f, a', t, u', q, htab, rfl, hl⟩ := trips_in N3 hv (by repeat (first | exact True.intro | refine ⟨⟨_, _, _, _, rfl, by repeat (first | exact List.Mem.head _ | apply List.Mem.tail)⟩, ?_⟩))
    have hrow : TripD b l f := trip_is htab
    obtain ⟨hf1, hf2⟩ := trip_fig hrow
    k_here
    with_unfolding_all refine' unpackN_ F3 N3 (News.isTup N3 (.tail _ hl)) rfl rfl rfl ?_
    intro h' F' N'
    try k_fold
    k_steps
    · walk1
      k_steps
      all_goals (try (walk1; k_steps))
      all_goals (refine' nret_some hret ?eG ?eF' ?eF ?_; (case eG => with_reducible assumption); (case eF => with_reducible assumption); (case eF' => with_reducible assumption); first | exact fig_one hrow (by assumption) (by assumption) (by omega) | exact fig_two hrow (by assumption) (by assumption) (by omega) (by omega) | exact fig_last hrow (by assumption) (by assumption) (by omega) | (exfalso; omega))
    · refine' turn_end ?eF ?eN hI (fun p hp => hp) ?em (out_next hJ htab (by omega))
      case eF => k_asm
      case eN => k_asm
      case em =>
        intro z h2
        have h4 : z ≠ Str.ofString "begin" := by intro e; subst e; exact absurd h2 (by decide)
        have h5 : z ≠ Str.ofString "last" := by intro e; subst e; exact absurd h2 (by decide)
        have h6 : z ≠ Str.ofString "first" := by intro e; subst e; exact absurd h2 (by decide)
        simp only [if_neg h4, if_neg h5, if_neg h6, h2, Bool.false_eq_true, if_false]
    · refine' turn_end ?eF ?eN hI (fun p hp => hp) ?em (out_next hJ htab (by omega))
      case eF => k_asm
      case eN => k_asm
      case em =>
        intro z h2
        have h4 : z ≠ Str.ofString "begin" := by intro e; subst e; exact absurd h2 (by decide)
        have h5 : z ≠ Str.ofString "last" := by intro e; subst e; exact absurd h2 (by decide)
        have h6 : z ≠ Str.ofString "first" := by intro e; subst e; exact absurd h2 (by decide)
        simp only [if_neg h4, if_neg h5, if_neg h6, h2, Bool.false_eq_true, if_false]
  case done =>
    intro u h tk hJ F3 N3
    have hout := out_all hJ
    try dsimp only
    try k_fold
    k_steps
    k_here
    k_dflt (refine' dget ?k1 ?k2 ?k3 ?k4 ?_; (case k1 => k_asm); (case k2 => k_mem); (case k3 => assumption); (case k4 => assumption))
    k_steps
    refine' nret_any hret ?eG ?eF' ?eF ?_
    case eG => with_reducible assumption
    case eF => with_reducible assumption
    case eF' => with_reducible assumption
    exact rows_get _ _ _ _ _ _ _ _ _ _ _ _ _ _ _ _ _ (by omega)
end Mine
namespace Mine
inductive DueR : Option K4 → Value → List (Addr × Obj) → Prop
  | none : DueR none .none []
  | some (n : Array UInt8) (c h e : Int) (x : Addr) (t1 t2 t3 t4 : Tok) : DueR (some (n, c, h, e)) (.ref x) [(x, { cls := .type "tuple", data := .seq #[.bytes n t1, .int c t2, .int h t3, .int e t4] })]
abbrev DRet (r : Option K4) (news : List (Addr × Obj)) (h₀ : Heap) (L : Addr) (m : Str → Option Value) (s : Shared) (Q : Value → Shared → Prop) : Prop :=
  ∀ (v : Value) (h' : Heap) (tk' : Nat) (new : List (Addr × Obj)), DueR r v new → Fr h₀ L h' m → News h₀ L h' (new ++ news) → Q v { s with heap := h', toks := tk' }
theorem dret_none {r : Option K4} {news : List (Addr × Obj)} {h₀ g h' : Heap} {L L' : Addr} {m m' : Str → Option Value} {s : Shared} {Q : Value → Shared → Prop} {tk' : Nat} (H : DRet r news h₀ L m s Q) (NG : News h₀ L g news) (F' : Fr g L' h' m') (F : Fr h₀ L h' m) (E : r = none) : Q .none { s with heap := h', toks := tk' } := by
  subst E
  exact H _ _ _ [] .none F (news_back NG F' News.nil)
theorem dret_some {r : Option K4} {news rest : List (Addr × Obj)} {h₀ g h' : Heap} {L L' : Addr} {m m' : Str → Option Value} {s : Shared} {Q : Value → Shared → Prop} {tk' : Nat} {n : Array UInt8} {c h e : Int} {x : Addr} {t1 t2 t3 t4 : Tok} (H : DRet r news h₀ L m s Q) (NG : News h₀ L g news) (F' : Fr g L' h' m') (F : Fr h₀ L h' m)
    (N : News h₀ L h' ((x, { cls := .type "tuple", data := .seq #[.bytes n t1, .int c t2, .int h t3, .int e t4] }) :: rest)) (E : r = some (n, c, h, e)) : Q (.ref x) { s with heap := h', toks := tk' } := by
  subst E
  exact H _ _ _ _ (.some n c h e x t1 t2 t3 t4) F (news_back NG F' fun p hp => N p (List.mem_cons.mpr (.inl (List.mem_singleton.mp hp))))
noncomputable def Aligned : List (Int × Value) → List (Int × Array UInt8) → Prop
  | [], [] => True
  | (k, v) :: r, (k', b) :: r' => k = k' ∧ (∃ t, v = .bytes b t) ∧ Aligned r r'
  | _, _ => False
theorem al_get : ∀ (kvs : List (Int × Value)) (tab : List (Int × Array UInt8)) (i : Int), Aligned kvs tab → (∃ b t, valueAt kvs i = some (.bytes b t) ∧ findIn1 tab i = some b) ∨ (valueAt kvs i = none ∧ findIn1 tab i = none)
  | [], [], i, _ => .inr ⟨rfl, rfl⟩
  | [], _ :: _, _, h => (show False from h).elim
  | _ :: _, [], _, h => (show False from h).elim
  | (k, v) :: r, (k', b) :: r', i, h => by
    obtain ⟨rfl, ⟨t, rfl⟩, h⟩ := h
    by_cases e : k = i
    · refine .inl ⟨b, t, ?_, ?_⟩
      · simp [valueAt, e]
      · simp [findIn1, e]
    · have := al_get r r' i h
      have e1 : valueAt ((k, .bytes b t) :: r) i = valueAt r i := by simp [valueAt, e]
      have e2 : findIn1 ((k, b) :: r') i = findIn1 r' i := by simp [findIn1, e]
      rw [e1, e2]; exact this
theorem al_length : ∀ {kvs : List (Int × Value)} {tab : List (Int × Array UInt8)}, Aligned kvs tab → kvs.length = tab.length
  | [], [], _ => rfl
  | [], _ :: _, h => (show False from h).elim
  | _ :: _, [], h => (show False from h).elim
  | (_, _) :: r, (_, _) :: r', h => by simp [al_length h.2.2]
theorem al_snoc : ∀ {kvs : List (Int × Value)} {tab : List (Int × Array UInt8)} {k : Int} {b : Array UInt8} {t : Tok}, Aligned kvs tab → Aligned (kvs ++ [(k, .bytes b t)]) (tab ++ [(k, b)])
  | [], [], _, _, _, _ => ⟨rfl, ⟨_, rfl⟩, trivial⟩
  | [], _ :: _, _, _, _, h => (show False from h).elim
  | _ :: _, [], _, _, _, h => (show False from h).elim
  | (_, _) :: r, (_, _) :: r', _, _, _, h => ⟨h.1, h.2.1, al_snoc h.2.2⟩
section
variable {prog : Program} {w : World} {A : Around} {E : Value → Shared → Prop} {s : Shared} {h₀ : Heap} {L d : Addr} {m : Str → Option Value} {news : List (Addr × Obj)} {o : Obj} {kvs : List (Int × Value)} {tab : List (Int × Array UInt8)}
theorem din_al {i : Int} {t : Tok} {Q : Value → Shared → Prop} (N : News h₀ L s.heap news) (hm : (d, o) ∈ news) (hd : Obj.IsDictOf (intKind prog w) o kvs) (lo : (d == sysModules) = false)
    (al : Aligned kvs tab) (h1 : ∀ b t, valueAt kvs i = some (.bytes b t) → findIn1 tab i = some b → Q (.bool true) { s with toks := s.toks + 1 }) (h0 : findIn1 tab i = none → Q (.bool false) { s with toks := s.toks + 1 }) :
    wpAny (model prog w) A (compareOp .In (.int i t) (.ref d)) Q E s := by
  refine din N hm hd lo ?_
  rcases al_get kvs tab i al with ⟨b, t, e1, e2⟩ | ⟨e1, e2⟩
  · rw [e1]; exact h1 b t e1 e2
  · rw [e1]; exact h0 e2
theorem set_al {g : Obj → List (Addr × Obj)} {k : Int} {u t : Tok} {b : Array UInt8} {Q : Unit → Shared → Prop} (F : Fr h₀ L s.heap m) (N : News h₀ L s.heap news) (U : UpdF d o news g) (hd : o.IsDictOf (intKind prog w) kvs) (al : Aligned kvs tab) (hno : findIn1 tab k = none) (hl : tab.length ≤ 1000)
    (h : ∀ h' o' kvs', Fr h₀ L h' m → News h₀ L h' (g o') → o'.IsDictOf (intKind prog w) kvs' → Aligned kvs' (tab ++ [(k, b)]) → Q () { s with heap := h', toks := s.toks + 1 }) : wpAny (model prog w) A (setItem (.ref d) (.int k u) (.bytes b t)) Q E s := by
  refine kda_set F N U hd (intKind_is prog w k u) (by rw [al_length al, sizeLine_eq]; omega) fun h' o' F' N' hd' => ?_
  have e : valueAt kvs k = none := by
    rcases al_get kvs tab k al with ⟨b, t, _, e2⟩ | ⟨e1, _⟩
    · rw [hno] at e2; cases e2
    · exact e1
  rw [stored_absent e] at hd'
  exact h h' o' _ F' N' hd' (al_snoc al)
end
/-- the signs that the law's own list has -/
noncomputable def padSigns : List UInt8 := [48, 49, 50, 51, 52, 53, 54, 55, 56, 57, 46, 47, 42, 45, 43]
theorem pad_all : ∀ i : Nat, i < 15 → padTable[i]? = some (57399 + (i : Int), #[75, 80, padSigns.getD i 0]) := by decide
theorem pad_new : ∀ i : Nat, i < 15 → findIn1 (codeTable ++ padTable.take i) (57399 + (i : Int)) = none := by decide
theorem pad_step {i : Nat} {c : UInt8} (h : padSigns[i]? = some c) : codeTable ++ padTable.take (i + 1) = codeTable ++ padTable.take i ++ [(57399 + (i : Int), ([75, 80] ++ [(c.toNat : Int)].map fun n : Int => n.toNat.toUInt8).toArray)] := by
  have hi : i < 15 := (List.getElem?_eq_some_iff.mp h).1
  have e := pad_all i hi
  have hc : padSigns.getD i 0 = c := by rw [List.getD_eq_getElem?_getD, h]; rfl
  rw [hc] at e
  rw [List.take_add_one, e, List.append_assoc]
  simp
section
variable {prog : Program} {w : World} {A : Around} {E : Value → Shared → Prop} {s : Shared} {env : Env} {h₀ : Heap} {target : PySem.Expr} {body : List Stmt} {Q : Flow → Shared → Prop}
theorem frame_of {st : List Str} {m m₀ : Str → Option Value} {L : Addr} {h : Heap} (hm : ∀ z, st.contains z = false → m z = m₀ z) (F : Fr h₀ L h m) : Fr h₀ L h (fun y => if st.contains y then m y else m₀ y) := by
  have e : m = fun y => if st.contains y then m y else m₀ y := by
    funext y
    by_cases h2 : st.contains y = true
    · rw [if_pos h2]
    · rw [if_neg h2]; exact hm y (by simpa using h2)
  rw [← e]; exact F
/-- pairs one by one, the ledger turned -/
theorem items_indG {xs : List Itm} {I : Addr} {n1 n2 : String} (R : Nat → (Str → Option Value) → List (Addr × Obj) → Prop)
    (turn : ∀ i a m nx v o1 o2 h tk, xs[i]? = some a → R i m nx → a.Is v h → Fr h₀ env.locals h m → News h₀ env.locals h ((I + 1, o1) :: (I, o2) :: nx) →
      wpAny (model prog w) A (assign target env v) (fun _ s₂ => wpAny (model prog w) A (execs body env) (InvPostG h₀ env.locals (fun m' nx' => R (i + 1) m' nx') [(I + 1, o1), (I, o2)] { s with heap := h, toks := tk } Q) E s₂) E { s with heap := h, toks := tk })
    (done : ∀ m nx h tk, R xs.length m nx → Fr h₀ env.locals h m → News h₀ env.locals h nx → Q .next { s with heap := h, toks := tk }) :
    ∀ (k i : Nat) (m : Str → Option Value) (nx : List (Addr × Obj)), i + k = xs.length → R i m nx → ItemsRest prog w A E h₀ env target body Q s [(I + 1, n1), (I, n2)] [] (xs.drop i) m nx := by
  intro k
  induction k with
  | zero =>
    intro i m nx hi hr
    rw [List.drop_eq_nil_of_le (by omega)]
    intro h tk F N
    have : i = xs.length := by omega
    subst this
    exact done m nx h tk hr F N
  | succ k ih =>
    intro i m nx hi hr
    have hlt : i < xs.length := by omega
    rw [List.drop_eq_getElem_cons hlt]
    intro v h tk hv F o1 hc1 o2 hc2 N
    refine wpAny_mono (turn i _ m nx v o1 o2 h tk (List.getElem?_eq_getElem hlt) hr hv F N) (fun _ s₂ h₂ => wpAny_mono h₂ (fun f s₃ p => ?_) fun _ _ e => e) fun _ _ e => e
    have fin : InvEndG h₀ env.locals (fun m' nx' => R (i + 1) m' nx') [(I + 1, o1), (I, o2)] { s with heap := h, toks := tk } s₃ →
        UnrEndW h₀ env.locals { s with heap := h, toks := tk } [(I + 1, o1), (I, o2)] (fun m' n' => SubL [] n' ∧ ItemsRest prog w A E h₀ env target body Q s [(I + 1, n1), (I, n2)] [] (xs.drop (i + 1)) m' n') s₃ := by
      rintro ⟨h', tk', m', news', nx', e, F', N', hn, ho, ha, hr'⟩
      refine ⟨h', tk', m', nx', e, F', fun p hp => ?_, fun p hp q hq e => ?_, trivial, ih (i + 1) m' nx' (by omega) hr'⟩
      · rcases List.mem_append.mp hp with hp | hp
        · exact N' p (ho p hp)
        · exact N' p (hn p hp)
      · exact ha q hq p.1 (List.mem_map.mpr ⟨p, hp, rfl⟩) e.symm
    cases f with
    | ret v => exact p
    | brk => exact p
    | next => exact fin p
    | cont => exact fin p
end
section
variable {prog : Program} {w : World} {A : Around} {E : Value → Shared → Prop} {s : Shared} {env : Env} {h₀ : Heap} {body : List Stmt} {Q : Flow → Shared → Prop}
/-- a loop over the signs of bytes with their places; one object of the ledger is turned -/
theorem loopE {elts : List PySem.Expr} {k : Nat} {pos : Pos} {b : Array UInt8} {tb : Tok} {m₀ : Str → Option Value} {d : Addr} {o₀ : Obj} (st : List Str) (J : Nat → Obj → Prop)
    (hh : A.handled = none) (F : Fr h₀ env.locals s.heap m₀) (N : News h₀ env.locals s.heap [(d, o₀)]) (hj : J 0 o₀)
    (turn : ∀ i (c : UInt8) T t t' (u : Str → Option Value) I o o1 o2 h tk, b.toList[i]? = some c → J i o → @LT.lt Nat instLTNat d I → IsTup h T #[.int (i : Int) t, .int (c.toNat : Int) t'] → Fr h₀ env.locals h (fun y => if st.contains y then u y else m₀ y) → News h₀ env.locals h [(I + 1, o1), (I, o2), (d, o)] →
      wpAny (model prog w) A (assign (.Tuple elts k pos) env (.ref T)) (fun _ s₂ => wpAny (model prog w) A (execs body env) (InvPostG h₀ env.locals (fun m' nx' => ∃ o', nx' = [(d, o')] ∧ J (i + 1) o' ∧ ∀ z, st.contains z = false → m' z = m₀ z) [(I + 1, o1), (I, o2)] { s with heap := h, toks := tk } Q) E s₂) E { s with heap := h, toks := tk })
    (done : ∀ (u : Str → Option Value) o h tk, J b.toList.length o → Fr h₀ env.locals h (fun y => if st.contains y then u y else m₀ y) → News h₀ env.locals h [(d, o)] → Q .next { s with heap := h, toks := tk }) :
    wpAny (model prog w) A (call (.type "enumerate") [.bytes b tb]) (fun xv s₁ => wpAny (model prog w) A (pyIter xv) (fun it s₂ => TurnsAt prog w A h₀ env (.Tuple elts k pos) body Q E it s₂) E s₁) E s := by
  refine ktu_enB (xs := enumB 0 b.toList) hh F N rfl fun I hI => ?_
  refine items_indG (xs := enumB 0 b.toList) (fun i m nx => ∃ o, nx = [(d, o)] ∧ J i o ∧ ∀ z, st.contains z = false → m z = m₀ z) ?_ ?_ (enumB 0 b.toList).length 0 m₀ _ (by omega) ⟨o₀, rfl, hj, fun _ _ => rfl⟩
  · rintro i a m nx v o1 o2 h tk ha ⟨o, rfl, hJ, hm⟩ hv F' N'
    have hlt : i < b.toList.length := by
      have := (List.getElem?_eq_some_iff.mp ha).1
      rwa [enumB_length] at this
    have hc : b.toList[i]? = some b.toList[i] := List.getElem?_eq_getElem hlt
    have e := enumB_get b.toList 0 i hc
    rw [Nat.zero_add] at e
    rw [e] at ha
    cases ha
    obtain ⟨T, t, x, rfl, hx, hT⟩ := hv
    cases hx h with
    | int _ t' => exact turn i _ T t t' m I o o1 o2 h tk hc hJ (hI _ (.head _)) hT (frame_of hm F') N'
  · rintro m nx h tk ⟨o, rfl, hJ, hm⟩ F' N'
    rw [enumB_length] at hJ
    exact done m o h tk hJ (frame_of hm F') N'
end
theorem turn_endE {m₀ m' : Str → Option Value} {all : List (Addr × Obj)} {I L d : Addr} {o' o1 o2 : Obj} {st : List Str} {J : Obj → Prop} {h₀ : Heap} {s₁ : Shared} {h' : Heap} {tk : Nat} (F : Fr h₀ L h' m') (N : News h₀ L h' all) (hd : d < I) (h1 : (d, o') ∈ all) (h2 : (I + 1, o1) ∈ all) (h3 : (I, o2) ∈ all)
    (hm : ∀ z, st.contains z = false → m' z = m₀ z) (hj : J o') : InvEndG h₀ L (fun m' nx' => ∃ o', nx' = [(d, o')] ∧ J o' ∧ ∀ z, st.contains z = false → m' z = m₀ z) [(I + 1, o1), (I, o2)] s₁ { s₁ with heap := h', toks := tk } :=
  InvEndG.intro F N ⟨o', rfl, hj, hm⟩ (fun p hp b hb => by
    rw [List.mem_singleton.mp hb]
    rcases List.mem_cons.mp hp with rfl | hp
    · exact (Nat.ne_of_lt (Nat.lt_succ_of_lt hd)).symm
    · rw [List.mem_singleton.mp hp]; exact (Nat.ne_of_lt hd).symm) (fun p hp => by rw [List.mem_singleton.mp hp]; exact h1) fun p hp => by
    rcases List.mem_cons.mp hp with rfl | hp
    · exact h2
    · rw [List.mem_singleton.mp hp]; exact h3
theorem byCode_found {code held event : Int} {b : Array UInt8} (e : findIn1 (codeTable ++ padTable) code = some b) : byCode code held event = some (b, 0, held, event) := by
  unfold byCode
  rw [if_pos ?_]
  · unfold ofCode; rw [e]
  · rw [find_app] at e
    rcases h : findIn1 codeTable code with _ | x
    · rw [h] at e
      replace e : findIn1 padTable code = some b := e
      refine .inr (Classical.byContradiction fun hn => ?_)
      have hk : ∀ p ∈ padTable, isSign p.1 := by decide
      have hm : ∀ (t : List (Int × Array UInt8)), (∀ p ∈ t, isSign p.1) → findIn1 t code = none := by
        intro t
        induction t with
        | nil => intro _; rfl
        | cons q r ih =>
          intro hq
          obtain ⟨k, v⟩ := q
          rw [findIn1, if_neg (fun e : k = code => hn (by rw [← e]; exact hq (k, v) (.head _)))]
          exact ih fun p hp => hq p (.tail _ hp)
      rw [hm padTable hk] at e
      cases e
    · exact .inl (by simp)
theorem byCode_none {code held event : Int} (e : findIn1 (codeTable ++ padTable) code = none) (h : ¬ isSign code) : byCode code held event = none := by
  unfold byCode
  rw [if_neg ?_]
  rw [find_app] at e
  rcases h1 : findIn1 codeTable code with _ | x
  · rintro (h2 | h2)
    · exact h2 rfl
    · exact h h2
  · rw [h1] at e; cases e
theorem byCode_sign {code held event : Int} (e : findIn1 (codeTable ++ padTable) code = none) (h : isSign code) : byCode code held event = some (#[], (settledS code held).1, (settledS code held).2, event) := by
  unfold byCode
  rw [if_pos (.inr h)]
  unfold ofCode; rw [e]
theorem settled_by {code held event a b : Int} (e : findIn1 (codeTable ++ padTable) code = none) (h : isSign code) (hs : settledS code held = (a, b)) : byCode code held event = some (#[], a, b, event) := by
  rw [byCode_sign e h, hs]
theorem lcode_C (w p loose mean mg mb) (news : List (Addr × Obj)) (code held event : Int) (tc th te : Tok) (h0 : 0 ≤ held) (h7 : held ≤ 7) :
  Con w p loose mean mg mb 258 news [.int code tc, .int held th, .int event te] 2 60 (DRet (byCode code held event) news) := by
  unfold Con prg
  k_fill
  intro dp un gd cn cs a ccd cl outer A₀ base h₀ L m s Q E B F X N T hk hdp hun hret
  have hfm : held.fmod 2 = held % 2 := Int.fmod_eq_emod_of_nonneg _ (by decide)
  refine wpAny_call ?_
  k_dflt ktr_enter
  k_steps
  k_here
  rename Fr _ _ _ _ => lF'
  with_reducible refine' For_turns lF' ?_ ?hs ?hE
  case hs => intro x; exact rfl
  case hE => passes_own
  k_whole
  k_steps
  k_here
  rename Obj.IsDictOf _ _ _ => hd
  rename News _ _ _ _ => NN
  obtain ⟨kvs, hd, al⟩ : ∃ kvs, Obj.IsDictOf (intKind PySem.Challenge.rw_pq1183_01.row.prog w) _ kvs ∧ Aligned kvs codeTable := ⟨_, hd, by repeat (first | exact True.intro | refine ⟨rfl, ⟨_, rfl⟩, ?_⟩)⟩
  with_unfolding_all refine' loopE [Str.ofString "place", Str.ofString "sign"] (fun i o => ∃ kvs, Obj.IsDictOf (intKind PySem.Challenge.rw_pq1183_01.row.prog w) o kvs ∧ Aligned kvs (codeTable ++ padTable.take i)) ?hh ?F NN ⟨kvs, hd, by simpa using al⟩ ?turn ?done
  case hh => rfl
  case F => k_asm
  case turn =>
    rintro i c T t t' u I o o1 o2 h tk hc ⟨kvs, hd, al⟩ hdI hT F3 N3
    have hi : i < 15 := (List.getElem?_eq_some_iff.mp hc).1
    have hno := pad_new i hi
    have hst := pad_step (show padSigns[i]? = some c from hc)
    have hc8 : c.toNat < 256 := c.toNat_lt
    have hlen : (codeTable ++ padTable.take i).length ≤ 1000 := by
      rw [List.length_append, List.length_take]
      have : codeTable.length = 4 := rfl
      omega
    k_here
    with_unfolding_all refine' unpackN_ F3 N3 hT rfl rfl rfl ?_
    intro h' F' N'
    try k_fold
    k_steps
    k_here
    k_dflt (refine' set_al ?kF ?kN ?kU hd al hno hlen ?_; (case kF => k_asm); (case kN => k_asm); (case kU => k_updF))
    intro h' o' kvs' F' N' hd' al'
    try dsimp only at N'
    try dsimp only
    try k_fold
    k_steps
    refine' turn_endE ?eF ?eN hdI ?e1 ?e2 ?e3 ?em ⟨kvs', hd', by rw [hst]; exact al'⟩
    case eF => k_asm
    case eN => k_asm
    case e1 => k_mem
    case e2 => k_mem
    case e3 => k_mem
    case em =>
      intro z h2
      have h4 : z ≠ Str.ofString "place" := by intro e; subst e; exact absurd h2 (by decide)
      have h5 : z ≠ Str.ofString "sign" := by intro e; subst e; exact absurd h2 (by decide)
      simp only [if_neg h4, if_neg h5, h2, Bool.false_eq_true, if_false] <;> rfl
  case done =>
    rintro u o h tk ⟨kvs, hd, al⟩ F3 N3
    replace al : Aligned kvs (codeTable ++ padTable.take 15) := al
    try dsimp only
    try k_fold
    k_steps
    k_here
    k_dflt (refine' set_al ?kF ?kN ?kU hd al (by decide) (by decide) ?_; (case kF => k_asm); (case kN => k_asm); (case kU => k_updF))
    intro h' o' kvs' F' N' hd' al'
    clear hd al
    try dsimp only at N'
    try dsimp only
    try k_fold
    k_steps
    k_here
    k_dflt (refine' set_al ?kF ?kN ?kU hd' al' (by decide) (by decide) ?_; (case kF => k_asm); (case kN => k_asm); (case kU => k_updF))
    intro h' o' kvs' F' N' hd al
    clear hd' al'
    try dsimp only at N'
    try dsimp only
    try k_fold
    k_steps
    k_here
    k_dflt (refine' set_al ?kF ?kN ?kU hd al (by decide) (by decide) ?_; (case kF => k_asm); (case kN => k_asm); (case kU => k_updF))
    intro h' o' kvs' F' N' hd' al'
    clear hd al
    replace al' : Aligned kvs' (codeTable ++ padTable) := al'
    try dsimp only at N'
    try dsimp only
    try k_fold
    k_steps
    k_here
    k_dflt (refine' din_al ?kN ?km hd' ?klo al' ?ky ?kn; (case kN => k_asm); (case km => k_mem); (case klo => assumption))
    case ky =>
      intro b9 t9 e9 f9
      try dsimp only
      try k_fold
      k_steps
      k_here
      k_dflt (refine' ditem ?kN ?km hd' e9 ?_ ?k5; (case kN => k_asm); (case km => k_mem); (case k5 => with_unfolding_all rfl))
      try dsimp only
      try k_fold
      k_steps
      (refine' dret_some hret ?eG ?eF' ?eF ?eN (byCode_found f9); (case eG => with_reducible assumption); (case eF => with_reducible assumption); (case eN => with_reducible assumption); (case eF' => with_reducible assumption))
    case kn =>
      intro f9
      try dsimp only
      try k_fold
      repeat (first | (k_unfold; (try dsimp only)) | ((fail_if_success (with_reducible show wpAny _ _ (exec (Stmt.If _ _ _ _) _) _ _ _)); first | walk1 | (dsimp only; walk1)))
      with_unfolding_all refine' cut0 (isSign code) ?F ?N ?h1 ?h2
      case F => with_reducible assumption
      case N => with_reducible assumption
      case h1 =>
        k_steps
        all_goals first
          | (refine' .next _ _ ?eF ?eN (by unfold isSign; omega); (case eF => with_reducible assumption); (case eN => with_reducible assumption))
          | (refine .ret _ _ ?_; k_steps; (refine' dret_none hret ?eG ?eF' ?eF (byCode_none f9 (by unfold isSign; omega)); (case eG => with_reducible assumption); (case eF => with_reducible assumption); (case eF' => with_reducible assumption)))
      case h2 =>
        intro h' tk hs F3 N3
        try dsimp only
        try k_fold
        k_steps
        with_unfolding_all refine' val_cut (fun v => v = .bool (decide ((65 ≤ code ∧ code ≤ 90) ∨ (97 ≤ code ∧ code ≤ 122)))) ?F ?N ?h1 ?h2
        case F => with_reducible assumption
        case N => with_reducible assumption
        case h1 =>
          walk1
          k_steps
          all_goals (try (walk1; k_steps))
          all_goals (refine' .mk _ _ _ ?eF ?eN ?_; (case eF => with_reducible assumption); (case eN => with_reducible assumption))
          all_goals (congr 1; first | (exact (decide_eq_true (by omega)).symm) | (exact (decide_eq_false (by omega)).symm) | (exact decide_eq_decide.mpr (by omega)))
        case h2 =>
          intro v h' tk e F3 N3
          subst e
          try dsimp only
          try k_fold
          k_steps
          all_goals (try (walk1; k_steps))
          all_goals (refine' dret_some hret ?eG ?eF' ?eF ?eN (settled_by f9 hs ?_); (case eG => with_reducible assumption); (case eF => with_reducible assumption); (case eN => with_reducible assumption); (case eF' => with_reducible assumption))
          all_goals (unfold settledS; (repeat' split) <;> first | rfl | (exfalso; omega) | (simp only [Prod.mk.injEq]; omega))
end Mine
namespace Mine
theorem codes_join (c : Nat) : ∀ (ps : List Str), ps ≠ [] → (∀ p ∈ ps, c ∉ p.cps.toList) → splitAux c [] (Str.join ⟨#[c]⟩ ps).cps.toList = ps.map (·.cps.toList)
  | [], h, _ => absurd rfl h
  | [x], _, hf => by
    show splitAux c [] x.cps.toList = [x.cps.toList]
    rw [splitAux_free _ _ (hf x (.head _))]; rfl
  | x :: y :: r, _, hf => by
    have e : (Str.join ⟨#[c]⟩ (x :: y :: r)).cps.toList = x.cps.toList ++ c :: (Str.join ⟨#[c]⟩ (y :: r)).cps.toList := by
      show ((x ++ ⟨#[c]⟩) ++ Str.join ⟨#[c]⟩ (y :: r)).cps.toList = _
      rw [Str.cps_append, Str.cps_append]; simp
    rw [e, splitAux_cons _ _ _ (hf x (.head _)), codes_join c (y :: r) (by simp) (fun p hp => hf p (.tail _ hp))]
    simp
theorem split_ne (x y : Str) : Txt.split x y ≠ [] := by
  unfold Txt.split
  split
  · simp
  · split
    · simp
    · rw [StrLaws.partsBetween_eq]
      cases Builtin.Str.occurrences x y 0 x.length (x.length + 1) <;> simp [StrLaws.partsFrom]
theorem split_codes (x : Str) (c : Nat) : (Txt.split x ⟨#[c]⟩).map (·.cps.toList) = splitAux c [] x.cps.toList := by
  have h := codes_join c (Txt.split x ⟨#[c]⟩) (split_ne _ _) (StrLaws.split_free x c)
  rw [StrLaws.join_split] at h
  exact h.symm
theorem split_size (x : Str) (c : Nat) : (∀ p ∈ Txt.split x ⟨#[c]⟩, p.length ≤ x.length) ∧ (Txt.split x ⟨#[c]⟩).length ≤ x.length + 1 := by
  refine ⟨fun p hp => part_short hp, ?_⟩
  have h1 := congrArg List.length (split_codes x c)
  rw [List.length_map] at h1
  have h2 := (splitAux_size (x := c) x.cps.toList []).2
  rw [h1]; simpa [Str.length] using h2
noncomputable def lcell (cs : List Nat) : Option (Option Int) := if ∃ c ∈ cs, ¬ (48 ≤ c ∧ c ≤ 57) then none else if cs = [] then some none else some (some ((NumText.digitsVal cs : Nat) : Int))
noncomputable def lcellS (q : Str) : Option (Option Int) := lcell q.cps.toList
noncomputable def lrowOf (p : Str) : Option (List (Option Int)) := mapO lcellS (Txt.split p ⟨#[58]⟩)
noncomputable def lfieldsOf (x : Str) : Option Rows := mapO lrowOf (Txt.split x ⟨#[59]⟩)
theorem strs_get {l : List (Str × Tok)} {i : Nat} {v : Value} (h : (strValues l)[i]? = some v) : ∃ b t, v = .str b t ∧ (l.map (·.1))[i]? = some b := by
  unfold strValues at h
  rw [List.getElem?_map] at h
  rcases e : l[i]? with _ | p
  · rw [e] at h; cases h
  · rw [e] at h
    cases h
    exact ⟨p.1, p.2, rfl, by rw [List.getElem?_map, e]; rfl⟩
theorem strs_len (l : List (Str × Tok)) : (strValues l).length = (l.map (·.1)).length := by simp [strValues]
/-- the ledger of a row's loop -/
noncomputable def RowG {β : Type} (f : β → Option (Option Int)) (R W : Addr) (lw : Obj) (r0 : List (Addr × Obj)) (words : List β) (i : Nat) (nx : List (Addr × Obj)) : Prop :=
  ∃ ws k row, nx = (R, listOf (List.toArray ws) k) :: (W, lw) :: r0 ∧ DatAll [] ws (List.map cellD row) ∧ mapO f (words.take i) = some row
noncomputable def FieldG {β : Type} (f : β → Option (List (Option Int))) (D P : Addr) (lp : Obj) (parts : List β) (i : Nat) (nx : List (Addr × Obj)) : Prop :=
  ∃ us n tl fs, nx = (D, listOf (List.toArray us) n) :: (P, lp) :: tl ∧ (∀ p ∈ tl, p.1 ≠ D) ∧ DatAll tl us (List.map rowD fs) ∧ mapO f (parts.take i) = some fs
theorem row_stepG {β : Type} {f : β → Option (Option Int)} {R W : Addr} {lw : Obj} {r0 own r3 : List (Addr × Obj)} {words : List β} {i : Nat} {h₀ h' : Heap} {L : Addr} {s₁ : Shared} {tk : Nat} {m' m₀ : Str → Option Value} {x : Str} {st : List Str} {ws : List Value} {k : Nat} {row : List (Option Int)} {c : Value} {o : Option Int} {w : β}
    (e3 : (W, lw) :: (r0 ++ own) = r3) (hc : DatAll [] ws (row.map cellD)) (hr : mapO f (words.take i) = some row) (hw : words[i]? = some w) (ho : f w = some o) (hd : DatIn [] c (cellD o)) (off : OwnOff own (((R, listOf ws.toArray k) :: (W, lw) :: r0).map (·.1)))
    (F : Fr h₀ L h' m') (N : News h₀ L h' ((R, listOf (ws.toArray.push c) (k + 1)) :: r3)) (hm : ∀ z, z ≠ x → st.contains z = false → m' z = m₀ z) :
    InvEndG h₀ L (fun m' nx' => (W, lw) ∈ nx' ∧ (∀ z, z ≠ x → st.contains z = false → m' z = m₀ z) ∧ RowG f R W lw r0 words (i + 1) nx') own s₁ { s₁ with heap := h', toks := tk } := by
  subst e3
  rw [List.push_toArray] at N
  refine InvEndG.intro (nx := (R, listOf (ws ++ [c]).toArray (k + 1)) :: (W, lw) :: r0) F N ⟨.tail _ (.head _), hm, ws ++ [c], k + 1, row ++ [o], rfl, ?_, ?_⟩ off (fun p hp => ?_) (fun p hp => ?_)
  · rw [List.map_append]; exact hc.append (DatAll.one hd)
  · rw [take_snoc hw]; exact mapO_snoc hr ho
  · rcases List.mem_cons.mp hp with rfl | hp
    · exact .head _
    · exact .tail _ (List.mem_append_left own hp)
  · exact .tail _ (.tail _ (List.mem_append_right _ hp))
theorem field_stepG {β : Type} {f : β → Option (List (Option Int))} {D P R : Addr} {lp : Obj} {tl own r4 : List (Addr × Obj)} {parts : List β} {i : Nat} {h₀ h' : Heap} {L : Addr} {s₁ : Shared} {tk : Nat} {m' m₀ : Str → Option Value} {x : Str} {st : List Str} {us ws : List Value} {n k : Nat} {fs : Rows} {row : List (Option Int)} {pw : β}
    (e4 : (R, listOf ws.toArray k) :: (P, lp) :: (tl ++ own) = r4) (hRD : R ≠ D) (hRo : ∀ p ∈ own, p.1 ≠ R) (htl : ∀ p ∈ tl, p.1 ≠ D) (hall : DatAll tl us (fs.map rowD)) (hfs : mapO f (parts.take i) = some fs) (hp : parts[i]? = some pw) (hrow : f pw = some row) (hc : DatAll [] ws (row.map cellD))
    (off : OwnOff own (((D, listOf us.toArray n) :: (P, lp) :: tl).map (·.1)))
    (F : Fr h₀ L h' m') (N : News h₀ L h' ((D, listOf (us.toArray.push (.ref R)) (n + 1)) :: r4)) (hm : ∀ z, z ≠ x → st.contains z = false → m' z = m₀ z) :
    InvEndG h₀ L (fun m' nx' => (P, lp) ∈ nx' ∧ (∀ z, z ≠ x → st.contains z = false → m' z = m₀ z) ∧ FieldG f D P lp parts (i + 1) nx') own s₁ { s₁ with heap := h', toks := tk } := by
  subst e4
  rw [List.push_toArray] at N
  refine InvEndG.intro (nx := (D, listOf (us ++ [Value.ref R]).toArray (n + 1)) :: (P, lp) :: (R, listOf ws.toArray k) :: tl) F N ⟨.tail _ (.head _), hm, us ++ [Value.ref R], n + 1, (R, listOf ws.toArray k) :: tl, fs ++ [row], rfl, ?_, ?_, ?_⟩ ?_ (fun p hp => ?_) (fun p hp => ?_)
  · intro p hp
    rcases List.mem_cons.mp hp with rfl | hp
    · exact hRD
    · exact htl p hp
  · rw [List.map_append]
    exact (hall.mono fun p hp => .tail _ hp).append (DatAll.one (.list (.head _) (DatAll.mono (news := []) (fun p h => absurd h List.not_mem_nil) hc)))
  · rw [take_snoc hp]; exact mapO_snoc hfs hrow
  · intro p hp b hb
    simp only [List.map_cons, List.mem_cons] at hb
    rcases hb with rfl | rfl | rfl | hb
    · exact off p hp _ (.head _)
    · exact off p hp _ (.tail _ (.head _))
    · exact hRo p hp
    · exact off p hp _ (.tail _ (.tail _ hb))
  · rcases List.mem_cons.mp hp with rfl | hp
    · exact .head _
    · rcases List.mem_cons.mp hp with rfl | hp
      · exact .tail _ (.tail _ (.head _))
      · rcases List.mem_cons.mp hp with rfl | hp
        · exact .tail _ (.head _)
        · exact .tail _ (.tail _ (.tail _ (List.mem_append_left own hp)))
  · exact .tail _ (.tail _ (.tail _ (List.mem_append_right _ hp)))
end Mine
namespace Mine
theorem st_can (ss : List Str) (h : ∀ x ∈ ss, PyData.strOk x = true) : PyData.canLayAll0 (ss.map PyData.str) = true := by
  induction ss with
  | nil => rfl
  | cons a r ih => simp [PyData.canLayAll0, PyData.canLay0, ih fun x hx => h x (.tail _ hx), h a (.head _)]
theorem st_depth : ∀ ss : List Str, PyData.depthAll (ss.map PyData.str) = 0
  | [] => rfl
  | _ :: r => by simp [PyData.depthAll, PyData.depth, st_depth r]
theorem st_shaped (ss : List Str) (h : ∀ x ∈ ss, PyData.strOk x = true) : SeqAt.shaped (.list (ss.map PyData.str)) = true := by
  simp [SeqAt.shaped, PyData.canLay0, PyData.depth, st_can ss h, st_depth]
theorem st_same (ss : List Str) : PySem.Spec.same (.list (ss.map PyData.str)) (.list (([] : List Str).map PyData.str)) = decide (ss = []) := by
  cases ss with
  | nil => simp [PySem.Spec.same, PySem.Spec.sameAll]
  | cons a r => simp [PySem.Spec.same, PySem.Spec.sameAll]
theorem ne_strs {prog : Program} {w : World} {A : Around} {E : Value → Shared → Prop} {s : Shared} {a b : Addr} {ys : List Value} {ss : List Str} {Q : Value → Shared → Prop} (ha : s.heap.IsList a ys.toArray) (hb : s.heap.IsList b (List.toArray [])) (hc : CarriedAll ys (ss.map PyData.str)) (hok : ∀ x ∈ ss, PyData.strOk x = true) (hu : A.units + 64 < cLine) (h : Q (.bool (!decide (ss = []))) s) :
    wpAny (model prog w) A (compareOp .NotEq (.ref a) (.ref b)) Q E s :=
  ne_dataH_same (reads_newData ha hc) (reads_newData hb (ds := ([] : List Str).map PyData.str) .nil) (st_shaped ss hok) (st_shaped [] fun _ h => absurd h List.not_mem_nil) hu (SeqAt.noMix_of_shape (.list .str) rfl _ _ (list_map_has fun _ => rfl) (list_map_has fun _ => rfl)) (by rw [st_same]; exact h)
/-- the signs that are no figures -/
noncomputable def badSigns (w1 : Str) : List Str := (signs w1).filter fun a => !!(Builtin.Str.occurrences (Str.ofString "0123456789") a 0 (Str.ofString "0123456789").length 1).isEmpty
theorem bad_iff (w1 : Str) : badSigns w1 = [] ↔ ∀ c ∈ w1.cps.toList, 48 ≤ c ∧ c ≤ 57 := by
  have hd : (Str.ofString "0123456789").cps.toList = [48, 49, 50, 51, 52, 53, 54, 55, 56, 57] := by decide
  unfold badSigns
  rw [List.filter_eq_nil_iff]
  unfold signs
  simp only [List.mem_map]
  constructor
  · intro h c hc
    have h1 := h ⟨#[c]⟩ ⟨c, hc, rfl⟩
    have h2 := StrLaws.found_one (Str.ofString "0123456789") c
    rw [h2, hd] at h1
    simp at h1
    omega
  · rintro h a ⟨c, hc, rfl⟩
    have h1 := h c hc
    have h2 := StrLaws.found_one (Str.ofString "0123456789") c
    rw [h2, hd]
    simp
    omega
theorem lcell_bad {q : Str} (h : badSigns q ≠ []) : lcellS q = none := by
  unfold lcellS lcell
  rw [if_pos]
  apply Classical.byContradiction
  intro hn
  apply h
  rw [bad_iff]
  intro c hc
  apply Classical.byContradiction
  intro hx
  exact hn ⟨c, hc, hx⟩
theorem lcell_empty {q : Str} (h : badSigns q = []) (e : q.cps.toList = []) : lcellS q = some none := by
  unfold lcellS lcell
  rw [if_neg, if_pos e]
  rintro ⟨c, hc, hx⟩
  exact hx ((bad_iff q).mp h c hc)
theorem lcell_num {q : Str} (h : badSigns q = []) (e : q.cps.toList ≠ []) : lcellS q = some (some ((NumText.digitsVal q.cps.toList : Nat) : Int)) := by
  unfold lcellS lcell
  rw [if_neg, if_neg e]
  rintro ⟨c, hc, hx⟩
  exact hx ((bad_iff q).mp h c hc)
theorem int_reads {q : Str} (h : badSigns q = []) (e : q.cps.toList ≠ []) (hl : q.length ≤ 60) : PySem.intText? q = some ((NumText.digitsVal q.cps.toList : Nat) : Int) :=
  intText_digits ((bad_iff q).mp h) e (by omega)
theorem bad_ok {w1 : Str} (h : ∀ c ∈ w1.cps.toList, c < 256) : ∀ x ∈ badSigns w1, PyData.strOk x = true := by
  intro x hx
  unfold badSigns signs at hx
  obtain ⟨hx, _⟩ := List.mem_filter.mp hx
  obtain ⟨c, hc, rfl⟩ := List.mem_map.mp hx
  have := h c hc
  simp [PyData.strOk]; omega
theorem splitAux_mem {α : Type} [DecidableEq α] {x : α} : ∀ (l cur : List α), ∀ p ∈ splitAux x cur l, ∀ c ∈ p, c ∈ cur ∨ c ∈ l
  | [], cur, p, hp, c, hc => by
    simp only [splitAux, List.mem_singleton] at hp
    subst hp; exact .inl hc
  | d :: r, cur, p, hp, c, hc => by
    unfold splitAux at hp
    split at hp
    · rcases List.mem_cons.mp hp with rfl | hp
      · exact .inl hc
      · rcases splitAux_mem r [] p hp c hc with h | h
        · exact absurd h List.not_mem_nil
        · exact .inr (.tail _ h)
    · rcases splitAux_mem r (cur ++ [d]) p hp c hc with h | h
      · rcases List.mem_append.mp h with h | h
        · exact .inl h
        · rw [List.mem_singleton.mp h]; exact .inr (.head _)
      · exact .inr (.tail _ h)
theorem split_mem {x : Str} {k : Nat} {p : Str} (hp : p ∈ Txt.split x ⟨#[k]⟩) {c : Nat} (hc : c ∈ p.cps.toList) : c ∈ x.cps.toList := by
  have h : p.cps.toList ∈ splitAux k [] x.cps.toList := by rw [← split_codes]; exact List.mem_map.mpr ⟨p, hp, rfl⟩
  rcases splitAux_mem _ _ _ h c hc with h | h
  · exact absurd h List.not_mem_nil
  · exact h
end Mine
namespace Mine
theorem News_cons {h₀ h : Heap} {L a : Addr} {o : Obj} {news : List (Addr × Obj)} (N : News h₀ L h news) (e : h.get? a = some o) (hL : a ≠ L) (h0 : h₀.get? a = none) : News h₀ L h ((a, o) :: news) := by
  intro p hp
  rcases List.mem_cons.mp hp with rfl | hp
  · exact ⟨e, hL, h0⟩
  · exact N p hp
theorem News_front {h₀ h : Heap} {L : Addr} {p q : Addr × Obj} {news : List (Addr × Obj)} (N : News h₀ L h (p :: q :: news)) : News h₀ L h (q :: p :: news) := by
  intro z hz
  rcases List.mem_cons.mp hz with rfl | hz
  · exact N _ (.tail _ (.head _))
  · rcases List.mem_cons.mp hz with rfl | hz
    · exact N _ (.head _)
    · exact N _ (.tail _ (.tail _ hz))
theorem ne_empty {q : Str} (h : (q != Str.ofString "") = true) : q.cps.toList ≠ [] := by
  intro e
  rw [bne_iff_ne] at h
  apply h
  rcases q with ⟨⟨l⟩⟩
  replace e : l = [] := e
  subst e; rfl
theorem is_empty {q : Str} (h : (q != Str.ofString "") = false) : q.cps.toList = [] := by
  have h1 : q = Str.ofString "" := by
    apply Classical.byContradiction
    intro hn
    rw [bne_iff_ne.mpr hn] at h
    cases h
  rw [h1]; rfl
theorem News_drop {h₀ h : Heap} {L : Addr} {p q : Addr × Obj} {r3 r5 : List (Addr × Obj)} (e : q :: r3 = r5) (N : News h₀ L h (p :: r5)) : News h₀ L h (p :: r3) := by
  subst e
  intro z hz
  rcases List.mem_cons.mp hz with rfl | hz
  · exact N _ (.head _)
  · exact N _ (.tail _ (.tail _ hz))
theorem lfields_C (w p loose mean mg mb) (news : List (Addr × Obj)) (x : Str) (tx : Tok) (hb : x.length ≤ 60) (hx : ∀ c ∈ x.cps.toList, c < 256) :
  Con w p loose mean mg mb 244 news [.str x tx] 4 100 (FRet (lfieldsOf x) news) := by
  unfold Con prg
  k_fill
  intro dp un gd cn cs a ccd cl outer A₀ base h₀ L m s Q E B F X N T hk hdp hun hret
  have hsz : x.length + 2 ≤ sizeLine := by rw [sizeLine_eq]; omega
  refine wpAny_call ?_
  k_dflt ktr_enter
  k_steps
  k_here
  rename Fr _ _ _ _ => lF'
  with_unfolding_all refine' For_invVF lF' ?k1 ?k2 ?_
  case k1 => exact rfl
  case k2 => exact rfl
  k_whole
  repeat (first | (k_unfold; (try dsimp only)) | ((fail_if_success (with_reducible show wpAny _ _ (call (Value.builtin "str.split") _ _) _ _ _)); first | walk1 | (dsimp only; walk1)))
  k_here
  k_dflt (refine' KSpl.split1 ?k1 ?k2 ?k3 ?_ ?k4; (case k1 => k_asm); (case k2 => k_asm); (case k3 => decide); (case k4 => assumption))
  intro P l _ _ e1 a1 F1 N1 o1
  try dsimp only
  k_steps
  rename_i D _ _ _ _ _ _ _
  replace e1 : l.map (·.1) = Txt.split x ⟨#[59]⟩ := e1
  have hDP : @Ne Nat D P := Nat.ne_of_lt (o1 _ (.head _))
  have hsz1 := split_size x 59
  have N2 : News _ _ _ ((D, listOf (List.toArray []) 0) :: (P, listOf (strValues l).toArray 0) :: []) := fun p hp => N1 p (by
    rcases List.mem_cons.mp hp with rfl | hp
    · exact .tail _ (.head _)
    · rcases List.mem_cons.mp hp with rfl | hp
      · exact .head _
      · exact absurd hp List.not_mem_nil)
  refine loopK ["numbers", "word"] (fun i nx => FieldG lrowOf D P (listOf (strValues l).toArray 0) (Txt.split x ⟨#[59]⟩) i nx) rfl (.tail _ (.head _)) F1 N2 ⟨[], 0, [], [], rfl, (fun _ h => absurd h List.not_mem_nil), .nil, rfl⟩ ?_ ?_
  · intro i v u nx h tk own hv off hl1 hJ F3 N3
    obtain ⟨us, n, tl, fs, rfl, htl, hall, hfs⟩ := hJ
    obtain ⟨pw, tp, rfl, hpw⟩ := strs_get hv
    rw [e1] at hpw
    have hpz := hsz1.1 pw (List.mem_of_getElem? hpw)
    have hsz2 : pw.length + 2 ≤ sizeLine := by rw [sizeLine_eq]; omega
    try k_fold
    k_steps
    rename_i R _ _ _ oR _ F4 N4 _
    k_here
    with_unfolding_all refine' For_invVF F4 ?k1 ?k2 ?_
    case k1 => exact rfl
    case k2 => exact rfl
    k_whole
    repeat (first | (k_unfold; (try dsimp only)) | ((fail_if_success (with_reducible show wpAny _ _ (call (Value.builtin "str.split") _ _) _ _ _)); first | walk1 | (dsimp only; walk1)))
    k_here
    k_dflt (refine' KSpl.split1 ?k1 ?k2 ?k3 ?_ ?k4; (case k1 => k_asm); (case k2 => k_asm); (case k3 => decide); (case k4 => assumption))
    intro W l2 _ _ e2 a2 F5 N5 oW
    try dsimp only
    k_steps
    replace e2 : l2.map (·.1) = Txt.split pw ⟨#[58]⟩ := e2
    have hRW : @Ne Nat R W := Nat.ne_of_lt (oW _ (.head _))
    have N6 : News _ _ _ ((R, listOf (List.toArray []) 0) :: (W, listOf (strValues l2).toArray 0) :: ((D, listOf us.toArray n) :: (P, listOf (strValues l).toArray 0) :: tl ++ own)) := fun p hp => N5 p (by
      rcases List.mem_cons.mp hp with rfl | hp
      · exact .tail _ (.head _)
      · rcases List.mem_cons.mp hp with rfl | hp
        · exact .head _
        · exact .tail _ (.tail _ hp))
    refine loopK [] (fun i nx => RowG lcellS R W (listOf (strValues l2).toArray 0) ((D, listOf us.toArray n) :: (P, listOf (strValues l).toArray 0) :: tl ++ own) (Txt.split pw ⟨#[58]⟩) i nx) rfl (.tail _ (.head _)) F5 N6 ⟨[], 0, [], rfl, .nil, rfl⟩ ?_ ?_
    · intro i2 v2 u2 nx2 h2 tk2 own2 hv2 off2 hl2 hJ2 F7 N7
      obtain ⟨ws, k, row, rfl, hc, hrow⟩ := hJ2
      obtain ⟨w1, tw, rfl, hw1⟩ := strs_get hv2
      rw [e2] at hw1
      have hwz := (split_size pw 58).1 w1 (List.mem_of_getElem? hw1)
      have hwsz := fits_of hc hrow hw1 (split_size pw 58).2 (by omega)
      have hne3 : ∀ p ∈ (W, listOf (strValues l2).toArray 0) :: (((D, listOf us.toArray n) :: (P, listOf (strValues l).toArray 0) :: tl ++ own) ++ own2), p.1 ≠ R := by
        intro p hp
        rcases List.mem_cons.mp hp with rfl | hp
        · exact hRW.symm
        · rcases List.mem_append.mp hp with hp | hp
          · exact Nat.ne_of_lt (oR p hp)
          · exact off2 p hp R (.head _)
      have N8 : News _ _ _ ((R, listOf ws.toArray k) :: (W, listOf (strValues l2).toArray 0) :: (((D, listOf us.toArray n) :: (P, listOf (strValues l).toArray 0) :: tl ++ own) ++ own2)) := N7
      clear N7
      generalize e3 : (W, listOf (strValues l2).toArray 0) :: (((D, listOf us.toArray n) :: (P, listOf (strValues l).toArray 0) :: tl ++ own) ++ own2) = r3 at N8 hne3
      try k_fold
      k_steps
      with_unfolding_all refine' srcC_signsD (pz := fun a => !!(Builtin.Str.occurrences (Str.ofString "0123456789") a 0 (Str.ofString "0123456789").length 1).isEmpty) (d := PyData.str) ?hh ?F ?N ?g1 ?g2 ?g3 ?hsz
      case hh => rfl
      case F => k_asm
      case N => k_asm
      case hsz => rw [sizeLine_eq]; omega
      case g1 =>
        intro C a v s2 m2 E2 hi hn hm htk
        obtain ⟨_, e'⟩ := ItemKind.str_is hi
        subst e'
        repeat' (first | walk1 | (dsimp only; walk1))
        exact ⟨_, _, rfl, fun _ _ h => h⟩
      case g2 =>
        intro C a v s2 m2 E2 hi hp hn hm htk
        obtain ⟨_, e'⟩ := ItemKind.str_is hi
        subst e'
        repeat' (first | walk1 | (dsimp only; walk1))
        · exact .str _ _
        · exact ⟨_, _, rfl, fun _ _ h => h⟩
      case g3 =>
        intro D3 ys h3 tk3 F8 N9 hn3 hL3 hP3 hC3
        have hcod : ∀ c ∈ w1.cps.toList, c < 256 := fun c hc => hx c (split_mem (List.mem_of_getElem? hpw) (split_mem (List.mem_of_getElem? hw1) hc))
        have hok := bad_ok hcod
        replace hC3 : CarriedAll ys ((badSigns w1).map PyData.str) := hC3
        obtain ⟨⟨n3, hg3⟩, hA3⟩ := hP3
        have N10 : News _ _ _ ((D3, listOf ys.toArray n3) :: _) := News_cons N9 hg3 (NewPlain.ne_locals ⟨⟨n3, hg3⟩, hA3⟩ F8) hn3
        have hDR : D3 ≠ R := fun e => hA3 _ (.head _) e.symm
        have hne4 : ∀ p ∈ (D3, listOf ys.toArray n3) :: r3, p.1 ≠ R := by
          intro p hp
          rcases List.mem_cons.mp hp with rfl | hp
          · exact hDR
          · exact hne3 p hp
        have N11 := News_front N10
        clear N9 N10 hL3
        generalize e5 : (D3, listOf ys.toArray n3) :: r3 = r5 at N11 hne4
        try k_fold
        k_steps
        rename_i l4 h4 F12 N12 l4lt
        have hl3 : (D3, listOf ys.toArray n3) ∈ r5 := by rw [← e5]; exact .head _
        k_here
        with_unfolding_all refine' ne_strs (ss := badSigns w1) ?ha ?hb hC3 hok ?hu ?_
        case ha => exact Heap.PlainList.isList ⟨n3, N12.get (.tail _ (.tail _ hl3))⟩
        case hb => exact Heap.PlainList.isList ⟨_, N12.get (.head _)⟩
        case hu => ktr_units
        have N13 : News _ _ _ ((R, listOf ws.toArray k) :: r5) := fun p hp => N12 p (.tail _ hp)
        clear N12
        try dsimp only
        k_steps
        · walk1
          k_steps
          · k_here
            k_dflt (refine' KIN.call_text (int_reads ?k1 (ne_empty ?k2) ?k3) ?k4 ?_; (case k1 => assumption); (case k2 => assumption); (case k3 => omega); (case k4 => omega))
            k_steps
            refine' row_stepG e3 hc hrow hw1 (lcell_num (by assumption) (ne_empty (by assumption))) (.int _ _) off2 ?c3 (News_drop e5 ?c4) ?c5
            case c3 => k_asm
            case c4 => k_asm
            case c5 =>
              intro z h1 h2
              simp only [if_neg h1, h2, Bool.false_eq_true, if_false]
          · refine' row_stepG e3 hc hrow hw1 (lcell_empty (by assumption) (is_empty (by assumption))) .none off2 ?c3 (News_drop e5 ?c4) ?c5
            case c3 => k_asm
            case c4 => k_asm
            case c5 =>
              intro z h1 h2
              simp only [if_neg h1, h2, Bool.false_eq_true, if_false]
        · refine' fret_none hret ?eG ?eF' ?eF ?_
          case eG => with_reducible assumption
          case eF => with_reducible assumption
          case eF' => with_reducible assumption
          have hr0 : lrowOf pw = none := mapO_none (List.mem_of_getElem? hw1) (lcell_bad (by assumption))
          exact mapO_none (List.mem_of_getElem? hpw) hr0
    · intro u3 nx3 h3 tk3 hJ3 F9 N9
      obtain ⟨ws, k, row, rfl, hc, hrow⟩ := hJ3
      rw [strs_len, e2, List.take_length] at hrow
      have hRo : ∀ p ∈ (D, listOf us.toArray n) :: (P, listOf (strValues l).toArray 0) :: tl ++ own, p.1 ≠ R := fun p hp => Nat.ne_of_lt (oR p hp)
      have N10 : News _ _ _ ((D, listOf us.toArray n) :: (R, listOf ws.toArray k) :: (P, listOf (strValues l).toArray 0) :: (tl ++ own)) := fun p hp => N9 p (by
        rcases List.mem_cons.mp hp with rfl | hp
        · exact .tail _ (.tail _ (.head _))
        · rcases List.mem_cons.mp hp with rfl | hp
          · exact .head _
          · exact .tail _ (.tail _ (.tail _ hp)))
      have hD4 : ∀ p ∈ (R, listOf ws.toArray k) :: (P, listOf (strValues l).toArray 0) :: (tl ++ own), p.1 ≠ D := by
        intro p hp
        rcases List.mem_cons.mp hp with rfl | hp
        · exact (hRo _ (.head _)).symm
        · rcases List.mem_cons.mp hp with rfl | hp
          · exact hDP.symm
          · rcases List.mem_append.mp hp with hp | hp
            · exact htl p hp
            · exact off p hp D (.head _)
      have husz := fits_of hall hfs hpw hsz1.2 (by omega)
      clear N9
      generalize e4 : (R, listOf ws.toArray k) :: (P, listOf (strValues l).toArray 0) :: (tl ++ own) = r4 at N10 hD4
      try dsimp only
      try k_fold
      k_steps
      refine' field_stepG e4 (hRo _ (.head _)).symm (fun p hp => hRo p (List.mem_append_right _ hp)) htl hall hfs hpw hrow hc off ?c3 ?c4 ?c5
      case c3 => k_asm
      case c4 => k_asm
      case c5 =>
        intro z h1 h2
        have h4 : z ≠ Str.ofString "word" := by intro e; subst e; exact absurd h2 (by decide)
        have h5 : z ≠ Str.ofString "numbers" := by intro e; subst e; exact absurd h2 (by decide)
        have h6 : ([] : List Str).contains z = false := rfl
        simp only [if_neg h1, if_neg h4, if_neg h5, h2, h6, Bool.false_eq_true, if_false]

  · intro u nx h tk hJ F11 N11
    obtain ⟨us, n, tl, fs, rfl, htl, hall, hfs⟩ := hJ
    rw [strs_len, e1, List.take_length] at hfs
    try dsimp only
    try k_fold
    k_steps
    refine' fret_some (fs := fs) hret ?eG ?eF' ?eF ?eN ?eD ?eE
    case eG => with_reducible assumption
    case eF => with_reducible assumption
    case eF' => with_reducible assumption
    case eN => with_reducible assumption
    case eD => exact .list (.head _) (DatAll.mono (fun p hp => .tail _ (.tail _ hp)) hall)
    case eE => exact hfs
end Mine
namespace Mine
/-- the tape's two objects -/
noncomputable def TapeOk (w : World) (c d : Addr) (T : List (Addr × Obj)) : Prop :=
  ∃ vs ns n o sd t, T = [(c, listOf (List.toArray vs) n), (d, o)] ∧ Obj.IsDictOf (PySem.strKind Challenge.rw_pq1183_01.row.prog w) o [(Str.ofString "cells", .ref c), (Str.ofString "seed", .int sd t)] ∧ IntsAre vs ns ∧ ns.length ≤ 24
theorem pos_of {vs : List Value} {ns : List Int} (hi : IntsAre vs ns) (h : decide (ns = []) = false) : 0 < vs.length := by
  rw [hi.length]
  exact List.length_pos_iff.mpr (by simpa using h)
theorem fmod_in (a : Int) {b : Int} (h : 0 < b) : 0 ≤ a.fmod b ∧ a.fmod b < b := by
  rw [Int.fmod_eq_emod_of_nonneg _ (Int.le_of_lt h)]
  exact ⟨Int.emod_nonneg _ (Int.ne_of_gt h), Int.emod_lt_of_pos _ h⟩
abbrev TRet (w : World) (c d : Addr) (rest : List (Addr × Obj)) (P : Value → Prop) (h₀ : Heap) (L : Addr) (m : Str → Option Value) (s : Shared) (Q : Value → Shared → Prop) : Prop :=
  ∀ (v : Value) (h' : Heap) (tk' : Nat) (T' : List (Addr × Obj)), P v → TapeOk w c d T' → Fr h₀ L h' m → News h₀ L h' (T' ++ rest) → Q v { s with heap := h', toks := tk' }
theorem tret_end {w : World} {c d : Addr} {rest : List (Addr × Obj)} {P : Value → Prop} {h₀ h' : Heap} {L : Addr} {m : Str → Option Value} {s : Shared} {Q : Value → Shared → Prop} {tk' : Nat} {v : Value} {vs : List Value} {ns : List Int} {n : Nat} {o : Obj} {sd : Int} {t : Tok} {e : Addr × Obj}
    (H : TRet w c d rest P h₀ L m s Q) (F : Fr h₀ L h' m) (N : News h₀ L h' (e :: (c, listOf vs.toArray n) :: (d, o) :: rest)) (hp : P v)
    (hd : Obj.IsDictOf (PySem.strKind Challenge.rw_pq1183_01.row.prog w) o [(Str.ofString "cells", .ref c), (Str.ofString "seed", .int sd t)]) (hi : IntsAre vs ns) (hl : ns.length ≤ 24) : Q v { s with heap := h', toks := tk' } :=
  H v h' tk' [(c, listOf vs.toArray n), (d, o)] hp ⟨vs, ns, n, o, sd, t, rfl, hd, hi, hl⟩ F fun p hp => N p (.tail _ hp)
abbrev InRange (below : Int) (v : Value) : Prop := ∃ x t, v = .int x t ∧ 0 ≤ x ∧ x < below
theorem next_C (w p loose mean mg mb) (rest T : List (Addr × Obj)) (c d : Addr) (below : Int) (tb : Tok) (hT : TapeOk w c d T) (hcd : @Ne Nat c d) (hrc : ∀ p ∈ rest, p.1 ≠ c) (hrd : ∀ p ∈ rest, p.1 ≠ d) (lo : (d == sysModules) = false) (hb : 0 < below) (hb2 : below < 1000) :
  Con w p loose mean mg mb 232 (T ++ rest) [.ref d, .int below tb] 2 100 (TRet w c d rest (InRange below)) := by
  obtain ⟨vs, ns, n, o, sd, t3, rfl, hd, hi, hlen⟩ := hT
  simp only [List.cons_append, List.nil_append]
  have hsz : vs.length ≤ sizeLine := by rw [hi.length, sizeLine_eq]; omega
  unfold Con prg
  k_fill
  intro dp un gd cn cs a ccd cl outer A₀ base h₀ L m s Q E B F X N T hk hdp hun hret
  refine wpAny_call ?_
  k_dflt cell_enter
  repeat (first | (k_unfold; (try dsimp only)) | ((fail_if_success (with_reducible show wpAny _ _ (compareOp CmpOp.NotEq (Value.ref _) (Value.ref _)) _ _ _)); first | walk1 | (dsimp only; walk1)))
  k_here
  with_unfolding_all refine' ne_intsK ?k1 ?k2 ?k3 ?k4 ?k5 ?_
  case k1 => is_list
  case k2 => l_intsC
  case k3 => is_list
  case k4 => l_intsC
  case k5 => ktr_units
  k_whole
  repeat (first | (k_unfold; (try dsimp only)) | ((fail_if_success (with_reducible show wpAny _ _ (call (Value.builtin "list.pop") _ _) _ _ _)); first | walk1 | (dsimp only; walk1)))
  · k_here
    k_dflt (refine' kpa_pop ?F ?N ?U ?i ?l ?z ?_; (case F => k_asm); (case N => k_asm); (case U => k_upd); (case i => assumption); (case l => (refine' pos_of ?l1 ?l2; (case l1 => assumption); (case l2 => assumption))); (case z => assumption))
    intro h' t' F' N' hI'
    try dsimp only [List.nil_append, List.cons_append] at N'
    k_steps
    refine' tret_end hret ?eF ?eN ?eP ?eD ?eI ?eL
    case eF => with_reducible assumption
    case eN => with_reducible assumption
    case eD => assumption
    case eI => assumption
    case eL => rw [List.length_dropLast]; omega
    case eP => exact ⟨_, _, rfl, (fmod_in _ hb).1, (fmod_in _ hb).2⟩
  · k_steps
    refine' tret_end hret ?eF ?eN ?eP ?eD ?eI ?eL
    case eF => with_reducible assumption
    case eN => with_reducible assumption
    case eD => assumption
    case eI => assumption
    case eL => assumption
    case eP => exact ⟨_, _, rfl, (fmod_in _ hb).1, (fmod_in _ hb).2⟩
end Mine
namespace Mine
section
variable {prog : Program} {w : World} {A : Around} {E : Value → Shared → Prop} {s : Shared} {h₀ : Heap} {L l : Addr} {m : Str → Option Value} {K : Frag} {lo : Obj} {items : Array Value} {n : Nat}
theorem base_list (F : Fr h₀ L s.heap m) (X : K.In h₀) (hk : K.lookup l = some lo) (hc : lo.cls = .type "list") (hd : lo.data = .seq items n) : s.heap.IsList l items := ⟨lo, F.keep _ _ (X _ _ hk), hc, n, hd⟩
theorem base_len {Q : Value → Shared → Prop} (F : Fr h₀ L s.heap m) (X : K.In h₀) (hk : K.lookup l = some lo) (hc : lo.cls = .type "list") (hd : lo.data = .seq items n) (hfit : (items.size : Int) < 2 ^ 63) (h : Q (.int (items.size : Int) (s.toks + 1)) { s with toks := s.toks + 1 + 1 }) :
    wpAny (model prog w) A (call (.builtin "len") [.ref l]) Q E s := len_list (base_list F X hk hc hd) hfit h
theorem base_item {value slice : PySem.Expr} {k : Int} {u : Tok} {x : Value} {Q : Value → Shared → Prop} (F : Fr h₀ L s.heap m) (X : K.In h₀) (hk : K.lookup l = some lo) (hc : lo.cls = .type "list") (hd : lo.data = .seq items n) (h0 : 0 ≤ k) (hfit : k < 2 ^ 63) (hx : items[k.toNat]? = some x) (h : Q x s)
    (hs : subscripted slice false (.ref l) (.int k u) = operate [.ref l, .int k u] (getItem (.ref l) (.int k u)) := by with_unfolding_all rfl) : wpAny (model prog w) A (subscriptTail value slice (.ref l) (.int k u)) Q E s :=
  tail_any (base_list F X hk hc hd).typeIs slot_list_getitem.lookup (wpAny_getItem_list (base_list F X hk hc hd) h0 hfit hx h) hs
theorem get_in {k : Int} (h0 : 0 ≤ k) (h1 : k < (items.size : Int)) : ∃ x, items[k.toNat]? = some x ∧ x ∈ items := by
  have h : k.toNat < items.size := by omega
  exact ⟨items[k.toNat], Array.getElem?_eq_getElem h, Array.getElem_mem h⟩
end
theorem pick_C (w p loose mean mg mb) (rest T : List (Addr × Obj)) (c d l : Addr) (lo : Obj) (items : Array Value) (n : Nat) (hT : TapeOk w c d T) (hcd : @Ne Nat c d) (hrc : ∀ p ∈ rest, p.1 ≠ c) (hrd : ∀ p ∈ rest, p.1 ≠ d) (ld : (d == sysModules) = false)
  (hk : (KK w.params).lookup l = some lo) (hc : lo.cls = .type "list") (hd : lo.data = .seq items n) (hs : 0 < items.size) (hs2 : items.size < 1000) (hh : ∀ x ∈ items, handedIn x = true) :
  Con w p loose mean mg mb 239 (T ++ rest) [.ref d, .ref l] 3 110 (TRet w c d rest (fun v => v ∈ items)) := by
  unfold Con prg
  k_fill
  intro dp un gd cn cs a ccd cl outer A₀ base h₀ L m s Q E B F X N T2 hk2 hdp hun hret
  refine wpAny_call ?_
  k_dflt cell_enter
  repeat (first | (k_unfold; (try dsimp only)) | ((fail_if_success (with_reducible show wpAny _ _ (call (Value.builtin "len") _ _) _ _ _)); first | walk1 | (dsimp only; walk1)))
  k_here
  k_dflt (refine' base_len ?k1 ?k2 ?k3 ?k4 ?k5 ?k6 ?_; (case k1 => k_asm); (case k2 => k_asm); (case k3 => assumption); (case k4 => assumption); (case k5 => assumption); (case k6 => omega))
  k_steps
  k_here
  k_dflt (cell_ask (next_C _ _ _ _ _ _ _ _ _ _ _ _ (by assumption) (by assumption) (by assumption) (by assumption) (by assumption) (by omega) (by omega)))
  intro v9 h9 tk9 T9 R9 O9 F9 N9
  obtain ⟨x9, t9, q9, r8, r9⟩ := R9
  subst q9
  obtain ⟨y9, y8, y7⟩ := get_in r8 r9
  try dsimp only
  try k_fold
  repeat (first | (k_unfold; (try dsimp only)) | ((fail_if_success (with_reducible show wpAny _ _ (subscriptTail _ _ (Value.ref _) (Value.int _ _)) _ _ _)); first | walk1 | (dsimp only; walk1)))
  k_here
  k_dflt (refine' base_item ?k1 ?k2 ?k3 ?k4 ?k5 ?k6 ?k7 ?k8 ?_ ?k9; (case k1 => k_asm); (case k2 => k_asm); (case k3 => assumption); (case k4 => assumption); (case k5 => assumption); (case k6 => assumption); (case k7 => omega); (case k8 => assumption); (case k9 => with_unfolding_all rfl))
  k_steps
  refine' hret _ _ _ _ ?a ?b ?c ?d
  case c => with_reducible assumption
  case d => with_reducible assumption
  case b => assumption
  case a => assumption
end Mine
namespace Mine
theorem tape_end {w : World} {news rest : List (Addr × Obj)} {h₀ g h' : Heap} {L L' : Addr} {m m' : Str → Option Value} {s : Shared} {Q : Value → Shared → Prop} {tk' : Nat} {c d : Addr} {vs : List Value} {ns : List Int} {n : Nat} {o : Obj} {sd : Int} {t : Tok}
    (H : ∀ c d h' tk' T', TapeOk w c d T' → @Ne Nat c d → (d == sysModules) = false → Fr h₀ L h' m → News h₀ L h' (T' ++ news) → Q (.ref d) { s with heap := h', toks := tk' }) (NG : News h₀ L g news) (F' : Fr g L' h' m') (F : Fr h₀ L h' m) (N : News h₀ L h' ((c, listOf (List.toArray vs) n) :: (d, o) :: rest))
    (hd : Obj.IsDictOf (PySem.strKind Challenge.rw_pq1183_01.row.prog w) o [(Str.ofString "cells", .ref c), (Str.ofString "seed", .int sd t)]) (hi : IntsAre vs ns) (hl : ns.length ≤ 24) (c1 : @Ne Nat c d) (c2 : (d == sysModules) = false) : Q (.ref d) { s with heap := h', toks := tk' } := by
  refine H c d h' tk' [(c, listOf vs.toArray n), (d, o)] ⟨vs, ns, n, o, sd, t, rfl, hd, hi, hl⟩ c1 c2 F (news_back NG F' fun p hp => N p ?_)
  rcases List.mem_cons.mp hp with rfl | hp
  · exact .head _
  · exact .tail _ (List.mem_cons.mpr (.inl (List.mem_singleton.mp hp)))
theorem tape_C (w p loose mean mg mb) (news : List (Addr × Obj)) (l : Addr) (vs : List Value) (ns : List Int) (hi : IntsAre vs ns) (hn : ns.length ≤ 63) :
  Con w p loose mean mg mb 225 news [.ref l] 3 100 (fun h₀ L m s Q => h₀.IsList l vs.toArray ∧ ∀ c d h' tk' T', TapeOk w c d T' → @Ne Nat c d → (d == sysModules) = false → Fr h₀ L h' m → News h₀ L h' (T' ++ news) → Q (.ref d) { s with heap := h', toks := tk' }) := by
  unfold Con prg
  k_fill
  intro dp un gd cn cs a ccd cl outer A₀ base h₀ L m s Q E B F X N T hk hdp hun hret
  obtain ⟨hL, hret⟩ := hret
  refine wpAny_call ?_
  k_dflt ktr_enter
  rename Fr h₀ L _ m => FG
  have hg := hL.at fun o e => FG.keep l o e
  clear hL
  repeat' (first | (k_unfold; (try dsimp only)) | (k_end; wrow_close) | (first | walk1 | (dsimp only; walk1) | (leave1; walk_say "STEP leave1"; try dsimp only)))
  refine' tape_end hret ?eG ?eF' ?cF ?cN ?hd ?hi ?hl ?c1 ?c2
  case cF => with_reducible assumption
  case cN => with_reducible assumption
  case hd => assumption
  case eG => with_reducible assumption
  case eF' => with_reducible assumption
  case hi => assumption
  case c2 => assumption
  case c1 => omega
  case hl => simp only [List.length_reverse, List.length_map, List.length_take]; omega
end Mine
namespace Mine
noncomputable def secOf (fs : Rows) : List (Option Int) := (fs[1]?).getD [none]
noncomputable def evOf (r : List (Option Int)) : Option Int := match r[1]? with
  | none => some 1
  | some o => o
noncomputable def heldOf (r : List (Option Int)) : Int := ((r[0]?).getD none).getD 1 - 1
noncomputable def headOf (fs : Rows) (i : Nat) : Option Int := match fs[i]? with
  | none => none
  | some r => (r[0]?).getD none
noncomputable def dueOf (r : Option Rows) (final : Int) : Option K4 := match r with
  | none => none
  | some fs => match evOf (secOf fs) with
    | none => none
    | some ev =>
      if heldOf (secOf fs) < 0 ∨ ¬ (1 ≤ ev ∧ ev ≤ 3) then none
      else if final = 90 then some (#[84, 97, 98], 0, heldOf (secOf fs) % 8 + 1 - heldOf (secOf fs) % 8 % 2, ev)
      else match findIn1 letterTable final with
        | some b => if fs.length < 3 ∧ (headOf fs 0 = none ∨ headOf fs 0 = some 1) ∧ (final ≠ 82 ∨ fs.length = 2) then some (b, 0, heldOf (secOf fs) % 8, ev) else none
        | none =>
          if final = 117 then (if fs.length < 4 then byCode ((headOf fs 0).getD 0) (heldOf (secOf fs) % 8) ev else none)
          else if final ≠ 126 then none
          else if (headOf fs 0).getD 0 = 27 ∧ fs.length = 3 then byCode ((headOf fs 2).getD 0) (heldOf (secOf fs) % 8) ev
          else match numName ((headOf fs 0).getD 0) with
            | some b => if fs.length < 3 then some (b, 0, heldOf (secOf fs) % 8, ev) else none
            | none => none
section
variable {fs : Rows} {final H ev K : Int} {o0 : Option Int} {r : Option K4}
theorem due_neg (he : evOf (secOf fs) = some ev) (hH : heldOf (secOf fs) = H) (h : H < 0 ∨ ¬ (1 ≤ ev ∧ ev ≤ 3)) : dueOf (some fs) final = none := by
  unfold dueOf; simp only [he, hH]; rw [if_pos h]
theorem due_tab (he : evOf (secOf fs) = some ev) (hH : heldOf (secOf fs) = H) (h : ¬ (H < 0 ∨ ¬ (1 ≤ ev ∧ ev ≤ 3))) (hK : K = H % 8) (h9 : final = 90) : dueOf (some fs) final = some (#[84, 97, 98], 0, K + 1 - K % 2, ev) := by
  subst hK; unfold dueOf; simp only [he, hH]; rw [if_neg h, if_pos h9]
theorem due_good (he : evOf (secOf fs) = some ev) (hH : heldOf (secOf fs) = H) (h : ¬ (H < 0 ∨ ¬ (1 ≤ ev ∧ ev ≤ 3))) (hK : K = H % 8) (h9 : ¬ final = 90) {b : Array UInt8} (hl : findIn1 letterTable final = some b) (hg : fs.length < 3 ∧ (headOf fs 0 = none ∨ headOf fs 0 = some 1) ∧ (final ≠ 82 ∨ fs.length = 2)) : dueOf (some fs) final = some (b, 0, K, ev) := by
  subst hK; unfold dueOf; simp only [he, hH]; rw [if_neg h, if_neg h9]; simp only [hl]; rw [if_pos hg]
theorem due_bad (he : evOf (secOf fs) = some ev) (hH : heldOf (secOf fs) = H) (h : ¬ (H < 0 ∨ ¬ (1 ≤ ev ∧ ev ≤ 3))) (h9 : ¬ final = 90) {b : Array UInt8} (hl : findIn1 letterTable final = some b) (hg : ¬ (fs.length < 3 ∧ (headOf fs 0 = none ∨ headOf fs 0 = some 1) ∧ (final ≠ 82 ∨ fs.length = 2))) : dueOf (some fs) final = none := by
  unfold dueOf; simp only [he, hH]; rw [if_neg h, if_neg h9]; simp only [hl]; rw [if_neg hg]
theorem due_code (he : evOf (secOf fs) = some ev) (hH : heldOf (secOf fs) = H) (h : ¬ (H < 0 ∨ ¬ (1 ≤ ev ∧ ev ≤ 3))) (hK : K = H % 8) (h9 : ¬ final = 90) (hl : findIn1 letterTable final = none) (h7 : final = 117) (hn : fs.length < 4) {n : Int} (h0 : (headOf fs 0).getD 0 = n) (hr : byCode n K ev = r) : dueOf (some fs) final = r := by
  subst hK h0 hr; unfold dueOf; simp only [he, hH]; rw [if_neg h, if_neg h9]; simp only [hl]; rw [if_pos h7, if_pos hn]
theorem due_long (he : evOf (secOf fs) = some ev) (hH : heldOf (secOf fs) = H) (h : ¬ (H < 0 ∨ ¬ (1 ≤ ev ∧ ev ≤ 3))) (h9 : ¬ final = 90) (hl : findIn1 letterTable final = none) (h7 : final = 117) (hn : ¬ fs.length < 4) : dueOf (some fs) final = none := by
  unfold dueOf; simp only [he, hH]; rw [if_neg h, if_neg h9]; simp only [hl]; rw [if_pos h7, if_neg hn]
theorem due_other (he : evOf (secOf fs) = some ev) (hH : heldOf (secOf fs) = H) (h : ¬ (H < 0 ∨ ¬ (1 ≤ ev ∧ ev ≤ 3))) (h9 : ¬ final = 90) (hl : findIn1 letterTable final = none) (h7 : ¬ final = 117) (h6 : final ≠ 126) : dueOf (some fs) final = none := by
  unfold dueOf; simp only [he, hH]; rw [if_neg h, if_neg h9]; simp only [hl]; rw [if_neg h7, if_pos h6]
theorem due_27 (he : evOf (secOf fs) = some ev) (hH : heldOf (secOf fs) = H) (h : ¬ (H < 0 ∨ ¬ (1 ≤ ev ∧ ev ≤ 3))) (hK : K = H % 8) (h9 : ¬ final = 90) (hl : findIn1 letterTable final = none) (h7 : ¬ final = 117) (h6 : final = 126) {n : Int} (h0 : (headOf fs 0).getD 0 = n) (hn : n = 27 ∧ fs.length = 3) {k : Int} (h2 : (headOf fs 2).getD 0 = k) (hr : byCode k K ev = r) : dueOf (some fs) final = r := by
  subst hK h0 hr h2; unfold dueOf; simp only [he, hH]; rw [if_neg h, if_neg h9]; simp only [hl]; rw [if_neg h7, if_neg (by omega), if_pos hn]
theorem due_num (he : evOf (secOf fs) = some ev) (hH : heldOf (secOf fs) = H) (h : ¬ (H < 0 ∨ ¬ (1 ≤ ev ∧ ev ≤ 3))) (hK : K = H % 8) (h9 : ¬ final = 90) (hl : findIn1 letterTable final = none) (h7 : ¬ final = 117) (h6 : final = 126) {n : Int} (h0 : (headOf fs 0).getD 0 = n) (hn : ¬ (n = 27 ∧ fs.length = 3)) {b : Array UInt8} (hb : numName n = some b) (hs : fs.length < 3) : dueOf (some fs) final = some (b, 0, K, ev) := by
  subst hK h0; unfold dueOf; simp only [he, hH]; rw [if_neg h, if_neg h9]; simp only [hl]; rw [if_neg h7, if_neg (by omega), if_neg hn]; simp only [hb]; rw [if_pos hs]
theorem due_nonum (he : evOf (secOf fs) = some ev) (hH : heldOf (secOf fs) = H) (h : ¬ (H < 0 ∨ ¬ (1 ≤ ev ∧ ev ≤ 3))) (h9 : ¬ final = 90) (hl : findIn1 letterTable final = none) (h7 : ¬ final = 117) (h6 : final = 126) {n : Int} (h0 : (headOf fs 0).getD 0 = n) (hn : ¬ (n = 27 ∧ fs.length = 3)) (hs : numName n = none ∨ ¬ fs.length < 3) : dueOf (some fs) final = none := by
  subst h0; unfold dueOf; simp only [he, hH]; rw [if_neg h, if_neg h9]; simp only [hl]; rw [if_neg h7, if_neg (by omega), if_neg hn]
  rcases hs with hs | hs
  · simp only [hs]
  · split
    · rw [if_neg hs]
    · rfl
end
end Mine
namespace Mine
/-- the bytes of a text's codes, as bytes([ord(sign) ..]) makes them -/
noncomputable def octets (x : Str) : Array UInt8 := ((x.cps.toList.map fun (c : Nat) => (c : Int)).map fun n => n.toNat.toUInt8).toArray
theorem octets_back {x : Str} (hx : ∀ c ∈ x.cps.toList, c < 256) : (octets x).toList.map UInt8.toNat = x.cps.toList := by
  unfold octets
  simp only [List.map_map]
  have : ∀ l : List Nat, (∀ c ∈ l, c < 256) → l.map (UInt8.toNat ∘ (fun n : Int => n.toNat.toUInt8) ∘ fun c : Nat => (c : Int)) = l := by
    intro l
    induction l with
    | nil => intro _; rfl
    | cons a r ih =>
      intro h
      rw [List.map_cons, ih fun c hc => h c (.tail _ hc)]
      congr 1
      have := h a (.head _)
      show ((a : Int).toNat).toUInt8.toNat = a
      rw [Int.toNat_natCast]
      show a % 256 = a
      omega
  simpa using this _ hx
theorem octets_size (x : Str) : (octets x).size = x.length := by simp [octets, Str.length]
theorem splitAux_map {α β : Type} [DecidableEq α] [DecidableEq β] (f : α → β) (hf : ∀ a b, f a = f b → a = b) (x : α) : ∀ (l cur : List α), splitAux (f x) (cur.map f) (l.map f) = (splitAux x cur l).map (List.map f)
  | [], cur => by simp [splitAux]
  | c :: r, cur => by
    rw [List.map_cons, splitAux, splitAux]
    by_cases h : c = x
    · subst h
      rw [if_pos rfl, if_pos rfl]
      have := splitAux_map f hf c r []
      rw [List.map_nil] at this
      rw [this, List.map_cons]
    · rw [if_neg h, if_neg fun e => h (hf _ _ e)]
      have := splitAux_map f hf x r (cur ++ [c])
      rw [List.map_append] at this
      exact this
theorem mapO_congr {α β γ : Type} {f : α → Option β} {g : γ → Option β} (h : α → γ) : ∀ (l : List α), (∀ a ∈ l, f a = g (h a)) → mapO f l = mapO g (l.map h)
  | [], _ => rfl
  | a :: r, e => by
    rw [List.map_cons, mapO, mapO, e a (.head _), mapO_congr h r fun b hb => e b (.tail _ hb)]
theorem mapO_of {α β γ : Type} {f : γ → Option β} {h : α → γ} : ∀ (l : List α), mapO f (l.map h) = mapO (fun a => f (h a)) l
  | [] => rfl
  | a :: r => by rw [List.map_cons, mapO, mapO, mapO_of r]
/-- a row, of its codes -/
noncomputable def lrowL (cs : List Nat) : Option (List (Option Int)) := mapO lcell (splitAux 58 [] cs)
theorem lrow_eq (p : Str) : lrowOf p = lrowL p.cps.toList := by
  unfold lrowOf lrowL
  rw [← split_codes, mapO_of]; rfl
theorem lfields_eq (x : Str) : lfieldsOf x = mapO lrowL (splitAux 59 [] x.cps.toList) := by
  unfold lfieldsOf
  rw [← split_codes, mapO_of]
  congr 1
  funext p; exact lrow_eq p
theorem digits_same (q : List UInt8) (h : ∀ c ∈ q, 48 ≤ c.toNat ∧ c.toNat ≤ 57) : ∀ n : Nat, (((q.map UInt8.toNat).foldl (fun acc c => acc * 10 + (c - 48)) n : Nat) : Int) = (q.map fun c => ((c.toNat : Nat) : Int)).foldl (fun n o => 10 * n + o - 48) (n : Int) := by
  induction q with
  | nil => intro n; rfl
  | cons c r ih =>
    intro n
    simp only [List.map_cons, List.foldl_cons]
    rw [ih (fun d hd => h d (.tail _ hd))]
    congr 1
    have := h c (.head _)
    omega
theorem lcell_eq (q : List UInt8) : lcell (q.map UInt8.toNat) = cellOf q.toArray := by
  unfold lcell cellOf
  cases q with
  | nil => simp
  | cons c r =>
    have e1 : (c :: r).toArray ≠ #[] := by simp
    have e2 : (c :: r).map UInt8.toNat ≠ [] := by simp
    rw [if_neg e1, if_neg e2]
    have eb : KBw.bInts (c :: r).toArray = (c :: r).map fun c => ((c.toNat : Nat) : Int) := by simp [KBw.bInts]
    unfold numOf
    rw [eb]
    by_cases hb : ∃ d ∈ c :: r, ¬ (48 ≤ d.toNat ∧ d.toNat ≤ 57)
    · obtain ⟨d, hd, hx⟩ := hb
      rw [if_pos ⟨d.toNat, List.mem_map.mpr ⟨d, hd, rfl⟩, hx⟩, if_pos]
      exact .inr ⟨_, List.mem_map.mpr ⟨d, hd, rfl⟩, by unfold digit; omega⟩
    · have hall : ∀ d ∈ c :: r, 48 ≤ d.toNat ∧ d.toNat ≤ 57 := fun d hd => Classical.byContradiction fun hx => hb ⟨d, hd, hx⟩
      rw [if_neg, if_neg]
      · simp only [digs]
        rw [show ((0 : Int)) = ((0 : Nat) : Int) from rfl, ← digits_same _ hall 0]; rfl
      · rintro (h | ⟨x, hx, hn⟩)
        · simp at h
        · obtain ⟨d, hd, rfl⟩ := List.mem_map.mp hx
          have := hall d hd
          apply hn; unfold digit; omega
      · rintro ⟨x, hx, hn⟩
        obtain ⟨d, hd, rfl⟩ := List.mem_map.mp hx
        exact hn (hall d hd)
theorem u8_inj : ∀ a b : UInt8, a.toNat = b.toNat → a = b := fun _ _ h => UInt8.toNat_inj.mp h
theorem lrow_row (q : List UInt8) : lrowL (q.map UInt8.toNat) = rowOf q.toArray := by
  unfold lrowL rowOf
  rw [bparts_eq, mapO_of]
  have e := splitAux_map UInt8.toNat u8_inj (58 : UInt8) q []
  rw [List.map_nil] at e
  rw [show (58 : Nat) = (58 : UInt8).toNat from rfl, e, mapO_of]
  congr 1
  funext c; exact lcell_eq c
theorem fields_link {x : Str} (hx : ∀ c ∈ x.cps.toList, c < 256) : lfieldsOf x = if octets x = #[] then some [[none]] else fieldsOf (octets x) := by
  have hb := octets_back hx
  rw [lfields_eq, ← hb]
  have e := splitAux_map UInt8.toNat u8_inj (59 : UInt8) (octets x).toList []
  rw [List.map_nil] at e
  rw [show (59 : Nat) = (59 : UInt8).toNat from rfl, e, mapO_of]
  by_cases h : octets x = #[]
  · rw [if_pos h, h]; decide
  · rw [if_neg h]
    unfold fieldsOf
    rw [if_neg h, bparts_eq, mapO_of]
    congr 1
    funext c; exact lrow_row c
end Mine
namespace Mine
theorem letter_f3 {final : Int} {b : Array UInt8} (h : findIn1 letterTable final = some b) : b = #[70, 51] ↔ final = 82 := by
  constructor
  · intro e
    subst e
    apply Classical.byContradiction
    intro hn
    simp only [letterTable, findIn1] at h
    repeat' (split at h; first | (exact absurd h (by decide)) | (omega))
    all_goals first | cases h | omega
  · rintro rfl
    exact (Option.some.inj h).symm
theorem letter_90 : findIn1 letterTable 90 = none := by decide
theorem cell_held (fs : Rows) : cellV fs 1 0 1 - 1 = heldOf (secOf fs) := by
  unfold cellV heldOf secOf
  rcases fs[1]? with _ | r
  · rfl
  · dsimp only [Option.getD_some]
    rcases r[0]? with _ | _ | x <;> rfl
theorem cell_ev {fs : Rows} (h : ∀ r, fs[1]? = some r → r[1]? ≠ some none) : evOf (secOf fs) = some (cellV fs 1 1 1) := by
  unfold cellV secOf evOf
  rcases e : fs[1]? with _ | r
  · rfl
  · have h1 := h r e
    dsimp only [Option.getD_some]
    rcases e1 : r[1]? with _ | _ | x
    · rfl
    · exact absurd e1 h1
    · rfl
theorem cell_head (fs : Rows) (i : Nat) (d : Int) : cellV fs i 0 d = (headOf fs i).getD d := by
  unfold cellV headOf
  rcases fs[i]? with _ | r
  · rfl
  · dsimp only
    rcases r[0]? with _ | _ | x <;> rfl
theorem head_one (o : Option Int) : o.getD 1 ≠ 1 ↔ ¬ (o = none ∨ o = some 1) := by
  rcases o with _ | x
  · simp
  · simp
theorem byCode_zero (h ev : Int) : byCode 0 h ev = none := by
  unfold byCode
  rw [if_neg]
  simp [isSign]; decide
theorem keyOf_some {fs : Rows} (hne : fs ≠ []) (h : ∀ r, fs[1]? = some r → r[1]? ≠ some none) (final : Int) : keyOf (some fs) final = dueOf (some fs) final := by
  have hp : 0 < fs.length := List.length_pos_iff.mpr hne
  unfold keyOf dueOf
  dsimp only
  rw [cell_ev h, cell_held]
  dsimp only
  generalize heldOf (secOf fs) = H
  generalize cellV fs 1 1 1 = ev
  by_cases h1 : H < 0 ∨ ¬ (1 ≤ ev ∧ ev ≤ 3)
  · rw [if_pos h1, if_pos h1]
  rw [if_neg h1, if_neg h1]
  by_cases h2 : final = 126
  · subst h2
    rw [if_pos rfl, if_neg (by decide), show findIn1 letterTable 126 = none from by decide]
    dsimp only
    rw [if_neg (by decide), if_neg (by decide)]
    unfold byNumber
    rw [cell_head, cell_head]
    by_cases h3 : (headOf fs 0).getD 0 = 27 ∧ fs.length = 3
    · rw [if_pos h3, if_pos h3]
    rw [if_neg h3, if_neg h3]
    by_cases h4 : 2 < fs.length
    · rw [if_pos h4]
      split
      · rw [if_neg (by omega)]
      · rfl
    · rw [if_neg h4]
      rcases numName ((headOf fs 0).getD 0) with _ | b
      · rfl
      · dsimp only; rw [if_pos (by omega)]
  rw [if_neg h2]
  by_cases h3 : final = 117
  · subst h3
    rw [if_pos rfl, if_neg (show ¬ (117 : Int) = 90 by decide), show findIn1 letterTable 117 = none from by decide]
    dsimp only
    rw [if_pos rfl, cell_head]
    by_cases h4 : fs.length < 4
    · rw [if_pos h4, if_pos ⟨hp, by omega⟩]
    · rw [if_neg h4, if_neg (by omega)]
  rw [if_neg h3]
  unfold byLetter
  by_cases h4 : final = 90
  · rw [if_pos h4, if_pos h4]
  rw [if_neg h4, if_neg h4]
  rcases e : findIn1 letterTable final with _ | b
  · dsimp only
    rw [if_neg h3, if_pos h2]
  · dsimp only
    have hb := letter_f3 e
    have ho := head_one (headOf fs 0)
    rw [cell_head]
    by_cases g1 : 2 < fs.length ∨ (headOf fs 0).getD 1 ≠ 1
    · rw [if_pos g1, if_neg]
      rintro ⟨a1, a2, a3⟩
      rcases g1 with g1 | g1
      · omega
      · exact ho.mp g1 a2
    · rw [if_neg g1]
      have g2 : ¬ 2 < fs.length := fun e => g1 (.inl e)
      have g3 : headOf fs 0 = none ∨ headOf fs 0 = some 1 := Classical.byContradiction fun hn => g1 (.inr (ho.mpr hn))
      by_cases g4 : b = #[70, 51] ∧ fs.length < 2
      · rw [if_pos g4, if_neg]
        rintro ⟨a1, a2, a3⟩
        rcases a3 with a3 | a3
        · exact a3 (hb.mp g4.1)
        · omega
      · rw [if_neg g4, if_pos]
        refine ⟨by omega, g3, ?_⟩
        by_cases h8 : final = 82
        · right
          have : ¬ fs.length < 2 := fun e => g4 ⟨hb.mpr h8, e⟩
          omega
        · exact .inl h8
theorem keyOf_nil (final : Int) : keyOf (some []) final = dueOf (some [[none]]) final := by
  have hs := keyOf_some (fs := [[none]]) (by simp) (by intro r hr; simp at hr) final
  rw [← hs]
  unfold keyOf
  dsimp only
  have a : ∀ i j d, cellV [] i j d = d := fun _ _ _ => rfl
  have b : cellV [[none]] 1 0 1 = 1 := rfl
  have c : cellV [[none]] 1 1 1 = 1 := rfl
  have d : cellV [[none]] 0 0 0 = 0 := rfl
  simp only [a, b, c, d]
  have z : ¬ ((1 : Int) - 1 < 0 ∨ ¬ ((1 : Int) ≤ 1 ∧ (1 : Int) ≤ 3)) := by decide
  rw [if_neg z, if_neg z]
  by_cases h2 : final = 126
  · rw [if_pos h2, if_pos h2]; decide
  rw [if_neg h2, if_neg h2]
  by_cases h3 : final = 117
  · rw [if_pos h3, if_pos h3, if_neg (by decide), if_pos (by decide), byCode_zero]
  rw [if_neg h3, if_neg h3]
  unfold byLetter
  have e : cellV [[none]] 0 0 1 = 1 := rfl
  rw [a, e]
  rcases findIn1 letterTable final with _ | b
  · rfl
  · simp
theorem agree {x : Str} (hx : ∀ c ∈ x.cps.toList, c < 256) (hsec : ∀ fs r, lfieldsOf x = some fs → fs[1]? = some r → r[1]? ≠ some none) (final : Int) : keyOf (fieldsOf (octets x)) final = dueOf (lfieldsOf x) final := by
  have hl := fields_link hx
  by_cases h : octets x = #[]
  · rw [if_pos h] at hl
    rw [hl, h]
    show keyOf (some []) final = _
    exact keyOf_nil final
  · rw [if_neg h] at hl
    rw [← hl]
    rcases e : lfieldsOf x with _ | fs
    · rfl
    · refine keyOf_some ?_ (fun r hr => hsec fs r e hr) final
      have h1 := mapO_len (show mapO lrowOf (Txt.split x ⟨#[59]⟩) = some fs from e)
      have h2 := split_ne x ⟨#[59]⟩
      intro hn
      rw [hn] at h1
      exact h2 (List.eq_nil_of_length_eq_zero h1.symm)
/-- a word of a menu -/
noncomputable def Word (x : Str) : Prop := x.length ≤ 8 ∧ ∀ c ∈ x.cps.toList, c < 256 ∧ c ≠ 59
noncomputable def Second (x : Str) : Prop := Word x ∧ ∀ r, lrowL x.cps.toList = some r → r[1]? ≠ some none
theorem join_rows {ws : List Str} (hne : ws ≠ []) (hw : ∀ p ∈ ws, Word p) : lfieldsOf (Str.join ⟨#[59]⟩ ws) = mapO (fun p => lrowL p.cps.toList) ws := by
  rw [lfields_eq, codes_join 59 ws hne fun p hp h => ((hw p hp).2 59 h).2 rfl, mapO_of]
theorem mapO_get {α β : Type} {f : α → Option β} : ∀ {l : List α} {bs : List β} {i : Nat} {b : β}, mapO f l = some bs → bs[i]? = some b → ∃ a, l[i]? = some a ∧ f a = some b
  | [], bs, i, b, h, hb => by cases h; simp at hb
  | c :: r, bs, i, b, h, hb => by
    simp only [mapO] at h
    rcases h1 : f c with _ | x
    · rw [h1] at h; cases h
    · rcases h2 : mapO f r with _ | xs
      · rw [h1, h2] at h; cases h
      · rw [h1, h2] at h
        cases h
        cases i with
        | zero => simp at hb; subst hb; exact ⟨c, rfl, h1⟩
        | succ i => 
          rw [List.getElem?_cons_succ] at hb
          obtain ⟨a, ha, e⟩ := mapO_get h2 hb
          exact ⟨a, by rw [List.getElem?_cons_succ]; exact ha, e⟩
theorem join_codes (ws : List Str) : ∀ c ∈ (Str.join ⟨#[59]⟩ ws).cps.toList, c = 59 ∨ ∃ p ∈ ws, c ∈ p.cps.toList := by
  induction ws with
  | nil => intro c hc; exact absurd hc List.not_mem_nil
  | cons a r ih =>
    cases r with
    | nil => intro c hc; exact .inr ⟨a, .head _, hc⟩
    | cons b r =>
      intro c hc
      replace hc : c ∈ ((a ++ ⟨#[59]⟩) ++ Str.join ⟨#[59]⟩ (b :: r)).cps.toList := hc
      rw [Str.cps_append, Str.cps_append] at hc
      simp only [Array.toList_append, List.mem_append] at hc
      rcases hc with (hc | hc) | hc
      · exact .inr ⟨a, .head _, hc⟩
      · exact .inl (by simpa using hc)
      · rcases ih c hc with h | ⟨p, hp, h⟩
        · exact .inl h
        · exact .inr ⟨p, .tail _ hp, h⟩
/-- what a body is -/
noncomputable def Body (x : Str) : Prop := x.length ≤ 60 ∧ (∀ c ∈ x.cps.toList, c < 256) ∧ ∀ fs r, lfieldsOf x = some fs → fs[1]? = some r → r[1]? ≠ some none
theorem join_length (ws : List Str) (hw : ∀ p ∈ ws, Word p) : (Str.join ⟨#[59]⟩ ws).length ≤ 9 * ws.length := by
  induction ws with
  | nil => decide
  | cons a r ih =>
    have ha := (hw a (.head _)).1
    cases r with
    | nil =>
      show a.length ≤ _
      simp; omega
    | cons b r =>
      have := ih fun p hp => hw p (.tail _ hp)
      show ((a ++ ⟨#[59]⟩) ++ Str.join ⟨#[59]⟩ (b :: r)).length ≤ _
      rw [Str.length_append, Str.length_append]
      have e : (⟨#[59]⟩ : Str).length = 1 := rfl
      simp only [List.length_cons] at *
      omega
theorem body_of {ws : List Str} (hw : ∀ p ∈ ws, Word p) (hl : ws.length ≤ 4) (h2 : ∀ p, ws[1]? = some p → Second p) : Body (Str.join ⟨#[59]⟩ ws) := by
  have h1 := join_length ws hw
  refine ⟨by omega, fun c hc => ?_, fun fs r hf hr => ?_⟩
  · rcases join_codes ws c hc with h | ⟨p, hp, h⟩
    · omega
    · exact ((hw p hp).2 c h).1
  · cases ws with
    | nil =>
      have e : lfieldsOf (Str.join ⟨#[59]⟩ []) = some [[none]] := by rw [lfields_eq]; decide
      rw [e] at hf
      cases hf
      simp at hr
    | cons a rs =>
      rw [join_rows (by simp) hw] at hf
      obtain ⟨p, hp, e⟩ := mapO_get hf hr
      exact (h2 p hp).2 r e
end Mine
namespace Mine
theorem len_ne {α : Type} {l : List α} {n : Nat} (h : l.length = n) (hn : 0 < n) : l ≠ [] := by
  intro e; subst e; simp at h; omega
theorem pos_ne {α : Type} {l : List α} (h : l ≠ []) : 0 < l.length := by
  cases l with
  | nil => exact absurd rfl h
  | cons a r => simp
theorem lrow_len {p : Str} {row : List (Option Int)} (h : lrowOf p = some row) : row.length ≤ p.length + 1 ∧ row ≠ [] := by
  have h1 := mapO_len h
  have h2 := split_ne p ⟨#[58]⟩
  have h3 := pos_ne h2
  exact ⟨by rw [h1]; exact (split_size p 58).2, len_ne h1 h3⟩
theorem lfields_small {x : Str} {fs : Rows} (hb : x.length ≤ 60) (h : lfieldsOf x = some fs) : fs.length < 1000 ∧ (∀ r ∈ fs, r.length < 1000) ∧ fs ≠ [] ∧ ∀ r ∈ fs, r ≠ [] := by
  have h1 := mapO_len h
  have h2 := split_size x 59
  refine ⟨by omega, fun r hr => ?_, len_ne h1 (pos_ne (split_ne _ _)), fun r hr => ?_⟩
  · obtain ⟨p, hp, e⟩ := mapO_mem h hr
    have := (lrow_len e).1
    have := h2.1 p hp
    omega
  · obtain ⟨p, hp, e⟩ := mapO_mem h hr
    exact (lrow_len e).2
inductive SecP (g : Heap) (L' : Addr) (m2 : Str → Option Value) (new9 : List (Addr × Obj)) (sec : List (Option Int)) (s₁ : Shared) : Value → Shared → Prop
  | mk (S : Addr) (ws : List Value) (n2 : Nat) (h2 : Heap) (tk2 : Nat) (nw : List (Addr × Obj)) : Fr g L' h2 m2 → News g L' h2 nw → (∀ p ∈ new9, p ∈ nw) → (S, listOf ws.toArray n2) ∈ nw → DatAll nw ws (sec.map cellD) → ws.length = sec.length → SecP g L' m2 new9 sec s₁ (.ref S) { s₁ with heap := h2, toks := tk2 }
theorem sec_split {prog : Program} {w : World} {A : Around} {E : Value → Shared → Prop} {s₁ : Shared} {Q : Value → Shared → Prop} {t : Sem Value} {g : Heap} {L' : Addr} {m2 : Str → Option Value} {new9 : List (Addr × Obj)} (sec : List (Option Int)) (_ : Fr g L' s₁.heap m2) (_ : News g L' s₁.heap new9) (h1 : wpAny (model prog w) A t (SecP g L' m2 new9 sec s₁) E s₁)
    (h2 : ∀ S ws n2 h2 tk2 nw, Fr g L' h2 m2 → News g L' h2 nw → (∀ p ∈ new9, p ∈ nw) → (S, listOf ws.toArray n2) ∈ nw → DatAll nw ws (sec.map cellD) → ws.length = sec.length → Q (.ref S) { s₁ with heap := h2, toks := tk2 }) : wpAny (model prog w) A t Q E s₁ :=
  wpAny_mono h1 (fun _ _ h => by cases h with | mk S ws n2 h' tk2 nw a b c d e f => exact h2 S ws n2 h' tk2 nw a b c d e f) fun _ _ h => h
theorem sec_cell0 {fs : Rows} {news : List (Addr × Obj)} {ws : List Value} (hne : ∀ r ∈ fs, r ≠ []) (d : DatAll news ws ((secOf fs).map cellD)) : (((secOf fs)[0]?).getD none = none ∧ ws[(0 : Int).toNat]? = some .none) ∨ ∃ i t, ((secOf fs)[0]?).getD none = some i ∧ ws[(0 : Int).toNat]? = some (.int i t) := by
  have hn : secOf fs ≠ [] := by
    unfold secOf
    rcases e : fs[1]? with _ | r
    · simp
    · exact hne r (List.mem_of_getElem? e)
  rcases e : (secOf fs)[0]? with _ | o
  · have h1 := List.getElem?_eq_none_iff.mp e
    exact absurd (List.eq_nil_of_length_eq_zero (by omega)) hn
  · rcases cell_open d e with ⟨h1, h2⟩ | ⟨i, t, h1, h2⟩
    · exact .inl ⟨h1, h2⟩
    · exact .inr ⟨i, t, h1, h2⟩
theorem ditem_al {prog : Program} {w : World} {A : Around} {E : Value → Shared → Prop} {s : Shared} {h₀ : Heap} {L d : Addr} {news : List (Addr × Obj)} {o : Obj} {kvs : List (Int × Value)} {i : Int} {t : Tok} {Q : Value → Shared → Prop} {value slice : PySem.Expr} {b : Array UInt8} (tab : List (Int × Array UInt8)) (N : News h₀ L s.heap news) (hm : (d, o) ∈ news) (hd : Obj.IsDictOf (intKind prog w) o kvs)
    (al : Aligned kvs tab) (hb : findIn1 tab i = some b) (h1 : ∀ t, Q (.bytes b t) { s with toks := s.toks + 1 })
    (hs : subscripted slice false (.ref d) (.int i t) = operate [.ref d, .int i t] (getItem (.ref d) (.int i t)) := by with_unfolding_all rfl) : wpAny (model prog w) A (subscriptTail value slice (.ref d) (.int i t)) Q E s := by
  rcases al_get kvs tab i al with ⟨b', t', e1, e2⟩ | ⟨e1, e2⟩
  · rw [hb] at e2; cases e2
    exact ditem N hm hd e1 (h1 _) hs
  · rw [hb] at e2; cases e2
section
variable {prog : Program} {w : World} {A : Around} {E : Value → Shared → Prop} {s : Shared} {h₀ : Heap} {L d : Addr} {news : List (Addr × Obj)} {Q : Value → Shared → Prop}
theorem tup_is {ys : Array Value} (N : News h₀ L s.heap news) (hm : (d, { cls := .type "tuple", data := .seq ys }) ∈ news) : s.heap.IsTuple d ys := ⟨_, (N _ hm).1, rfl, _, rfl⟩
theorem notin_none {ys : List Value} {ns : List Int} (N : News h₀ L s.heap news) (hm : (d, { cls := .type "tuple", data := .seq ys.toArray }) ∈ news) (hi : CarriedAll ys (ns.map PyData.int)) (hc : PyData.canLayAll0 (ns.map PyData.int) = true) (hu : A.units + 64 < cLine) (h : Q (.bool true) s) :
    wpAny (model prog w) A (compareOp .NotIn .none (.ref d)) Q E s := by
  refine SeqAt.notIn_tuple_reads (reads_newDataT (tup_is N hm) hi) (d := .none) .none hc rfl (by simp [PyData.depth]; omega) ?_
  have e : ((ns.map PyData.int).any fun y => PyData.eqv y .none) = false := by
    rw [List.any_eq_false]
    intro y hy
    obtain ⟨n, _, rfl⟩ := List.mem_map.mp hy
    simp [PyData.eqv]
  rw [e]; exact h
theorem in_n1_none {t : Tok} (N : News h₀ L s.heap news) (hm : (d, { cls := .type "tuple", data := .seq #[.none, .int 1 t] }) ∈ news) (hu : A.units + 64 < cLine) (h : Q (.bool true) s) :
    wpAny (model prog w) A (compareOp .In .none (.ref d)) Q E s := by
  refine SeqAt.in_tuple_reads (reads_newDataT (ys := [.none, .int 1 t]) (ds := [.none, .int 1]) (tup_is N hm) (.cons .none (.cons (.int _ _) .nil))) (d := .none) .none rfl rfl (by simp [PyData.depth]; omega) ?_
  exact h
theorem in_n1_int {i : Int} {t u : Tok} (N : News h₀ L s.heap news) (hm : (d, { cls := .type "tuple", data := .seq #[.none, .int 1 t] }) ∈ news) (hu : A.units + 64 < cLine) (h : Q (.bool (decide (i = 1))) s) :
    wpAny (model prog w) A (compareOp .In (.int i u) (.ref d)) Q E s := by
  refine SeqAt.in_tuple_reads (reads_newDataT (ys := [.none, .int 1 t]) (ds := [.none, .int 1]) (tup_is N hm) (.cons .none (.cons (.int _ _) .nil))) (d := .int i) (.int i u) rfl rfl (by simp [PyData.depth]; omega) ?_
  have e : ([PyData.none, PyData.int 1].any fun y => PyData.eqv y (.int i)) = decide (i = 1) := by
    simp only [PyData.eqv, List.any_cons, List.any_nil, Bool.or_false, Bool.false_or]
    by_cases h : i = 1
    · subst h; rfl
    · rw [decide_eq_false h]; exact beq_eq_false_iff_ne.mpr (Ne.symm h)
  rw [e]; exact h
end
theorem any3 (ev : Int) : (([1, 2, 3] : List Int).any fun x => x == ev) = true ↔ 1 ≤ ev ∧ ev ≤ 3 := by
  simp only [List.any_cons, List.any_nil, Bool.or_false, Bool.or_eq_true, beq_iff_eq]; omega
theorem any3f (ev : Int) : (([1, 2, 3] : List Int).any fun x => x == ev) = false ↔ ¬ (1 ≤ ev ∧ ev ≤ 3) := by
  rw [← any3, Bool.not_eq_true]
noncomputable def FirstR (o : Option Int) (v : Value) : Prop := (o = none ∧ v = .none) ∨ ∃ i t, o = some i ∧ v = .int i t
theorem cell_first {news : List (Addr × Obj)} {ws : List Value} {r : List (Option Int)} (h : DatAll news ws (r.map cellD)) {j : Nat} {o : Option Int} (e : r[j]? = some o) : ∃ v, ws[j]? = some v ∧ FirstR o v := by
  rcases cell_open h e with ⟨h1, h2⟩ | ⟨i, t, h1, h2⟩
  · exact ⟨_, h2, .inl ⟨h1, rfl⟩⟩
  · exact ⟨_, h2, .inr ⟨i, t, h1, rfl⟩⟩
theorem head_cell {fs : Rows} {news : List (Addr × Obj)} {vs : List Value} (hd : DatAll news vs (fs.map rowD)) (z4 : ∀ r ∈ fs, r ≠ []) (z2 : ∀ r ∈ fs, r.length < 1000) {i : Nat} (hi : i < fs.length) :
    ∃ (R : Addr) (ws : List Value) (n : Nat) (v : Value), vs[i]? = some (.ref R) ∧ (R, listOf ws.toArray n) ∈ news ∧ ws.length < 1000 ∧ 0 < ws.length ∧ ws[0]? = some v ∧ FirstR (headOf fs i) v := by
  obtain ⟨r, q⟩ : ∃ r, fs[i]? = some r := ⟨_, List.getElem?_eq_getElem hi⟩
  have hr := List.mem_of_getElem? q
  have h2 := z2 r hr
  have h4 := z4 r hr
  obtain ⟨R, ws, n, e1, e2, e3, e4⟩ := row_open hd q
  obtain ⟨o, p⟩ : ∃ o, r[0]? = some o := by
    rcases q : r[0]? with _ | o
    · have := List.getElem?_eq_none_iff.mp q
      exact absurd (List.eq_nil_of_length_eq_zero (by omega)) h4
    · exact ⟨o, rfl⟩
  obtain ⟨v, e5, e6⟩ := cell_first e3 p
  have hp := pos_ne h4
  refine ⟨R, ws, n, v, e1, e2, by omega, by omega, e5, ?_⟩
  unfold headOf
  rw [q]
  dsimp only
  rw [p]; exact e6
theorem sec_cell {fs : Rows} {news : List (Addr × Obj)} {ws : List Value} (hne : ∀ r ∈ fs, r ≠ []) (d : DatAll news ws ((secOf fs).map cellD)) : ∃ v, ws[(0 : Int).toNat]? = some v ∧ FirstR (((secOf fs)[0]?).getD none) v := by
  rcases sec_cell0 hne d with ⟨h1, h2⟩ | ⟨i, t, h1, h2⟩
  · exact ⟨_, h2, .inl ⟨h1, rfl⟩⟩
  · exact ⟨_, h2, .inr ⟨i, t, h1, rfl⟩⟩
theorem sec_small {fs : Rows} (z2 : ∀ r ∈ fs, r.length < 1000) : (secOf fs).length < 1000 := by
  unfold secOf
  rcases e : fs[1]? with _ | r
  · exact (by decide : 1 < 1000)
  · exact z2 r (List.mem_of_getElem? e)
/-- what the test of the held and the event says -/
noncomputable def BadR (H : Int) (o : Option Int) (v : Value) : Prop := ∃ b, v = .bool b ∧ (b = true → H < 0 ∨ o = none ∨ ∃ ev, o = some ev ∧ ¬ (1 ≤ ev ∧ ev ≤ 3)) ∧ (b = false → ¬ H < 0 ∧ ∃ ev, o = some ev ∧ 1 ≤ ev ∧ ev ≤ 3)
theorem badR_neg {H : Int} {o : Option Int} (h : H < 0) : BadR H o (.bool true) := ⟨_, rfl, fun _ => .inl h, fun e => by cases e⟩
theorem badR_none {H : Int} : BadR H none (.bool true) := ⟨_, rfl, fun _ => .inr (.inl rfl), fun e => by cases e⟩
theorem badR_ev {H ev : Int} {b : Bool} (h : ¬ H < 0) (e : b = !([1, 2, 3] : List Int).any fun x => x == ev) : BadR H (some ev) (.bool b) := by
  subst e
  refine ⟨_, rfl, fun e => .inr (.inr ⟨ev, rfl, ?_⟩), fun e => ⟨h, ev, rfl, ?_⟩⟩
  · rw [Bool.not_eq_true'] at e; exact (any3f ev).mp e
  · rw [Bool.not_eq_false'] at e; exact (any3 ev).mp e
theorem due_bad0 {fs : Rows} {final H : Int} (hH : heldOf (secOf fs) = H) (h : H < 0 ∨ evOf (secOf fs) = none ∨ ∃ ev, evOf (secOf fs) = some ev ∧ ¬ (1 ≤ ev ∧ ev ≤ 3)) : dueOf (some fs) final = none := by
  unfold dueOf
  dsimp only
  rcases e : evOf (secOf fs) with _ | ev
  · rfl
  · dsimp only
    rw [if_pos]
    rcases h with h | h | ⟨ev', h, h2⟩
    · exact .inl (by omega)
    · rw [e] at h; cases h
    · rw [e] at h; cases h; exact .inr h2
theorem dret_on {r r' : Option K4} {news new rest : List (Addr × Obj)} {h₀ g h' : Heap} {L L' : Addr} {m m' : Str → Option Value} {s : Shared} {Q : Value → Shared → Prop} {tk' : Nat} {v : Value} (H : DRet r news h₀ L m s Q) (R : DueR r' v new) (NG : News h₀ L g news) (F' : Fr g L' h' m') (F : Fr h₀ L h' m) (N : News h₀ L h' (new ++ rest)) (E : r = r') : Q v { s with heap := h', toks := tk' } := by
  subst E
  exact H _ _ _ _ R F (news_back NG F' fun p hp => N p (List.mem_append_left _ hp))
abbrev LRet (w : World) (news : List (Addr × Obj)) (h₀ : Heap) (L : Addr) (m : Str → Option Value) (s : Shared) (Q : Value → Shared → Prop) : Prop :=
  ∀ (d : Addr) (o : Obj) (kvs : List (Int × Value)) (h' : Heap) (tk' : Nat), Obj.IsDictOf (intKind PySem.Challenge.rw_pq1183_01.row.prog w) o kvs → Aligned kvs letterTable → (d == sysModules) = false → Fr h₀ L h' m → News h₀ L h' ((d, o) :: news) → Q (.ref d) { s with heap := h', toks := tk' }
theorem letters_C (w p loose mean mg mb) (news : List (Addr × Obj)) :
  Con w p loose mean mg mb 215 news [] 1 20 (LRet w news) := by
  unfold Con prg
  k_fill
  intro dp un gd cn cs a ccd cl outer A₀ base h₀ L m s Q E B F X N T hk hdp hun hret
  refine wpAny_call ?_
  k_dflt ktr_enter
  k_steps
  refine' hret _ _ _ _ _ ?cd ?cA ?cl ?cF ?cN
  case cF => with_reducible assumption
  case cd => assumption
  case cl => assumption
  case cA => repeat (first | exact True.intro | refine ⟨rfl, ⟨_, rfl⟩, ?_⟩)
  rename News _ _ _ _ => NN
  refine' news_back (new := [_]) ?eG ?eF' fun p hp => NN p ?_
  case eG => with_reducible assumption
  case eF' => with_reducible assumption
  exact List.mem_cons.mpr (.inl (List.mem_singleton.mp hp))
end Mine
namespace Mine
theorem due_C (w p loose mean mg mb) (news : List (Addr × Obj)) (x : Str) (tx tf : Tok) (final : Int) (hb : x.length ≤ 60) (hx : ∀ c ∈ x.cps.toList, c < 256) :
  Con w p loose mean mg mb 265 news [.str x tx, .int final tf] 6 200 (DRet (dueOf (lfieldsOf x) final) news) := by
  unfold Con prg
  k_fill
  intro dp un gd cn cs a ccd cl outer A₀ base h₀ L m s Q E B F X N T hk hdp hun hret
  refine wpAny_call ?_
  k_dflt ktr_enter
  k_steps
  k_here
  k_dflt (cell_ask (lfields_C _ _ _ _ _ _ _ _ _ hb hx))
  intro v9 h9 tk9 new9 R9 F9 N9
  simp only [List.append_nil] at N9
  rcases fr_cases R9 with ⟨e9, q9, p9⟩ | ⟨fs, eF, D9⟩
  · subst q9 p9
    try dsimp only
    try k_fold
    k_steps
    refine' dret_none hret ?eG ?eF' ?eF ?_
    case eG => with_reducible assumption
    case eF => with_reducible assumption
    case eF' => with_reducible assumption
    rw [e9]; rfl
  · obtain ⟨z1, z2, z3, z4⟩ := lfields_small hb eF
    obtain ⟨l, vs, n, rfl, hm, hall, hlen⟩ := rows_open D9
    have z9 : vs.length < 1000 := by omega
    rw [eF] at hret
    clear D9 R9
    try dsimp only
    try k_fold
    k_steps
    with_unfolding_all refine' sec_split (secOf fs) ?F ?N ?h1 ?h2
    case F => with_reducible assumption
    case N => with_reducible assumption
    case h1 =>
      rcases e1 : fs[1]? with _ | r
      · have hc : ¬ 1 < (vs.length : Int) := by have := List.getElem?_eq_none_iff.mp e1; omega
        have hs : secOf fs = [none] := by unfold secOf; rw [e1]; rfl
        walk1
        k_steps
        rw [hs]
        exact .mk _ [Value.none] _ _ _ _ (by with_reducible assumption) (by with_reducible assumption) (fun _ h => .tail _ h) (.head _) (DatAll.one .none) rfl
      · obtain ⟨r', ws, n', hv1, hm1, hall1, hlen1⟩ := row_open hall e1
        have hc : 1 < (vs.length : Int) := by have := (List.getElem?_eq_some_iff.mp e1).1; omega
        have hs : secOf fs = r := by unfold secOf; rw [e1]; rfl
        replace hv1 : vs[(1 : Int).toNat]? = some (.ref r') := hv1
        walk1
        k_steps
        rw [hs]
        exact .mk _ _ _ _ _ _ (by with_reducible assumption) (by with_reducible assumption) (fun _ h => h) hm1 hall1 hlen1
    case h2 =>
      intro S ws n2 h2 tk2 nw F2 N2 hsub hmS hdS hlS
      have hz5 := sec_small z2
      have hm' := hsub _ hm
      have hall' := DatAll.mono hsub hall
      obtain ⟨v0, hv0, hF0⟩ := sec_cell z4 hdS
      have hwl : ws.length < 1000 := by omega
      have hwp : 0 < ws.length := by
        have := (List.getElem?_eq_some_iff.mp hv0).1
        omega
      have hHeld : ∀ H1, (((secOf fs)[0]?).getD none).getD 1 = H1 → heldOf (secOf fs) = H1 - 1 := by intro H1 e; unfold heldOf; rw [e]
      clear hsub hm hall
      try dsimp only
      try k_fold
      k_steps
      k_here
      with_unfolding_all refine' val_cut (fun v => ∃ t, v = .int ((((secOf fs)[0]?).getD none).getD 1) t) ?F ?N ?h1 ?h2
      case F => k_asm
      case N => k_asm
      case h1 =>
        rcases hF0 with ⟨q1, q2⟩ | ⟨i, t, q1, q2⟩
        · subst q2
          walk1
          k_steps
          exact .mk _ _ _ (by with_reducible assumption) (by with_reducible assumption) ⟨_, by rw [q1]; rfl⟩
        · subst q2
          walk1
          k_steps
          exact .mk _ _ _ (by with_reducible assumption) (by with_reducible assumption) ⟨_, by rw [q1]; rfl⟩
      case h2 =>
      intro v h3 tk3 ⟨t, e⟩ F3 N3
      subst e
      generalize eH : (((secOf fs)[0]?).getD none).getD 1 = H1
      replace hHeld := hHeld _ eH
      clear eH hF0
      try dsimp only
      k_steps
      k_here
      with_unfolding_all refine' val_cut (FirstR (evOf (secOf fs))) ?F ?N ?h1 ?h2
      case F => k_asm
      case N => k_asm
      case h1 =>
        rcases e : (secOf fs)[1]? with _ | o
        · have hc : ¬ 1 < (ws.length : Int) := by have := List.getElem?_eq_none_iff.mp e; omega
          have he : evOf (secOf fs) = some 1 := by unfold evOf; rw [e]
          walk1
          k_steps
          exact .mk _ _ _ (by with_reducible assumption) (by with_reducible assumption) (.inr ⟨1, _, he, rfl⟩)
        · have hc : 1 < (ws.length : Int) := by have := (List.getElem?_eq_some_iff.mp e).1; omega
          have he : evOf (secOf fs) = o := by unfold evOf; rw [e]
          obtain ⟨v1, hv1, hF1⟩ := cell_first hdS e
          replace hv1 : ws[(1 : Int).toNat]? = some v1 := hv1
          walk1
          k_steps
          exact .mk _ _ _ (by with_reducible assumption) (by with_reducible assumption) (by rw [he]; exact hF1)
      case h2 =>
      intro v h4 tk4 hev F4 N4
      clear hmS hdS hlS hwl hwp hv0 hz5
      try dsimp only
      repeat (first | (k_unfold; (try dsimp only)) | ((fail_if_success (with_reducible show wpAny _ _ (exec (Stmt.If _ _ _ _) _) _ _ _)); first | walk1 | (dsimp only; walk1)))
      k_here
      with_unfolding_all refine' cut0 (¬ H1 - 1 < 0 ∧ ∃ ev, evOf (secOf fs) = some ev ∧ 1 ≤ ev ∧ ev ≤ 3) ?F ?N ?h1 ?h2
      case F => k_asm
      case N => k_asm
      case h1 =>
        rcases hev with ⟨q1, q2⟩ | ⟨i, t, q1, q2⟩
        · subst q2
          repeat' (first | (k_unfold; (try dsimp only)) | ((fail_if_success (with_reducible show wpAny _ _ (compareOp CmpOp.NotIn _ _) _ _ _)); (fail_if_success (with_reducible show NextQ _ _ _ _ _ _ _ _ _)); first | walk1 | (dsimp only; walk1)))
          · refine .ret _ _ ?_
            k_steps
            refine' dret_none hret ?eG ?eF' ?eF (due_bad0 hHeld (.inl (by omega)))
            case eG => with_reducible assumption
            case eF => with_reducible assumption
            case eF' => with_reducible assumption
          · k_here
            k_dflt (refine' notin_none (ns := [1, 2, 3]) ?k1 ?k2 ?k3 ?k4 ?k5 ?_; (case k1 => k_asm); (case k2 => k_mem); (case k3 => exact .cons (.int _ _) (.cons (.int _ _) (.cons (.int _ _) .nil))); (case k4 => decide); (case k5 => ktr_units))
            repeat' (first | (k_unfold; (try dsimp only)) | ((fail_if_success (with_reducible show NextQ _ _ _ _ _ _ _ _ _)); first | walk1 | (dsimp only; walk1)))
            refine .ret _ _ ?_
            k_steps
            refine' dret_none hret ?eG ?eF' ?eF (due_bad0 hHeld (.inr (.inl q1)))
            case eG => with_reducible assumption
            case eF => with_reducible assumption
            case eF' => with_reducible assumption
        · subst q2
          repeat' (first | (k_unfold; (try dsimp only)) | ((fail_if_success (with_reducible show NextQ _ _ _ _ _ _ _ _ _)); first | walk1 | (dsimp only; walk1)))
          · refine .ret _ _ ?_
            k_steps
            refine' dret_none hret ?eG ?eF' ?eF (due_bad0 hHeld (.inl (by omega)))
            case eG => with_reducible assumption
            case eF => with_reducible assumption
            case eF' => with_reducible assumption
          · rename News _ _ _ _ => NN
            refine .next _ _ (by with_reducible assumption) (fun p hp => NN p (.tail _ hp)) ⟨by omega, i, q1, (any3 i).mp (by simp_all only [Bool.not_eq_false', Bool.not_eq_eq_eq_not, Bool.not_false, Bool.not_true])⟩
          · refine .ret _ _ ?_
            k_steps
            refine' dret_none hret ?eG ?eF' ?eF (due_bad0 hHeld (.inr (.inr ⟨i, q1, (any3f i).mp (by simp_all only [Bool.not_eq_true', Bool.not_eq_eq_eq_not, Bool.not_false, Bool.not_true])⟩)))
            case eG => with_reducible assumption
            case eF => with_reducible assumption
            case eF' => with_reducible assumption
      case h2 =>
      intro h5 tk5 hgood F5 N5
      obtain ⟨g1, ev, he, g2, g3⟩ := hgood
      obtain ⟨te, q⟩ : ∃ t, v = .int ev t := by
        rcases hev with ⟨q1, q2⟩ | ⟨i, t, q1, q2⟩
        · rw [q1] at he; cases he
        · rw [q1] at he; cases he; exact ⟨t, q2⟩
      subst q
      clear hev
      have gg : ¬ (H1 - 1 < 0 ∨ ¬ (1 ≤ ev ∧ ev ≤ 3)) := by omega
      have f8 : (H1 - 1).fmod 8 = (H1 - 1) % 8 := Int.fmod_eq_emod_of_nonneg _ (by decide)
      have f0 : 0 ≤ (H1 - 1).fmod 8 := by rw [f8]; omega
      have f7 : (H1 - 1).fmod 8 ≤ 7 := by rw [f8]; omega
      obtain ⟨R0, ws0, n0, v0', hv0, hm0, hl0, hp0, hw0, hF0⟩ := head_cell (i := 0) hall' z4 z2 (pos_ne z3)
      replace hv0 : vs[(0 : Int).toNat]? = some (.ref R0) := hv0
      replace hw0 : ws0[(0 : Int).toNat]? = some v0' := hw0
      have hvp : 0 < vs.length := by have := pos_ne z3; omega
      try dsimp only
      k_steps
      · refine' dret_some hret ?eG ?eF' ?eF ?eN ?eE
        case eG => with_reducible assumption
        case eF => with_reducible assumption
        case eF' => with_reducible assumption
        case eN => with_reducible assumption
        case eE =>
          rw [due_tab he hHeld gg f8 (by assumption), ← Int.fmod_eq_emod_of_nonneg ((H1 - 1).fmod 8) (by decide : (0 : Int) ≤ 2)]
      · k_here
        k_dflt (cell_ask (letters_C _ _ _ _ _ _ _))
        intro d o kvs h9 tk9 hd al lo F9 N9
        try dsimp only
        try k_fold
        repeat (first | (k_unfold; (try dsimp only)) | ((fail_if_success (with_reducible show wpAny _ _ (compareOp CmpOp.In _ _) _ _ _)); first | walk1 | (dsimp only; walk1)))
        k_here
        k_dflt (refine' din_al N9 (.head _) hd lo al ?_ ?_)
        · intro b t eb el
          clear eb t
          k_steps
          k_here
          with_unfolding_all refine' val_cut (fun v => ∃ b, v = .bool b ∧ (b = true ↔ (fs.length < 3 ∧ (headOf fs 0 = none ∨ headOf fs 0 = some 1) ∧ (final ≠ 82 ∨ fs.length = 2)))) ?F ?N ?h1 ?h2
          case F => k_asm
          case N => k_asm
          case h1 =>
            rcases hF0 with ⟨q1, q2⟩ | ⟨i, t, q1, q2⟩
            · have hq : headOf fs 0 = none ∨ headOf fs 0 = some 1 := .inl q1
              clear gg f8 f0 f7 g1 g2 g3 q1
              subst q2
              repeat' (first | (k_unfold; (try dsimp only)) | ((fail_if_success (with_reducible show wpAny _ _ (compareOp CmpOp.In _ _) _ _ _)); (fail_if_success (with_reducible show ValH _ _ _ _ _ _ _ _)); first | walk1 | (dsimp only; walk1)))
              · k_here
                k_dflt (refine' in_n1_none ?k1 ?k2 ?k5 ?_; (case k1 => k_asm); (case k2 => k_mem); (case k5 => ktr_units))
                repeat' (first | (k_unfold; (try dsimp only)) | ((fail_if_success (with_reducible show ValH _ _ _ _ _ _ _ _)); first | walk1 | (dsimp only; walk1)))
                all_goals (rename News _ _ _ _ => NN; refine .mk _ _ _ (by with_reducible assumption) (fun p hp => NN p (.tail _ hp)) ⟨_, rfl, ?_⟩)
                all_goals (simp only [hq, true_and, false_and, and_false, decide_eq_true_eq, eq_self, true_iff, false_iff, Bool.false_eq_true, iff_false, not_false_eq_true, Bool.not_eq_eq_eq_not, Bool.not_true, Bool.not_false, decide_eq_false_iff_not, bne_iff_ne, ne_eq, beq_iff_eq]; omega)
              · refine .mk _ _ _ (by with_reducible assumption) (by with_reducible assumption) ⟨_, rfl, ?_⟩
                simp only [hq, true_and, false_and, and_false, decide_eq_true_eq, eq_self, true_iff, false_iff, Bool.false_eq_true, iff_false, not_false_eq_true]
                omega
            · have hq : (headOf fs 0 = none ∨ headOf fs 0 = some 1) ↔ i = 1 := by rw [q1]; simp only [reduceCtorEq, false_or, Option.some.injEq]
              clear gg f8 f0 f7 g1 g2 g3 q1
              subst q2
              repeat' (first | (k_unfold; (try dsimp only)) | ((fail_if_success (with_reducible show wpAny _ _ (compareOp CmpOp.In _ _) _ _ _)); (fail_if_success (with_reducible show ValH _ _ _ _ _ _ _ _)); first | walk1 | (dsimp only; walk1)))
              · k_here
                k_dflt (refine' in_n1_int ?k1 ?k2 ?k5 ?_; (case k1 => k_asm); (case k2 => k_mem); (case k5 => ktr_units))
                repeat' (first | (k_unfold; (try dsimp only)) | ((fail_if_success (with_reducible show ValH _ _ _ _ _ _ _ _)); first | walk1 | (dsimp only; walk1)))
                all_goals (rename News _ _ _ _ => NN; refine .mk _ _ _ (by with_reducible assumption) (fun p hp => NN p (.tail _ hp)) ⟨_, rfl, ?_⟩)
                all_goals (simp only [hq, true_and, false_and, and_false, decide_eq_true_eq, eq_self, true_iff, false_iff, Bool.false_eq_true, iff_false, not_false_eq_true, Bool.not_eq_eq_eq_not, Bool.not_true, Bool.not_false, decide_eq_false_iff_not, bne_iff_ne, ne_eq, beq_iff_eq]; omega)
              · refine .mk _ _ _ (by with_reducible assumption) (by with_reducible assumption) ⟨_, rfl, ?_⟩
                simp only [hq, true_and, false_and, and_false, decide_eq_true_eq, eq_self, true_iff, false_iff, Bool.false_eq_true, iff_false, not_false_eq_true]
                omega
          case h2 =>
          intro v6 h6 tk6 hG F6 N6
          obtain ⟨G, q6, hG⟩ := hG
          subst q6
          try dsimp only
          k_steps
          walk1
          k_steps
          · k_here
            k_dflt (cell_ask (letters_C _ _ _ _ _ _ _))
            intro d o kvs h9 tk9 hd al lo F9 N9
            try dsimp only
            try k_fold
            repeat (first | (k_unfold; (try dsimp only)) | ((fail_if_success (with_reducible show wpAny _ _ (subscriptTail _ _ _ _) _ _ _)); first | walk1 | (dsimp only; walk1)))
            k_here
            k_dflt (refine' ditem_al letterTable N9 (.head _) hd al el ?_)
            intro t
            clear hd al lo
            k_steps
            refine' dret_some hret ?eG ?eF' ?eF ?eN (due_good he hHeld gg f8 (by assumption) el (hG.mp (by assumption)))
            case eG => with_reducible assumption
            case eF => with_reducible assumption
            case eF' => with_reducible assumption
            case eN => with_reducible assumption
          · refine' dret_none hret ?eG ?eF' ?eF (due_bad he hHeld gg (by assumption) el (mt hG.mpr (Bool.eq_false_iff.mp (by assumption))))
            case eG => with_reducible assumption
            case eF => with_reducible assumption
            case eF' => with_reducible assumption
        · intro el
          clear al hd lo
          k_steps
          k_here
          with_unfolding_all refine' val_cut (fun v => ∃ t, v = .int ((headOf fs 0).getD 0) t) ?F ?N ?h1 ?h2
          case F => k_asm
          case N => k_asm
          case h1 =>
            rcases hF0 with ⟨q1, q2⟩ | ⟨i, t, q1, q2⟩
            · subst q2
              walk1
              k_steps
              exact .mk _ _ _ (by with_reducible assumption) (by with_reducible assumption) ⟨_, by rw [q1]; rfl⟩
            · subst q2
              walk1
              k_steps
              exact .mk _ _ _ (by with_reducible assumption) (by with_reducible assumption) ⟨_, by rw [q1]; rfl⟩
          case h2 =>
          intro v6 h6 tk6 ⟨t6, q6⟩ F6 N6
          subst q6
          generalize eN : (headOf fs 0).getD 0 = number
          clear hF0
          try dsimp only
          k_steps
          · walk1
            k_steps
            · k_here
              k_dflt (cell_ask (lcode_C _ _ _ _ _ _ _ _ _ _ _ _ _ (by assumption) (by assumption)))
              intro v9 h9 tk9 new9 R9 F9 N9
              try dsimp only
              try k_fold
              k_steps
              refine' dret_on hret R9 ?eG ?eF' ?eF ?eN (due_code he hHeld gg f8 (by assumption) el (by assumption) (by omega) eN rfl)
              case eG => with_reducible assumption
              case eF => with_reducible assumption
              case eF' => with_reducible assumption
              case eN => with_reducible assumption
            · refine' dret_none hret ?eG ?eF' ?eF (due_long he hHeld gg (by assumption) el (by assumption) (by omega))
              case eG => with_reducible assumption
              case eF => with_reducible assumption
              case eF' => with_reducible assumption
          · refine' dret_none hret ?eG ?eF' ?eF (due_other he hHeld gg (by assumption) el (by assumption) (by assumption))
            case eG => with_reducible assumption
            case eF => with_reducible assumption
            case eF' => with_reducible assumption
          · obtain ⟨R2, ws2, n2', v2, hv2, hm2, hl2, hp2, hw2, hF2⟩ := head_cell (i := 2) hall' z4 z2 (by omega)
            replace hv2 : vs[(2 : Int).toNat]? = some (.ref R2) := hv2
            replace hw2 : ws2[(0 : Int).toNat]? = some v2 := hw2
            k_here
            with_unfolding_all refine' val_cut (fun v => ∃ t, v = .int ((headOf fs 2).getD 0) t) ?F ?N ?h1 ?h2
            case F => k_asm
            case N => k_asm
            case h1 =>
              rcases hF2 with ⟨q1, q2⟩ | ⟨i, t, q1, q2⟩
              · subst q2
                walk1
                k_steps
                exact .mk _ _ _ (by with_reducible assumption) (by with_reducible assumption) ⟨_, by rw [q1]; rfl⟩
              · subst q2
                walk1
                k_steps
                exact .mk _ _ _ (by with_reducible assumption) (by with_reducible assumption) ⟨_, by rw [q1]; rfl⟩
            case h2 =>
            intro v8 h8 tk8 ⟨t8, q8⟩ F8 N8
            subst q8
            clear hF2
            try dsimp only
            k_steps
            k_here
            k_dflt (cell_ask (lcode_C _ _ _ _ _ _ _ _ _ _ _ _ _ (by assumption) (by assumption)))
            intro v9 h9 tk9 new9 R9 F9 N9
            try dsimp only
            try k_fold
            k_steps
            refine' dret_on hret R9 ?eG ?eF' ?eF ?eN (due_27 he hHeld gg f8 (by assumption) el (by assumption) (by assumption) eN (by omega) rfl rfl)
            case eG => with_reducible assumption
            case eF => with_reducible assumption
            case eF' => with_reducible assumption
            case eN => with_reducible assumption
          all_goals (k_here; k_dflt (cell_ask (lnum_C _ _ _ _ _ _ _ _ _)); intro v9 h9 tk9 R9 F9 N9)
          all_goals (rcases name_cases R9 with ⟨e9, q9⟩ | ⟨b9, t9, e9, q9⟩ <;> subst q9)
          all_goals ((try dsimp only); (try k_fold); k_steps; (try (walk1; k_steps)))
          all_goals first
            | (refine' dret_some hret ?eG ?eF' ?eF ?eN (due_num he hHeld gg f8 (by assumption) el (by assumption) (by assumption) eN (by omega) e9 (by omega)); (case eG => with_reducible assumption); (case eF => with_reducible assumption); (case eF' => with_reducible assumption); (case eN => with_reducible assumption))
            | (refine' dret_none hret ?eG ?eF' ?eF (due_nonum he hHeld gg (by assumption) el (by assumption) (by assumption) eN (by omega) (by first | exact .inl e9 | exact .inr (by omega))); (case eG => with_reducible assumption); (case eF => with_reducible assumption); (case eF' => with_reducible assumption))
end Mine
namespace Mine
/-- a list of the program's tables: what its members are -/
noncomputable def TabOk (w : World) (l : Addr) (P : Value → Prop) : Prop := ∃ (lo : Obj) (items : Array Value) (n : Nat), (KK w.params).lookup l = some lo ∧ lo.cls = .type "list" ∧ lo.data = .seq items n ∧ 0 < items.size ∧ items.size < 1000 ∧ (∀ x ∈ items, handedIn x = true) ∧ ∀ x ∈ items, P x
theorem all_of {items : Array Value} {f : Value → Bool} (h : items.toList.all f = true) : ∀ x ∈ items, f x = true := fun x hx => List.all_eq_true.mp h x (Array.mem_toList_iff.mpr hx)
noncomputable def IntV (v : Value) : Prop := ∃ x t, v = .int x t
noncomputable def WordV (v : Value) : Prop := ∃ q t, v = .str q t ∧ Word q
noncomputable def SecV (v : Value) : Prop := ∃ q t, v = .str q t ∧ Second q
noncomputable def intB : Value → Bool
  | .int _ _ => true
  | _ => false
noncomputable def wordB : Value → Bool
  | .str q _ => decide (q.length ≤ 8) && q.cps.toList.all fun c => decide (c < 256 ∧ c ≠ 59)
  | _ => false
noncomputable def secB : Value → Bool
  | .str q _ => decide (q.length ≤ 8) && (q.cps.toList.all fun c => decide (c < 256 ∧ c ≠ 59)) && (match lrowL q.cps.toList with
    | none => true
    | some r => decide (r[1]? ≠ some none))
  | _ => false
theorem intB_is {v : Value} (h : intB v = true) : IntV v := by
  cases v <;> first | exact ⟨_, _, rfl⟩ | cases h
theorem wordB_is {v : Value} (h : wordB v = true) : WordV v := by
  cases v <;> first | cases h; done | skip
  rename_i q t
  simp only [wordB, Bool.and_eq_true, decide_eq_true_eq, List.all_eq_true] at h
  exact ⟨_, _, rfl, h⟩
theorem secB_is {v : Value} (h : secB v = true) : SecV v := by
  cases v <;> first | cases h; done | skip
  rename_i q t
  simp only [secB, Bool.and_eq_true, decide_eq_true_eq, List.all_eq_true] at h
  refine ⟨_, _, rfl, h.1, fun r hr => ?_⟩
  have h2 := h.2
  rw [hr] at h2
  exact of_decide_eq_true h2
theorem tab216 (w : World) : TabOk w 216 IntV := ⟨_, _, _, rfl, rfl, rfl, by decide, by decide, all_of rfl, fun x hx => intB_is (all_of rfl x hx)⟩
theorem tab217 (w : World) : TabOk w 217 WordV := ⟨_, _, _, rfl, rfl, rfl, by decide, by decide, all_of rfl, fun x hx => wordB_is (all_of (by decide +kernel) x hx)⟩
theorem tab218 (w : World) : TabOk w 218 WordV := ⟨_, _, _, rfl, rfl, rfl, by decide, by decide, all_of rfl, fun x hx => wordB_is (all_of (by decide +kernel) x hx)⟩
theorem tab219 (w : World) : TabOk w 219 WordV := ⟨_, _, _, rfl, rfl, rfl, by decide, by decide, all_of rfl, fun x hx => wordB_is (all_of (by decide +kernel) x hx)⟩
theorem tab220 (w : World) : TabOk w 220 SecV := ⟨_, _, _, rfl, rfl, rfl, by decide, by decide, all_of rfl, fun x hx => secB_is (all_of (by decide +kernel) x hx)⟩
theorem pickT_C (w p loose mean mg mb) (rest T : List (Addr × Obj)) (c d l : Addr) {P : Value → Prop} (hP : TabOk w l P) (hT : TapeOk w c d T) (hcd : @Ne Nat c d) (hrc : ∀ p ∈ rest, p.1 ≠ c) (hrd : ∀ p ∈ rest, p.1 ≠ d) (ld : (d == sysModules) = false) :
    Con w p loose mean mg mb 239 (T ++ rest) [.ref d, .ref l] 3 110 (TRet w c d rest P) := by
  obtain ⟨lo, items, n, hk, hc, hd, h1, h2, h3, h4⟩ := hP
  intro dp un gd cn cs a ccd cl outer A₀ base h₀ L m s Q E B F X N T2 hk2 hdp hun hret
  exact pick_C w p loose mean mg mb rest T c d l lo items n hT hcd hrc hrd ld hk hc hd h1 h2 h3 dp un gd cn cs a ccd cl outer A₀ base h₀ L m s Q E B F X N T2 hk2 hdp hun fun v h' tk' T' hv => hret v h' tk' T' (h4 v hv)
theorem own_c {w : World} {c d : Addr} {T own : List (Addr × Obj)} (hT : TapeOk w c d T) (ho : OwnOff own (T.map (·.1))) : (∀ p ∈ own, p.1 ≠ c) ∧ ∀ p ∈ own, p.1 ≠ d := by
  obtain ⟨vs, ns, n, o, sd, t, rfl, _⟩ := hT
  exact ⟨fun p hp => ho p hp _ (.head _), fun p hp => ho p hp _ (.tail _ (.head _))⟩
end Mine
namespace Mine
theorem words_cut {w1 w2 w3 w4 : Str} {t1 t2 t3 t4 : Tok} {many : Int} (h0 : 0 ≤ many) (h5 : many < 5) (q1 : Word w1) (q2 : Second w2) (q3 : Word w3) (q4 : Word w4) :
    ∃ (vs : List Value) (ss : List Str), slicePick #[.str w1 t1, .str w2 t2, .str w3 t3, .str w4 t4] none (some many) none = vs.toArray ∧ StrsAre vs ss ∧ (∀ p ∈ ss, Word p) ∧ ss.length = many.toNat ∧ ∀ p, ss[1]? = some p → Second p := by
  have e := pick_upto [.str w1 t1, .str w2 t2, .str w3 t3, .str w4 t4] h0
  have e2 : slicePick #[.str w1 t1, .str w2 t2, .str w3 t3, .str w4 t4] none (some many) none = (([.str w1 t1, .str w2 t2, .str w3 t3, .str w4 t4] : List Value).take many.toNat).toArray := by
    rw [← e, Array.toArray_toList]
  refine ⟨_, [w1, w2, w3, w4].take many.toNat, e2, ?_, ?_, ?_, ?_⟩
  · have h : ∀ n, StrsAre (([.str w1 t1, .str w2 t2, .str w3 t3, .str w4 t4] : List Value).take n) (([w1, w2, w3, w4] : List Str).take n) := by
      intro n
      rcases n with _ | _ | _ | _ | n
      · exact .nil
      · exact .cons _ _ .nil
      · exact .cons _ _ (.cons _ _ .nil)
      · exact .cons _ _ (.cons _ _ (.cons _ _ .nil))
      · show StrsAre (_ :: _ :: _ :: _ :: List.take n []) (_ :: _ :: _ :: _ :: List.take n [])
        rw [List.take_nil, List.take_nil]
        exact .cons _ _ (.cons _ _ (.cons _ _ (.cons _ _ .nil)))
    exact h _
  · intro p hp
    have := List.mem_of_mem_take hp
    simp only [List.mem_cons, List.not_mem_nil, or_false] at this
    rcases this with rfl | rfl | rfl | rfl
    · exact q1
    · exact q2.1
    · exact q3
    · exact q4
  · rw [List.length_take]
    show min many.toNat 4 = _
    omega
  · intro p hp
    rw [List.getElem?_take] at hp
    split at hp
    · cases hp; exact q2
    · cases hp
theorem strs_drop : ∀ {vs : List Value} {ss : List Str}, StrsAre vs ss → StrsAre (vs.drop 1) (ss.drop 1)
  | _, _, .nil => .nil
  | _, _, .cons _ _ h => h
theorem words_from {vs : List Value} {ss : List Str} (h : StrsAre vs ss) : ∃ us, slicePick vs.toArray (some 1) none none = List.toArray us ∧ StrsAre us (ss.drop 1) := by
  have e := pick_from vs (x := 1) (by decide)
  refine ⟨vs.drop 1, ?_, strs_drop h⟩
  rw [show vs.drop 1 = vs.drop (1 : Int).toNat from rfl, ← e, Array.toArray_toList]
theorem strs_len2 : ∀ {vs : List Value} {ss : List Str}, StrsAre vs ss → vs.length = ss.length
  | _, _, .nil => rfl
  | _, _, .cons _ _ h => by simp [strs_len2 h]
theorem txt_join (sep : Str) (l : List Str) : Txt.join sep l = Str.join sep l := eq_of_beq (join_plain_closes sep l)
theorem body_27 {ss : List Str} (h : ss ≠ []) : (Str.ofString "27;") ++ Str.join ⟨#[59]⟩ ss = Str.join ⟨#[59]⟩ (Str.ofString "27" :: ss) := by
  cases ss with
  | nil => exact absurd rfl h
  | cons a r => rfl
theorem word_one : Word (Str.ofString "1") := ⟨by decide, by decide⟩
theorem word_27 : Word (Str.ofString "27") := ⟨by decide, by decide⟩
theorem words_weight {ss : List Str} {n : Nat} (hw : ∀ p ∈ ss, Word p) (hl : ss.length ≤ n) : (ss.map (·.length)).sum + ss.length ≤ 9 * n := by
  induction ss generalizing n with
  | nil => simp
  | cons a r ih =>
    have h1 := (hw a (.head _)).1
    cases n with
    | zero => simp at hl
    | succ n =>
      have := ih (n := n) (fun p hp => hw p (.tail _ hp)) (by simp at hl; omega)
      simp only [List.map_cons, List.sum_cons, List.length_cons]
      omega
/-- the body stored anew or not; the tape goes on -/
inductive BodyQ (w : World) (g : Heap) (L' c d : Addr) (own : List (Addr × Obj)) (m₀ : Str → Option Value) (s₁ : Shared) : Flow → Shared → Prop
  | mk (q : Str) (t : Tok) (T' : List (Addr × Obj)) (h' : Heap) (tk : Nat) (m' : Str → Option Value) : Body q → TapeOk w c d T' → Fr g L' h' m' → News g L' h' (T' ++ own) → m' (Str.ofString "body") = some (.str q t) → (∀ z, z ≠ Str.ofString "body" → m' z = m₀ z) → BodyQ w g L' c d own m₀ s₁ .next { s₁ with heap := h', toks := tk }
theorem body_cut {prog : Program} {w : World} {A : Around} {E : Value → Shared → Prop} {s₁ : Shared} {Q : Flow → Shared → Prop} {t : Sem Flow} {g : Heap} {L' c d : Addr} {own : List (Addr × Obj)} {m₀ : Str → Option Value} (_ : Fr g L' s₁.heap m₀)
    (h1 : wpAny (model prog w) A t (BodyQ w g L' c d own m₀ s₁) E s₁)
    (h2 : ∀ q t T' h' tk, Body q → TapeOk w c d T' → Fr g L' h' (fun z => if z = Str.ofString "body" then some (.str q t) else m₀ z) → News g L' h' (T' ++ own) → Q .next { s₁ with heap := h', toks := tk }) : wpAny (model prog w) A t Q E s₁ :=
  wpAny_mono h1 (fun _ _ h => by
    cases h with
    | mk q t T' h' tk m' hb hT F N e1 e2 =>
      refine h2 q t T' h' tk hb hT ?_ N
      have e : m' = fun z => if z = Str.ofString "body" then some (.str q t) else m₀ z := by
        funext z
        by_cases hz : z = Str.ofString "body"
        · subst hz; rw [if_pos rfl]; exact e1
        · rw [if_neg hz]; exact e2 z hz
      rw [← e]; exact F) fun _ _ h => h
theorem news_lt {h₀ h : Heap} {L : Addr} {news : List (Addr × Obj)} (N : News h₀ L h news) : ∀ p ∈ news, @LT.lt Nat _ p.1 (h.objs.size + 1) := fun p hp => Nat.lt_succ_of_lt (Heap.lt_size (N p hp).1)
theorem tape_mem {w : World} {c d : Addr} {T : List (Addr × Obj)} (hT : TapeOk w c d T) : (∃ o, (c, o) ∈ T) ∧ ∃ o, (d, o) ∈ T := by
  obtain ⟨vs, ns, n, o, sd, t, rfl, _⟩ := hT
  exact ⟨⟨_, .head _⟩, ⟨_, .tail _ (.head _)⟩⟩
theorem grow_off {w : World} {c d l' W : Addr} {T own : List (Addr × Obj)} {ol oW : Obj} (hT : TapeOk w c d T) (hrc : ∀ p ∈ own, p.1 ≠ c) (hrd : ∀ p ∈ own, p.1 ≠ d) (l7 : ∀ p ∈ T ++ own, @LT.lt Nat _ p.1 l') (l8 : ∀ p ∈ (l', ol) :: (T ++ own), @LT.lt Nat _ p.1 W) :
    (∀ p ∈ (W, oW) :: (l', ol) :: own, p.1 ≠ c) ∧ ∀ p ∈ (W, oW) :: (l', ol) :: own, p.1 ≠ d := by
  obtain ⟨⟨o1, m1⟩, ⟨o2, m2⟩⟩ := tape_mem hT
  have a1 := l7 _ (List.mem_append_left own m1)
  have a2 := l7 _ (List.mem_append_left own m2)
  have b1 := l8 _ (.tail _ (List.mem_append_left own m1))
  have b2 := l8 _ (.tail _ (List.mem_append_left own m2))
  refine ⟨fun p hp => ?_, fun p hp => ?_⟩
  · rcases List.mem_cons.mp hp with rfl | hp
    · exact (Nat.ne_of_lt b1).symm
    · rcases List.mem_cons.mp hp with rfl | hp
      · exact (Nat.ne_of_lt a1).symm
      · exact hrc p hp
  · rcases List.mem_cons.mp hp with rfl | hp
    · exact (Nat.ne_of_lt b2).symm
    · rcases List.mem_cons.mp hp with rfl | hp
      · exact (Nat.ne_of_lt a2).symm
      · exact hrd p hp
theorem news_mid {h₀ h : Heap} {L : Addr} {a b : Addr × Obj} {T own : List (Addr × Obj)} (N : News h₀ L h (a :: b :: (T ++ own))) : News h₀ L h (T ++ a :: b :: own) := fun p hp => N p (by
  rcases List.mem_append.mp hp with hp | hp
  · exact .tail _ (.tail _ (List.mem_append_left _ hp))
  · rcases List.mem_cons.mp hp with rfl | hp
    · exact .head _
    · rcases List.mem_cons.mp hp with rfl | hp
      · exact .tail _ (.head _)
      · exact .tail _ (.tail _ (List.mem_append_right _ hp)))
theorem news_first {h₀ h : Heap} {L : Addr} {a b : Addr × Obj} {T own : List (Addr × Obj)} (N : News h₀ L h (T ++ a :: b :: own)) : News h₀ L h (a :: (T ++ own)) := fun p hp => N p (by
  rcases List.mem_cons.mp hp with rfl | hp
  · exact List.mem_append_right _ (.head _)
  · rcases List.mem_append.mp hp with hp | hp
    · exact List.mem_append_left _ hp
    · exact List.mem_append_right _ (.tail _ (.tail _ hp)))
theorem body_27_ok {ss : List Str} (hw : ∀ p ∈ ss, Word p) (hl : ss.length = 3) (h2 : ∀ p, ss[1]? = some p → Second p) : Body (Str.ofString "27;" ++ Str.join ⟨#[59]⟩ (ss.drop 1)) := by
  rw [body_27 (by intro e; have := congrArg List.length e; rw [List.length_drop, hl] at this; exact absurd this (by decide))]
  refine body_of (fun p hp => ?_) (by rw [List.length_cons, List.length_drop]; omega) fun p hp => ?_
  · rcases List.mem_cons.mp hp with rfl | hp
    · exact word_27
    · exact hw p (List.mem_of_mem_drop hp)
  · rw [List.getElem?_cons_succ, List.getElem?_drop] at hp
    exact h2 p hp
theorem name_B {M : Model} {A : Around} {E : Value → Shared → Prop} {s : Shared} {K : Frag} {h₀ : Heap} {mg mb : Str → Option Value} {p : Program} {loose : List Str} {env : Env} {x : Str} {pos : Pos} {v : Value} {Q : Value → Shared → Prop}
    (hkp : KeepsAll h₀ s.heap) (X : K.In h₀) (T : TopRead p loose mg mb h₀) (e : nsIn K mainGlobals x = some none) (hv : bootBuiltins x = some v) (hn : x ≠ "__name__") (h : Q v s)
    (hk : env.scope.kind = .function) (hx : env.kindOf x = some .globalImplicit) (hg : env.globals = mainGlobals) (hb : env.builtins = builtinsNs) (hd : (x == ("__debug__" : Str)) = false := by decide) : wpAny M A (eval (.Name x pos) env) Q E s :=
  PySem.Calls.Name_function_global hk hx (PySem.Calls.loadGlobal_builtin (by rw [hg]; exact T.g.keeps hkp.keep) (mg_none_of X T.g e) (by rw [hb]; exact T.b.keeps hkp.keep) ((T.builtins x hn).trans hv) h) hd
end Mine
namespace Mine
theorem ord_elt {prog : Program} {w : World} {A : Around} {E : Value → Shared → Prop} {s : Shared} {K : Frag} {h₀ : Heap} {mg mb : Str → Option Value} {p : Program} {loose : List Str} {env : Env} {m : Str → Option Value} {c : Nat} {u : Tok} {x : Str} {p1 p2 p3 : Pos}
    (hkp : KeepsAll h₀ s.heap) (X : K.In h₀) (T : TopRead p loose mg mb h₀) (e : nsIn K mainGlobals (Str.ofString "ord") = some none) (hn : s.heap.Ns env.locals m) (hm : m x = some (.str ⟨#[c]⟩ u))
    (hk : env.scope.kind = .function) (ho : env.kindOf (Str.ofString "ord") = some .globalImplicit) (hx : env.kindOf x = some .local) (hd : (x == ("__debug__" : Str)) = false) (hg : env.globals = mainGlobals) (hb : env.builtins = builtinsNs) :
    wpAny (model prog w) A (eval (.Call (.Name (Str.ofString "ord") p1) [.Name x p2] [] p3) env) (fun r s₃ => (∃ t, r = .int (c : Int) t) ∧ Keeps s s₃) E s := by
  walk1
  refine name_B hkp X T e rfl (by decide) ?_ hk ho hg hb
  walk1
  walk1
  refine wpAny_Name (wpAny_loadName_local hk hx hn hm ?_) hd
  walk1
  exact PySem.P.ord_of_char ⟨⟨_, rfl⟩, _, _, rfl, fun _ _ h => h⟩
theorem key_due {w : World} {r : Option K4} {v v' : Value} {new new' : List (Addr × Obj)} (K : KeyR w r v new) (D : DueR r v' new') : (v = .none ∧ v' = .none ∧ new = [] ∧ new' = []) ∨
    ∃ (n : Array UInt8) (c h e : Int) (x d y : Addr) (t1 t2 t3 t4 u1 u2 u3 u4 s1 s2 s3 s4 : Tok), v = .ref x ∧ v' = .ref y ∧ new' = [(y, { cls := .type "tuple", data := .seq #[.bytes n s1, .int c s2, .int h s3, .int e s4] })] ∧
      new = [(x, instObj 116 d), (d, dictOf [⟨PyData.keyHash w.params (Str.ofString "name"), .str (Str.ofString "name") t1, .bytes n u1⟩, ⟨PyData.keyHash w.params (Str.ofString "code"), .str (Str.ofString "code") t2, .int c u2⟩,
        ⟨PyData.keyHash w.params (Str.ofString "held"), .str (Str.ofString "held") t3, .int h u3⟩, ⟨PyData.keyHash w.params (Str.ofString "event"), .str (Str.ofString "event") t4, .int e u4⟩] 4)] := by
  cases K with
  | none => cases D with | none => exact .inl ⟨rfl, rfl, rfl, rfl⟩
  | some n c h e x d t1 t2 t3 t4 u1 u2 u3 u4 => cases D with | some n c h e y s1 s2 s3 s4 => exact .inr ⟨n, c, h, e, x, d, y, t1, t2, t3, t4, u1, u2, u3, u4, s1, s2, s3, s4, rfl, rfl, rfl, rfl⟩
theorem own_off {w : World} {c d : Addr} {T own : List (Addr × Obj)} (hT : TapeOk w c d T) (hrc : ∀ p ∈ own, p.1 ≠ c) (hrd : ∀ p ∈ own, p.1 ≠ d) : OwnOff own (T.map (·.1)) := by
  obtain ⟨vs, ns, n, o, sd, t, rfl, _⟩ := hT
  intro p hp b hb
  rcases List.mem_cons.mp hb with rfl | hb
  · exact hrc p hp
  · rcases List.mem_cons.mp hb with rfl | hb
    · exact hrd p hp
    · exact absurd hb List.not_mem_nil
end Mine
theorem PySem.Challenge.cw_pq1183_01_holds : PySem.Challenge.rw_pq1183_01.Holds := by
  have fill : PySem.Challenge.rw_pq1183_01.row.prog = PySem.Challenge.rw_pq1183_01.row.prog ∧ Mine.KK = Mine.KK := by
    k_fill
    exact ⟨rfl, rfl⟩
  clear fill
  w_on
  refine holds_law Mine.said0 fun said => ?_
  refine holds_open (q := vw) (loose := loose0) (Xt := fun s => xlAt vw lv0 s && recOk (RowW.records R0) s) (XP := XL vw lv0) (Yf := HK.obs) (Ya := HK.val) (YP := HK.says) (N := 3252) left0 HK.of HK.keeps (fun s e => xl_of s (Bool.and_eq_true_iff.mp e).1) XL.keeps (by rfl) (by rfl) (by rfl) (fun s e => recFacts_of (Bool.and_eq_true_iff.mp e).2) (by rfl) (by first | assumption | decide +kernel) (by decide +kernel) ⟨rfl, rfl, rfl, rfl, rfl, by decide +kernel⟩ ?hw ?hc
  case hw => w_witness2
  case hc =>
    w_strict (
      k_go0
      (all_goals try k_fold)
      rename IntsAre _ _ => hI9
      rename Heap.IsList _ _ _ => hLs
      rename ¬ _ => hn9
      rename World => w
      k_steps
      k_here
      k_dflt (cell_ask (tape_C _ _ _ _ _ _ _ _ _ _ hI9 (by omega)))
      refine ⟨hLs, ?_⟩
      intro c d h9 tk9 T9 hT hcd hds F9 N9
      try dsimp only
      try k_fold
      repeat (first | (k_unfold; (try dsimp only)) | ((fail_if_success (with_reducible show wpAny _ _ (exec (Stmt.For _ _ _ _ _) _) _ _ _)); first | walk1 | (dsimp only; walk1)))
      k_here
      rename Fr _ _ _ _ => lF'
      with_unfolding_all refine' For_invVF lF' ?kk1 ?kk2 ?_
      case kk1 => exact rfl
      case kk2 => exact rfl
      k_whole
      k_steps
      rename IsRange _ _ _ _ _ _ _ _ => hR
      rename Fr _ _ _ _ => FR
      rename News _ _ _ _ => NR
      with_unfolding_all refine' loopR ["final", "many", "some", "words", "body", "key", "due"] (fun _ nx => TapeOk w c d nx) T9 ?lh hR ?ls ?lz FR NR ?ln hT ?turn ?done
      case lh => exact rfl
      case ls => exact rfl
      case lz => exact rfl
      case ln => exact fun p hp => List.mem_append_left _ hp
      case turn =>
        intro i k t u nx h tk own hi9 off hT F1 N1
        obtain ⟨hrc, hrd⟩ := own_c hT off
        clear FR NR hR
        try k_fold
        k_steps
        k_here
        k_dflt (cell_ask (pickT_C _ _ _ _ _ _ _ _ _ _ _ (tab216 _) hT hcd hrc hrd hds))
        intro v1 h1 tk1 T1 hv1 hT1 F1 N1
        obtain ⟨final, tf, q1⟩ := hv1
        subst q1
        try dsimp only
        try k_fold
        k_steps
        k_here
        k_dflt (cell_ask (next_C _ _ _ _ _ _ _ _ _ _ _ _ hT1 hcd hrc hrd hds (by decide) (by decide)))
        intro v2 h2 tk2 T2 hv2 hT2 F2 N2
        obtain ⟨many, tm, q2, m0, m5⟩ := hv2
        subst q2
        try dsimp only
        try k_fold
        k_steps
        rename News _ _ _ _ => N3
        replace N3 : News _ _ _ (T2 ++ own) := fun p hp => N3 p (.tail _ hp)
        k_here
        with_unfolding_all refine' val_cut (fun v => ∃ l, v = .ref l ∧ TabOk w l WordV) ?wF ?wN ?wh1 ?wh2
        case wF => k_asm
        case wN => exact N3
        case wh1 =>
          walk1
          k_steps
          all_goals (try (walk1; k_steps))
          · exact .mk _ _ _ (by with_reducible assumption) (by with_reducible assumption) ⟨_, rfl, tab218 _⟩
          · exact .mk _ _ _ (by with_reducible assumption) (by with_reducible assumption) ⟨_, rfl, tab219 _⟩
          · exact .mk _ _ _ (by with_reducible assumption) (by with_reducible assumption) ⟨_, rfl, tab217 _⟩
        case wh2 =>
        intro v4 h4 tk4 ⟨l4, q4, hl4⟩ F4 N4
        subst q4
        try dsimp only
        try k_fold
        k_steps
        k_here
        k_dflt (cell_ask (pickT_C _ _ _ _ _ _ _ _ _ _ _ hl4 hT2 hcd hrc hrd hds))
        intro v5 h5 tk5 T5 hv5 hT5 F5 N5
        obtain ⟨w1, t1, q5, hw1⟩ := hv5
        subst q5
        try dsimp only
        try k_fold
        k_steps
        k_here
        k_dflt (cell_ask (pickT_C _ _ _ _ _ _ _ _ _ _ _ (tab220 _) hT5 hcd hrc hrd hds))
        intro v6 h6 tk6 T6 hv6 hT6 F6 N6
        obtain ⟨w2, t2, q6, hw2⟩ := hv6
        subst q6
        try dsimp only
        try k_fold
        k_steps
        k_here
        k_dflt (cell_ask (pickT_C _ _ _ _ _ _ _ _ _ _ _ (tab219 _) hT6 hcd hrc hrd hds))
        intro v7 h7 tk7 T7 hv7 hT7 F7 N7
        obtain ⟨w3, t3, q7, hw3⟩ := hv7
        subst q7
        try dsimp only
        try k_fold
        repeat (first | (k_unfold; (try dsimp only)) | ((fail_if_success (with_reducible show wpAny _ _ (subscriptTail _ _ _ _) _ _ _)); first | walk1 | (dsimp only; walk1)))
        obtain ⟨us, ss, e8, hss, hsw, hsl, hs1⟩ := words_cut (t1 := t1) (t2 := t2) (t3 := t3) (w4 := Str.ofString "1") m0 m5 hw1 hw2 hw3 word_one
        rename News _ _ _ _ => N8
        rename ∀ p ∈ T7 ++ own, _ => l7
        have l8 := news_lt N8
        (k_here; k_dflt (refine kba_turn (value' := PySem.Expr.Name (PySem.Str.ofString "_") ⟨0, 0, 0, 0⟩) (fun _ => rfl) ?_))
        walk1
        rename News _ _ _ _ => N8
        rw [e8] at N8
        repeat (first | (k_unfold; (try dsimp only)) | ((fail_if_success (with_reducible show wpAny _ _ (call (Value.builtin "str.join") _ _) _ _ _)); first | walk1 | (dsimp only; walk1)))
        rename News _ _ _ _ => N8
        k_here
        k_dflt (refine' join_listW (items := us.toArray) (ys := ss) (N8.isList (.head _)) hss (by decide) ?jw ?_)
        case jw => have := words_weight hsw (Nat.le_refl _); omega
        intro t8 k8
        rw [txt_join]
        repeat (first | (k_unfold; (try dsimp only)) | ((fail_if_success (with_reducible show wpAny _ _ (exec (Stmt.If _ _ _ _) _) _ _ _)); first | walk1 | (dsimp only; walk1)))
        have hB : Body (Str.join ⟨#[59]⟩ ss) := body_of hsw (by omega) hs1
        rename Fr _ _ _ _ => F9
        rename News _ _ _ _ => N9
        have N10 := news_mid N9
        obtain ⟨oc, od⟩ := grow_off (oW := { cls := .type "list", data := .seq us.toArray }) hT7 hrc hrd l7 l8
        k_here
        with_unfolding_all refine' body_cut (w := w) (c := c) (d := d) (own := own) F9 ?bh1 ?bh2
        case bh1 =>
          k_steps
          · k_here
            k_dflt (cell_ask (next_C _ _ _ _ _ _ _ _ _ _ _ _ hT7 hcd oc od hds (by decide) (by decide)))
            intro v11 h11 tk11 T11 hv11 hT11 F11 N11
            obtain ⟨zero, tz, q11, _, _⟩ := hv11
            subst q11
            have N12 := news_first N11
            try dsimp only
            try k_fold
            clear N10 N11
            repeat' (first | (k_unfold; (try dsimp only)) | ((fail_if_success (with_reducible show wpAny _ _ (call (Value.builtin "str.join") _ _) _ _ _)); (fail_if_success (with_reducible show BodyQ _ _ _ _ _ _ _ _ _ _)); first | walk1 | (dsimp only; walk1)))
            · obtain ⟨xs, e13, hxs⟩ := words_from hss
              rename News _ _ _ _ => N13
              rw [e13] at N13
              k_here
              k_dflt (refine' join_listW (items := xs.toArray) (ys := ss.drop 1) (N13.isList (.head _)) hxs (by decide) ?jw2 ?_)
              case jw2 => have := words_weight (ss := ss.drop 1) (fun p hp => hsw p (List.mem_of_mem_drop hp)) (Nat.le_refl _); rw [List.length_drop] at this ⊢; omega
              intro t13 k13
              rw [txt_join]
              repeat' (first | (k_unfold; (try dsimp only)) | ((fail_if_success (with_reducible show wpAny _ _ (binaryOp _ _ _) _ _ _)); first | walk1 | (dsimp only; walk1)))
              have hb27 := (body_27_ok hsw (by omega) hs1).1
              rw [Str.length_append] at hb27
              k_here
              k_dflt (refine' SB.add ?_ ?asz)
              case asz => exact Nat.le_trans hb27 (by decide)
              intro t15 k15
              k_steps
              rename News _ _ _ _ => N13
              refine' .mk _ _ T11 _ _ _ (body_27_ok hsw (by omega) hs1) hT11 ?qF (fun p hp => N13 p (.tail _ (.tail _ hp))) ?qE ?qZ
              case qF => with_reducible assumption
              case qE => exact rfl
              case qZ => exact fun z hz => if_neg hz
            · exact .mk _ _ T11 _ _ _ hB hT11 (by with_reducible assumption) (fun p hp => N12 p (.tail _ hp)) rfl (fun _ _ => rfl)
          all_goals exact .mk _ _ T7 _ _ _ hB hT7 (by with_reducible assumption) (fun p hp => N9 p (.tail _ (.tail _ hp))) rfl (fun _ _ => rfl)
        case bh2 =>
        intro q tq T14 h14 tk14 hBq hT14 F14 N14
        clear hB hss hsw hsl hs1 e8 N9 N10 oc od l7 l8 hw1 hw2 hw3 hT7 hT6 hT5 hT2 hT1 hT
        try dsimp only
        try k_fold
        repeat' (first | (k_unfold; (try dsimp only)) | ((fail_if_success (with_reducible show wpAny _ _ (eval (PySem.Expr.ListComp _ _ _ _) _) _ _ _)); first | walk1 | (dsimp only; walk1)))
        k_here
        (with_reducible apply ListComp_rowsP)
        case hfree => decide
        case hcell => decide
        case hkind => with_unfolding_all rfl
        case hnames => decide
        case hx => with_unfolding_all rfl
        case hs => intro _; with_unfolding_all rfl
        k_steps
        obtain ⟨hq60, hq256, hqsec⟩ := hBq
        with_unfolding_all refine' srcC_ords ?ch ?cF ?cN ?cg2 ?cg3 ?cz
        case ch => rfl
        case cF => k_asm
        case cN => k_asm
        case cz => rw [sizeLine_eq]; omega
        case cg2 =>
          intro C ch u s2 m2 E2 hn2 hm2 hkp
          rename Top _ _ _ _ _ _ => TT
          rename Frag.In _ _ => XX
          with_unfolding_all refine' ord_elt hkp XX ?oT ?oE hn2 hm2 ?oK ?oo ?ox ?od ?og ?ob
          case oT => k_asm
          case oE => k_is
          case oK => exact rfl
          case oo => exact rfl
          case ox => exact rfl
          case od => decide
          case og => exact rfl
          case ob => exact rfl
        case cg3 =>
          intro D ys h15 tk15 F15 N15 hnew hLD hPD hID
          try k_fold
          repeat' (first | (k_unfold; (try dsimp only)) | ((fail_if_success (with_reducible show wpAny _ _ (call (Value.type "bytes") _) _ _ _)); first | walk1 | (dsimp only; walk1)))
          k_here
          k_dflt (refine' bytes_K F15 N15 hLD hID ?br ?bz ?bh ?_)
          case br =>
            intro n hn9
            obtain ⟨c9, hc9, rfl⟩ := List.mem_map.mp hn9
            have := hq256 c9 hc9
            omega
          case bz => rw [hID.length, List.length_map, sizeLine_eq]; exact Nat.le_trans hq60 (by decide)
          case bh => rfl
          intro h16 t16 k16 F16 N16 _
          have hoct : (octets q).size ≤ 60 := by rw [octets_size]; exact hq60
          try dsimp only
          try k_fold
          k_steps
          k_here
          k_dflt (cell_ask (csi_C _ _ _ _ _ _ _ (octets q) _ _ _ hoct))
          intro v17 h17 tk17 new17 R17 F17 N17
          try dsimp only
          try k_fold
          k_steps
          k_here
          k_dflt (cell_ask (due_C _ _ _ _ _ _ _ _ _ _ _ hq60 hq256))
          intro v18 h18 tk18 new18 R18 F18 N18
          try dsimp only
          try k_fold
          k_steps
          rw [← agree hq256 hqsec final] at R18
          rcases key_due R17 R18 with ⟨z1, z2, z3, z4⟩ | ⟨n, kc, kh, ke, x, xd, y, t1, t2, t3, t4, u1, u2, u3, u4, s1, s2, s3, s4, z1, z2, z4, z3⟩
          · subst z1 z2 z3 z4
            clear R17 R18
            walk1
            repeat' (first | (k_unfold; (try dsimp only)) | ((fail_if_success (with_reducible show wpAny _ _ (compareOp CmpOp.NotEq _ _) _ _ _)); first | walk1 | (dsimp only; walk1)))
            k_here
            refine ne_none ?_
            k_steps
            rename News _ _ _ _ => NE
            refine' InvEndG.intro (nx := T14) ?iF NE ⟨?im, hT14⟩ (own_off hT14 hrc hrd) (fun p hp => .tail _ (show p ∈ T14 ++ own from List.mem_append_left _ hp)) (fun p hp => .tail _ (show p ∈ T14 ++ own from List.mem_append_right _ hp))
            case iF => k_asm
            case im =>
              intro z hz1 hz2
              have n0 : z ≠ Str.ofString "final" := by intro e; subst e; exact absurd hz2 (by decide)
              have n1 : z ≠ Str.ofString "many" := by intro e; subst e; exact absurd hz2 (by decide)
              have n2 : z ≠ Str.ofString "some" := by intro e; subst e; exact absurd hz2 (by decide)
              have n3 : z ≠ Str.ofString "words" := by intro e; subst e; exact absurd hz2 (by decide)
              have n4 : z ≠ Str.ofString "body" := by intro e; subst e; exact absurd hz2 (by decide)
              have n5 : z ≠ Str.ofString "key" := by intro e; subst e; exact absurd hz2 (by decide)
              have n6 : z ≠ Str.ofString "due" := by intro e; subst e; exact absurd hz2 (by decide)
              simp only [if_neg hz1, if_neg n0, if_neg n1, if_neg n2, if_neg n3, if_neg n4, if_neg n5, if_neg n6, hz2, Bool.false_eq_true, if_false]
          · subst z1 z2 z3 z4
            clear R17 R18
            walk1
            repeat' (first | (k_unfold; (try dsimp only)) | ((fail_if_success (with_reducible show wpAny _ _ (compareOp CmpOp.NotEq _ _) _ _ _)); first | walk1 | (dsimp only; walk1)))
            rename News _ _ _ _ => NM
            k_here
            with_unfolding_all refine' ne_same4 NM (.head _) (.tail _ (.tail _ (.head _))) ?nu ?_
            case nu => ktr_units
            k_steps
            rename News _ _ _ _ => NE
            refine' InvEndG.intro (nx := T14) ?iF NE ⟨?im, hT14⟩ (own_off hT14 hrc hrd) (fun p hp => .tail _ (.tail _ (.tail _ (.tail _ (.tail _ (show p ∈ T14 ++ own from List.mem_append_left _ hp)))))) (fun p hp => .tail _ (.tail _ (.tail _ (.tail _ (.tail _ (show p ∈ T14 ++ own from List.mem_append_right _ hp))))))
            case iF => k_asm
            case im =>
              intro z hz1 hz2
              have n0 : z ≠ Str.ofString "final" := by intro e; subst e; exact absurd hz2 (by decide)
              have n1 : z ≠ Str.ofString "many" := by intro e; subst e; exact absurd hz2 (by decide)
              have n2 : z ≠ Str.ofString "some" := by intro e; subst e; exact absurd hz2 (by decide)
              have n3 : z ≠ Str.ofString "words" := by intro e; subst e; exact absurd hz2 (by decide)
              have n4 : z ≠ Str.ofString "body" := by intro e; subst e; exact absurd hz2 (by decide)
              have n5 : z ≠ Str.ofString "key" := by intro e; subst e; exact absurd hz2 (by decide)
              have n6 : z ≠ Str.ofString "due" := by intro e; subst e; exact absurd hz2 (by decide)
              simp only [if_neg hz1, if_neg n0, if_neg n1, if_neg n2, if_neg n3, if_neg n4, if_neg n5, if_neg n6, hz2, Bool.false_eq_true, if_false]
      case done =>
        intro u nx h tk hJ F1 N1
        try dsimp only
        try k_fold
        k_steps
        done)
