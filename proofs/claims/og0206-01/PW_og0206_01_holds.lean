import PyProof.Rows.All
import Wide.All
import OpenK.AllK
import Wide.FinOn
import KE.KTryDeepN
import KE.KTurns
import KE.KLcPair
import KE.KTurnsDict
import KE.KDictList
import KE.KBytesWalk
import PySem.Challenge.RW_og0206_01
open PySem PySem.W PyProof.Rows PySem.Calls PySem.Spec
set_option Elab.async false
set_option maxRecDepth 100000
set_option maxHeartbeats 8000000
set_option linter.unusedVariables false
set_option linter.unusedSectionVars false
set_option compiler.extract_closed false
namespace Mine
section
noncomputable def fnAt : List Stmt → Nat → Option (Arguments × List Stmt × PySem.Scope)
  | .FunctionDef _ p b _ _ _ sc _ _ _ :: _, 0 => some (p, b, sc)
  | _ :: l, n + 1 => fnAt l n
  | _, _ => none
noncomputable def clsAt : List Stmt → Nat → List Stmt
  | .ClassDef _ _ _ b _ _ _ _ _ _ _ :: _, 0 => b
  | _ :: l, n + 1 => clsAt l n
  | _, _ => []
noncomputable def fnObj (q : Option (Arguments × List Stmt × PySem.Scope)) (name qual : Str) (md : String) (mt cd : Nat) : Obj :=
  match q with
  | some (p, b, sc) => { cls := .type "function", data := .func { name := name, qualname := qual, params := p, body := .stmts b, scope := sc, globals := 3, closure := [], defaults := .none, kwdefaults := .none, pyModule := .str (Str.ofString md) mt, code := .ref cd } }
  | none => { cls := .none, data := .seq #[] }
noncomputable abbrev bodyM : List Stmt := PySem.Challenge.pw_og0206_01.main.body
noncomputable def view : Program := { PySem.Challenge.pw_og0206_01 with main := { PySem.Challenge.pw_og0206_01.main with body := bodyM.take 1 ++ (bodyM.drop 2).take 3 ++ (bodyM.drop 6).take 2 ++ (bodyM.drop 9).take 9 ++ bodyM.drop 19 } }
noncomputable def heapK : Params → Frag := fun P =>
  (nat_lit 2, { cls := Value.none, data := Data.dict #[{ hash := PyData.keyHash P (Str.ofString "type.__subclasses__.Exception.0"), key := Value.str (Str.ofString "type.__subclasses__.Exception.0") 221, val := Value.int 38 0 }, { hash := PyData.keyHash P (Str.ofString "type.__subclasses__.Exception.n"), key := Value.str (Str.ofString "type.__subclasses__.Exception.n") 222, val := Value.int 1 0 }] 2 }) ::
  (nat_lit 3, { cls := Value.type "dict", data := Data.dict #[{ hash := PyData.keyHash P (Str.ofString "__name__"), key := Value.str (Str.ofString "__name__") 165, val := Value.str (Str.ofString "law_og0206_01") 544 }, { hash := PyData.keyHash P (Str.ofString "__doc__"), key := Value.str (Str.ofString "__doc__") 166, val := Value.none }, { hash := PyData.keyHash P (Str.ofString "__package__"), key := Value.str (Str.ofString "__package__") 167, val := Value.none }, { hash := PyData.keyHash P (Str.ofString "__loader__"), key := Value.str (Str.ofString "__loader__") 168, val := Value.builtin "__main__.__loader__#opaque" }, { hash := PyData.keyHash P (Str.ofString "__spec__"), key := Value.str (Str.ofString "__spec__") 169, val := Value.none }, { hash := PyData.keyHash P (Str.ofString "__annotations__"), key := Value.str (Str.ofString "__annotations__") 170, val := Value.ref 6 }, { hash := PyData.keyHash P (Str.ofString "__builtins__"), key := Value.str (Str.ofString "__builtins__") 171, val := Value.ref 4 }, { hash := PyData.keyHash P (Str.ofString "__file__"), key := Value.str (Str.ofString "__file__") 173, val := Value.str (Str.ofString "/claim/cut.py") 172 }, { hash := PyData.keyHash P (Str.ofString "__cached__"), key := Value.str (Str.ofString "__cached__") 174, val := Value.none }, { hash := PyData.keyHash P (Str.ofString "_wall"), key := Value.str (Str.ofString "_wall") 193, val := Value.ref 21 }, { hash := PyData.keyHash P (Str.ofString "DebugFault"), key := Value.str (Str.ofString "DebugFault") 224, val := Value.ref 38 }, { hash := PyData.keyHash P (Str.ofString "FormFault"), key := Value.str (Str.ofString "FormFault") 250, val := Value.ref 58 }, { hash := PyData.keyHash P (Str.ofString "TableFault"), key := Value.str (Str.ofString "TableFault") 266, val := Value.ref 70 }, { hash := PyData.keyHash P (Str.ofString "Octets"), key := Value.str (Str.ofString "Octets") 365, val := Value.ref 152 }, { hash := PyData.keyHash P (Str.ofString "Writer"), key := Value.str (Str.ofString "Writer") 472, val := Value.ref 243 }, { hash := PyData.keyHash P (Str.ofString "VERSION"), key := Value.str (Str.ofString "VERSION") 476, val := Value.int 2 475 }, { hash := PyData.keyHash P (Str.ofString "ADDRESS_SIZE"), key := Value.str (Str.ofString "ADDRESS_SIZE") 478, val := Value.int 4 477 }, { hash := PyData.keyHash P (Str.ofString "ROWS_AT"), key := Value.str (Str.ofString "ROWS_AT") 480, val := Value.int 16 479 }, { hash := PyData.keyHash P (Str.ofString "MEMORY_END"), key := Value.str (Str.ofString "MEMORY_END") 484, val := Value.int 4294967296 483 }, { hash := PyData.keyHash P (Str.ofString "write_set"), key := Value.str (Str.ofString "write_set") 496, val := Value.ref 254 }, { hash := PyData.keyHash P (Str.ofString "write_aranges"), key := Value.str (Str.ofString "write_aranges") 508, val := Value.ref 261 }, { hash := PyData.keyHash P (Str.ofString "read_set"), key := Value.str (Str.ofString "read_set") 522, val := Value.ref 268 }, { hash := PyData.keyHash P (Str.ofString "read_aranges"), key := Value.str (Str.ofString "read_aranges") 532, val := Value.ref 275 }, { hash := PyData.keyHash P (Str.ofString "unit_at"), key := Value.str (Str.ofString "unit_at") 543, val := Value.ref 282 }, { hash := PyData.keyHash P (Str.ofString "_law_begins"), key := Value.str (Str.ofString "_law_begins") 551, val := Value.ref 289 }, { hash := PyData.keyHash P (Str.ofString "_law_sizes"), key := Value.str (Str.ofString "_law_sizes") 557, val := Value.ref 296 }, { hash := PyData.keyHash P (Str.ofString "_law_units"), key := Value.str (Str.ofString "_law_units") 563, val := Value.ref 303 }, { hash := PyData.keyHash P (Str.ofString "_law_draw"), key := Value.str (Str.ofString "_law_draw") 575, val := Value.ref 310 }, { hash := PyData.keyHash P (Str.ofString "_law_row"), key := Value.str (Str.ofString "_law_row") 588, val := Value.ref 317 }, { hash := PyData.keyHash P (Str.ofString "_law_word"), key := Value.str (Str.ofString "_law_word") 599, val := Value.ref 324 }, { hash := PyData.keyHash P (Str.ofString "_law_octets"), key := Value.str (Str.ofString "_law_octets") 605, val := Value.ref 329 }, { hash := PyData.keyHash P (Str.ofString "_law_sets"), key := Value.str (Str.ofString "_law_sets") 616, val := Value.ref 336 }, { hash := PyData.keyHash P (Str.ofString "_law_written"), key := Value.str (Str.ofString "_law_written") 622, val := Value.ref 341 }, { hash := PyData.keyHash P (Str.ofString "_law_read"), key := Value.str (Str.ofString "_law_read") 634, val := Value.ref 348 }, { hash := PyData.keyHash P (Str.ofString "_law_bent"), key := Value.str (Str.ofString "_law_bent") 650, val := Value.ref 355 }, { hash := PyData.keyHash P (Str.ofString "_law_seen"), key := Value.str (Str.ofString "_law_seen") 657, val := Value.ref 362 }, { hash := PyData.keyHash P (Str.ofString "_law_unit"), key := Value.str (Str.ofString "_law_unit") 663, val := Value.ref 367 }, { hash := PyData.keyHash P (Str.ofString "law"), key := Value.str (Str.ofString "law") 669, val := Value.ref 372 }] 38 }) ::
  (nat_lit 34, { cls := Value.type "code", data := Data.fields #[Value.str (Str.ofString "__init__") 208, Value.str (Str.ofString "DebugFault.__init__") 209, Value.str (Str.ofString "/claim/cut.py") 210, Value.int 7 0, Value.int 2 0, Value.int 0 0, Value.int 0 0, Value.int 3 0, Value.ref 29, Value.bool Bool.true, Value.int 181 0, Value.ref 30, Value.none, Value.ref 31, Value.ref 32, Value.ref 33, Value.int 213 0, Value.int 7 0, Value.str (Str.ofString "/claim/cut.py") 214] }) ::
  (nat_lit 35, fnObj (fnAt (clsAt bodyM 2) 0) (Str.ofString "__init__") (Str.ofString "DebugFault.__init__") "stopmill.errors" 194 34) ::
  (nat_lit 37, { cls := Value.type "dict", data := Data.dict #[{ hash := PyData.keyHash P (Str.ofString "__module__"), key := Value.str (Str.ofString "__module__") 203, val := Value.str (Str.ofString "stopmill.errors") 194 }, { hash := PyData.keyHash P (Str.ofString "__firstlineno__"), key := Value.str (Str.ofString "__firstlineno__") 207, val := Value.int 5 206 }, { hash := PyData.keyHash P (Str.ofString "__init__"), key := Value.str (Str.ofString "__init__") 215, val := Value.ref 35 }, { hash := PyData.keyHash P (Str.ofString "__static_attributes__"), key := Value.str (Str.ofString "__static_attributes__") 217, val := Value.ref 36 }, { hash := PyData.keyHash P (Str.ofString "__weakref__"), key := Value.str (Str.ofString "__weakref__") 219, val := Value.ref 39 }, { hash := PyData.keyHash P (Str.ofString "__doc__"), key := Value.str (Str.ofString "__doc__") 220, val := Value.none }] 3 }) ::
  (nat_lit 38, { cls := Value.type "type", data := Data.cls { name := Str.ofString "DebugFault", bases := [Value.type "Exception"], mro := [Value.ref 38, Value.type "Exception", Value.type "BaseException", Value.type "object"], ns := 37, qualname := Str.ofString "DebugFault", subclasses := [Value.ref 58, Value.ref 70] }, slots := #[Option.some (Value.ref 22), Option.none, Option.some (Value.str (Str.ofString "DebugFault") 196), Option.some (Value.str (Str.ofString "DebugFault") 204), Option.some (Value.builtin "Exception.__new__"), Option.some (Value.bool Bool.true)] }) ::
  (nat_lit 54, { cls := Value.type "code", data := Data.fields #[Value.str (Str.ofString "__init__") 237, Value.str (Str.ofString "FormFault.__init__") 238, Value.str (Str.ofString "/claim/cut.py") 239, Value.int 12 0, Value.int 3 0, Value.int 0 0, Value.int 0 0, Value.int 3 0, Value.ref 49, Value.bool Bool.true, Value.int 181 0, Value.ref 50, Value.none, Value.ref 51, Value.ref 52, Value.ref 53, Value.int 243 0, Value.int 12 0, Value.str (Str.ofString "/claim/cut.py") 244] }) ::
  (nat_lit 55, fnObj (fnAt (clsAt bodyM 3) 0) (Str.ofString "__init__") (Str.ofString "FormFault.__init__") "stopmill.errors" 194 54) ::
  (nat_lit 57, { cls := Value.type "dict", data := Data.dict #[{ hash := PyData.keyHash P (Str.ofString "__module__"), key := Value.str (Str.ofString "__module__") 232, val := Value.str (Str.ofString "stopmill.errors") 194 }, { hash := PyData.keyHash P (Str.ofString "__firstlineno__"), key := Value.str (Str.ofString "__firstlineno__") 236, val := Value.int 10 235 }, { hash := PyData.keyHash P (Str.ofString "__init__"), key := Value.str (Str.ofString "__init__") 245, val := Value.ref 55 }, { hash := PyData.keyHash P (Str.ofString "__static_attributes__"), key := Value.str (Str.ofString "__static_attributes__") 247, val := Value.ref 56 }, { hash := PyData.keyHash P (Str.ofString "__doc__"), key := Value.str (Str.ofString "__doc__") 248, val := Value.none }] 2 }) ::
  (nat_lit 58, { cls := Value.type "type", data := Data.cls { name := Str.ofString "FormFault", bases := [Value.ref 38], mro := [Value.ref 58, Value.ref 38, Value.type "Exception", Value.type "BaseException", Value.type "object"], ns := 57, qualname := Str.ofString "FormFault" }, slots := #[Option.some (Value.ref 42), Option.none, Option.some (Value.str (Str.ofString "FormFault") 225), Option.some (Value.str (Str.ofString "FormFault") 233), Option.some (Value.builtin "Exception.__new__"), Option.some (Value.bool Bool.true)] }) ::
  (nat_lit 69, { cls := Value.type "dict", data := Data.dict #[{ hash := PyData.keyHash P (Str.ofString "__module__"), key := Value.str (Str.ofString "__module__") 258, val := Value.str (Str.ofString "stopmill.errors") 194 }, { hash := PyData.keyHash P (Str.ofString "__firstlineno__"), key := Value.str (Str.ofString "__firstlineno__") 262, val := Value.int 15 261 }, { hash := PyData.keyHash P (Str.ofString "__static_attributes__"), key := Value.str (Str.ofString "__static_attributes__") 263, val := Value.ref 68 }, { hash := PyData.keyHash P (Str.ofString "__doc__"), key := Value.str (Str.ofString "__doc__") 264, val := Value.none }] 2 }) ::
  (nat_lit 70, { cls := Value.type "type", data := Data.cls { name := Str.ofString "TableFault", bases := [Value.ref 38], mro := [Value.ref 70, Value.ref 38, Value.type "Exception", Value.type "BaseException", Value.type "object"], ns := 69, qualname := Str.ofString "TableFault" }, slots := #[Option.some (Value.ref 61), Option.none, Option.some (Value.str (Str.ofString "TableFault") 251), Option.some (Value.str (Str.ofString "TableFault") 259), Option.some (Value.builtin "Exception.__new__"), Option.some (Value.bool Bool.true)] }) ::
  (nat_lit 85, { cls := Value.type "code", data := Data.fields #[Value.str (Str.ofString "__init__") 281, Value.str (Str.ofString "Octets.__init__") 282, Value.str (Str.ofString "/claim/cut.py") 283, Value.int 20 0, Value.int 4 0, Value.int 0 0, Value.int 0 0, Value.int 3 0, Value.ref 80, Value.bool Bool.true, Value.int 181 0, Value.ref 81, Value.none, Value.ref 82, Value.ref 83, Value.ref 84, Value.int 288 0, Value.int 20 0, Value.str (Str.ofString "/claim/cut.py") 289] }) ::
  (nat_lit 86, fnObj (fnAt (clsAt bodyM 6) 0) (Str.ofString "__init__") (Str.ofString "Octets.__init__") "stopmill.octets" 267 85) ::
  (nat_lit 92, { cls := Value.type "code", data := Data.fields #[Value.str (Str.ofString "is_done") 291, Value.str (Str.ofString "Octets.is_done") 292, Value.str (Str.ofString "/claim/cut.py") 293, Value.int 27 0, Value.int 1 0, Value.int 0 0, Value.int 0 0, Value.int 3 0, Value.ref 87, Value.bool Bool.true, Value.int 181 0, Value.ref 88, Value.none, Value.ref 89, Value.ref 90, Value.ref 91, Value.int 295 0, Value.int 27 0, Value.str (Str.ofString "/claim/cut.py") 296] }) ::
  (nat_lit 93, fnObj (fnAt (clsAt bodyM 6) 1) (Str.ofString "is_done") (Str.ofString "Octets.is_done") "stopmill.octets" 267 92) ::
  (nat_lit 99, { cls := Value.type "code", data := Data.fields #[Value.str (Str.ofString "take") 298, Value.str (Str.ofString "Octets.take") 299, Value.str (Str.ofString "/claim/cut.py") 300, Value.int 30 0, Value.int 2 0, Value.int 0 0, Value.int 0 0, Value.int 3 0, Value.ref 94, Value.bool Bool.true, Value.int 181 0, Value.ref 95, Value.none, Value.ref 96, Value.ref 97, Value.ref 98, Value.int 303 0, Value.int 30 0, Value.str (Str.ofString "/claim/cut.py") 304] }) ::
  (nat_lit 100, fnObj (fnAt (clsAt bodyM 6) 2) (Str.ofString "take") (Str.ofString "Octets.take") "stopmill.octets" 267 99) ::
  (nat_lit 106, { cls := Value.type "code", data := Data.fields #[Value.str (Str.ofString "u8") 306, Value.str (Str.ofString "Octets.u8") 307, Value.str (Str.ofString "/claim/cut.py") 308, Value.int 36 0, Value.int 1 0, Value.int 0 0, Value.int 0 0, Value.int 3 0, Value.ref 101, Value.bool Bool.true, Value.int 181 0, Value.ref 102, Value.none, Value.ref 103, Value.ref 104, Value.ref 105, Value.int 310 0, Value.int 36 0, Value.str (Str.ofString "/claim/cut.py") 311] }) ::
  (nat_lit 107, fnObj (fnAt (clsAt bodyM 6) 3) (Str.ofString "u8") (Str.ofString "Octets.u8") "stopmill.octets" 267 106) ::
  (nat_lit 120, { cls := Value.type "code", data := Data.fields #[Value.str (Str.ofString "u16") 320, Value.str (Str.ofString "Octets.u16") 321, Value.str (Str.ofString "/claim/cut.py") 322, Value.int 42 0, Value.int 1 0, Value.int 0 0, Value.int 0 0, Value.int 3 0, Value.ref 115, Value.bool Bool.true, Value.int 181 0, Value.ref 116, Value.none, Value.ref 117, Value.ref 118, Value.ref 119, Value.int 324 0, Value.int 42 0, Value.str (Str.ofString "/claim/cut.py") 325] }) ::
  (nat_lit 121, fnObj (fnAt (clsAt bodyM 6) 5) (Str.ofString "u16") (Str.ofString "Octets.u16") "stopmill.octets" 267 120) ::
  (nat_lit 127, { cls := Value.type "code", data := Data.fields #[Value.str (Str.ofString "u32") 327, Value.str (Str.ofString "Octets.u32") 328, Value.str (Str.ofString "/claim/cut.py") 329, Value.int 45 0, Value.int 1 0, Value.int 0 0, Value.int 0 0, Value.int 3 0, Value.ref 122, Value.bool Bool.true, Value.int 181 0, Value.ref 123, Value.none, Value.ref 124, Value.ref 125, Value.ref 126, Value.int 331 0, Value.int 45 0, Value.str (Str.ofString "/claim/cut.py") 332] }) ::
  (nat_lit 128, fnObj (fnAt (clsAt bodyM 6) 6) (Str.ofString "u32") (Str.ofString "Octets.u32") "stopmill.octets" 267 127) ::
  (nat_lit 151, { cls := Value.type "dict", data := Data.dict #[{ hash := PyData.keyHash P (Str.ofString "__module__"), key := Value.str (Str.ofString "__module__") 276, val := Value.str (Str.ofString "stopmill.octets") 267 }, { hash := PyData.keyHash P (Str.ofString "__firstlineno__"), key := Value.str (Str.ofString "__firstlineno__") 280, val := Value.int 18 279 }, { hash := PyData.keyHash P (Str.ofString "__init__"), key := Value.str (Str.ofString "__init__") 290, val := Value.ref 86 }, { hash := PyData.keyHash P (Str.ofString "is_done"), key := Value.str (Str.ofString "is_done") 297, val := Value.ref 93 }, { hash := PyData.keyHash P (Str.ofString "take"), key := Value.str (Str.ofString "take") 305, val := Value.ref 100 }, { hash := PyData.keyHash P (Str.ofString "u8"), key := Value.str (Str.ofString "u8") 312, val := Value.ref 107 }, { hash := PyData.keyHash P (Str.ofString "s8"), key := Value.str (Str.ofString "s8") 319, val := Value.ref 114 }, { hash := PyData.keyHash P (Str.ofString "u16"), key := Value.str (Str.ofString "u16") 326, val := Value.ref 121 }, { hash := PyData.keyHash P (Str.ofString "u32"), key := Value.str (Str.ofString "u32") 333, val := Value.ref 128 }, { hash := PyData.keyHash P (Str.ofString "uleb"), key := Value.str (Str.ofString "uleb") 340, val := Value.ref 135 }, { hash := PyData.keyHash P (Str.ofString "sleb"), key := Value.str (Str.ofString "sleb") 347, val := Value.ref 142 }, { hash := PyData.keyHash P (Str.ofString "text"), key := Value.str (Str.ofString "text") 354, val := Value.ref 149 }, { hash := PyData.keyHash P (Str.ofString "__static_attributes__"), key := Value.str (Str.ofString "__static_attributes__") 358, val := Value.ref 150 }, { hash := PyData.keyHash P (Str.ofString "__dict__"), key := Value.str (Str.ofString "__dict__") 360, val := Value.ref 153 }, { hash := PyData.keyHash P (Str.ofString "__weakref__"), key := Value.str (Str.ofString "__weakref__") 362, val := Value.ref 154 }, { hash := PyData.keyHash P (Str.ofString "__doc__"), key := Value.str (Str.ofString "__doc__") 363, val := Value.none }] 4 }) ::
  (nat_lit 152, { cls := Value.type "type", data := Data.cls { name := Str.ofString "Octets", bases := [Value.type "object"], mro := [Value.ref 152, Value.type "object"], ns := 151, qualname := Str.ofString "Octets" }, slots := #[Option.none, Option.none, Option.some (Value.str (Str.ofString "Octets") 269), Option.some (Value.str (Str.ofString "Octets") 277), Option.some (Value.builtin "object.__new__"), Option.some (Value.bool Bool.true)] }) ::
  (nat_lit 169, { cls := Value.type "code", data := Data.fields #[Value.str (Str.ofString "__init__") 378, Value.str (Str.ofString "Writer.__init__") 379, Value.str (Str.ofString "/claim/cut.py") 380, Value.int 58 0, Value.int 1 0, Value.int 0 0, Value.int 0 0, Value.int 3 0, Value.ref 164, Value.bool Bool.true, Value.int 181 0, Value.ref 165, Value.none, Value.ref 166, Value.ref 167, Value.ref 168, Value.int 382 0, Value.int 58 0, Value.str (Str.ofString "/claim/cut.py") 383] }) ::
  (nat_lit 170, fnObj (fnAt (clsAt bodyM 7) 0) (Str.ofString "__init__") (Str.ofString "Writer.__init__") "stopmill.octets" 267 169) ::
  (nat_lit 176, { cls := Value.type "code", data := Data.fields #[Value.str (Str.ofString "size") 385, Value.str (Str.ofString "Writer.size") 386, Value.str (Str.ofString "/claim/cut.py") 387, Value.int 61 0, Value.int 1 0, Value.int 0 0, Value.int 0 0, Value.int 3 0, Value.ref 171, Value.bool Bool.true, Value.int 181 0, Value.ref 172, Value.none, Value.ref 173, Value.ref 174, Value.ref 175, Value.int 389 0, Value.int 61 0, Value.str (Str.ofString "/claim/cut.py") 390] }) ::
  (nat_lit 177, fnObj (fnAt (clsAt bodyM 7) 1) (Str.ofString "size") (Str.ofString "Writer.size") "stopmill.octets" 267 176) ::
  (nat_lit 183, { cls := Value.type "code", data := Data.fields #[Value.str (Str.ofString "octets") 392, Value.str (Str.ofString "Writer.octets") 393, Value.str (Str.ofString "/claim/cut.py") 394, Value.int 64 0, Value.int 1 0, Value.int 0 0, Value.int 0 0, Value.int 3 0, Value.ref 178, Value.bool Bool.true, Value.int 181 0, Value.ref 179, Value.none, Value.ref 180, Value.ref 181, Value.ref 182, Value.int 396 0, Value.int 64 0, Value.str (Str.ofString "/claim/cut.py") 397] }) ::
  (nat_lit 184, fnObj (fnAt (clsAt bodyM 7) 2) (Str.ofString "octets") (Str.ofString "Writer.octets") "stopmill.octets" 267 183) ::
  (nat_lit 197, { cls := Value.type "code", data := Data.fields #[Value.str (Str.ofString "u8") 407, Value.str (Str.ofString "Writer.u8") 408, Value.str (Str.ofString "/claim/cut.py") 409, Value.int 70 0, Value.int 2 0, Value.int 0 0, Value.int 0 0, Value.int 3 0, Value.ref 192, Value.bool Bool.true, Value.int 181 0, Value.ref 193, Value.none, Value.ref 194, Value.ref 195, Value.ref 196, Value.int 412 0, Value.int 70 0, Value.str (Str.ofString "/claim/cut.py") 413] }) ::
  (nat_lit 198, fnObj (fnAt (clsAt bodyM 7) 4) (Str.ofString "u8") (Str.ofString "Writer.u8") "stopmill.octets" 267 197) ::
  (nat_lit 204, { cls := Value.type "code", data := Data.fields #[Value.str (Str.ofString "u16") 415, Value.str (Str.ofString "Writer.u16") 416, Value.str (Str.ofString "/claim/cut.py") 417, Value.int 73 0, Value.int 2 0, Value.int 0 0, Value.int 0 0, Value.int 3 0, Value.ref 199, Value.bool Bool.true, Value.int 181 0, Value.ref 200, Value.none, Value.ref 201, Value.ref 202, Value.ref 203, Value.int 420 0, Value.int 73 0, Value.str (Str.ofString "/claim/cut.py") 421] }) ::
  (nat_lit 205, fnObj (fnAt (clsAt bodyM 7) 5) (Str.ofString "u16") (Str.ofString "Writer.u16") "stopmill.octets" 267 204) ::
  (nat_lit 211, { cls := Value.type "code", data := Data.fields #[Value.str (Str.ofString "u32") 423, Value.str (Str.ofString "Writer.u32") 424, Value.str (Str.ofString "/claim/cut.py") 425, Value.int 76 0, Value.int 2 0, Value.int 0 0, Value.int 0 0, Value.int 3 0, Value.ref 206, Value.bool Bool.true, Value.int 181 0, Value.ref 207, Value.none, Value.ref 208, Value.ref 209, Value.ref 210, Value.int 428 0, Value.int 76 0, Value.str (Str.ofString "/claim/cut.py") 429] }) ::
  (nat_lit 212, fnObj (fnAt (clsAt bodyM 7) 6) (Str.ofString "u32") (Str.ofString "Writer.u32") "stopmill.octets" 267 211) ::
  (nat_lit 239, { cls := Value.type "code", data := Data.fields #[Value.str (Str.ofString "patch_u32") 455, Value.str (Str.ofString "Writer.patch_u32") 456, Value.str (Str.ofString "/claim/cut.py") 457, Value.int 88 0, Value.int 3 0, Value.int 0 0, Value.int 0 0, Value.int 3 0, Value.ref 234, Value.bool Bool.true, Value.int 181 0, Value.ref 235, Value.none, Value.ref 236, Value.ref 237, Value.ref 238, Value.int 461 0, Value.int 88 0, Value.str (Str.ofString "/claim/cut.py") 462] }) ::
  (nat_lit 240, fnObj (fnAt (clsAt bodyM 7) 10) (Str.ofString "patch_u32") (Str.ofString "Writer.patch_u32") "stopmill.octets" 267 239) ::
  (nat_lit 242, { cls := Value.type "dict", data := Data.dict #[{ hash := PyData.keyHash P (Str.ofString "__module__"), key := Value.str (Str.ofString "__module__") 373, val := Value.str (Str.ofString "stopmill.octets") 267 }, { hash := PyData.keyHash P (Str.ofString "__firstlineno__"), key := Value.str (Str.ofString "__firstlineno__") 377, val := Value.int 56 376 }, { hash := PyData.keyHash P (Str.ofString "__init__"), key := Value.str (Str.ofString "__init__") 384, val := Value.ref 170 }, { hash := PyData.keyHash P (Str.ofString "size"), key := Value.str (Str.ofString "size") 391, val := Value.ref 177 }, { hash := PyData.keyHash P (Str.ofString "octets"), key := Value.str (Str.ofString "octets") 398, val := Value.ref 184 }, { hash := PyData.keyHash P (Str.ofString "take"), key := Value.str (Str.ofString "take") 406, val := Value.ref 191 }, { hash := PyData.keyHash P (Str.ofString "u8"), key := Value.str (Str.ofString "u8") 414, val := Value.ref 198 }, { hash := PyData.keyHash P (Str.ofString "u16"), key := Value.str (Str.ofString "u16") 422, val := Value.ref 205 }, { hash := PyData.keyHash P (Str.ofString "u32"), key := Value.str (Str.ofString "u32") 430, val := Value.ref 212 }, { hash := PyData.keyHash P (Str.ofString "uleb"), key := Value.str (Str.ofString "uleb") 438, val := Value.ref 219 }, { hash := PyData.keyHash P (Str.ofString "sleb"), key := Value.str (Str.ofString "sleb") 446, val := Value.ref 226 }, { hash := PyData.keyHash P (Str.ofString "text"), key := Value.str (Str.ofString "text") 454, val := Value.ref 233 }, { hash := PyData.keyHash P (Str.ofString "patch_u32"), key := Value.str (Str.ofString "patch_u32") 463, val := Value.ref 240 }, { hash := PyData.keyHash P (Str.ofString "__static_attributes__"), key := Value.str (Str.ofString "__static_attributes__") 465, val := Value.ref 241 }, { hash := PyData.keyHash P (Str.ofString "__dict__"), key := Value.str (Str.ofString "__dict__") 467, val := Value.ref 244 }, { hash := PyData.keyHash P (Str.ofString "__weakref__"), key := Value.str (Str.ofString "__weakref__") 469, val := Value.ref 245 }, { hash := PyData.keyHash P (Str.ofString "__doc__"), key := Value.str (Str.ofString "__doc__") 470, val := Value.none }] 4 }) ::
  (nat_lit 243, { cls := Value.type "type", data := Data.cls { name := Str.ofString "Writer", bases := [Value.type "object"], mro := [Value.ref 243, Value.type "object"], ns := 242, qualname := Str.ofString "Writer" }, slots := #[Option.none, Option.none, Option.some (Value.str (Str.ofString "Writer") 366), Option.some (Value.str (Str.ofString "Writer") 374), Option.some (Value.builtin "object.__new__"), Option.some (Value.bool Bool.true)] }) ::
  (nat_lit 253, { cls := Value.type "code", data := Data.fields #[Value.str (Str.ofString "write_set") 485, Value.str (Str.ofString "write_set") 486, Value.str (Str.ofString "/claim/cut.py") 487, Value.int 97 0, Value.int 3 0, Value.int 0 0, Value.int 0 0, Value.int 3 0, Value.ref 248, Value.bool Bool.true, Value.int 181 0, Value.ref 249, Value.none, Value.ref 250, Value.ref 251, Value.ref 252, Value.int 494 0, Value.int 97 0, Value.str (Str.ofString "/claim/cut.py") 495] }) ::
  (nat_lit 254, fnObj (fnAt bodyM 13) (Str.ofString "write_set") (Str.ofString "write_set") "stopmill.ranges" 473 253) ::
  (nat_lit 260, { cls := Value.type "code", data := Data.fields #[Value.str (Str.ofString "write_aranges") 497, Value.str (Str.ofString "write_aranges") 498, Value.str (Str.ofString "/claim/cut.py") 499, Value.int 113 0, Value.int 1 0, Value.int 0 0, Value.int 0 0, Value.int 3 0, Value.ref 255, Value.bool Bool.true, Value.int 181 0, Value.ref 256, Value.none, Value.ref 257, Value.ref 258, Value.ref 259, Value.int 506 0, Value.int 113 0, Value.str (Str.ofString "/claim/cut.py") 507] }) ::
  (nat_lit 261, fnObj (fnAt bodyM 14) (Str.ofString "write_aranges") (Str.ofString "write_aranges") "stopmill.ranges" 473 260) ::
  (nat_lit 267, { cls := Value.type "code", data := Data.fields #[Value.str (Str.ofString "read_set") 509, Value.str (Str.ofString "read_set") 510, Value.str (Str.ofString "/claim/cut.py") 511, Value.int 120 0, Value.int 2 0, Value.int 0 0, Value.int 0 0, Value.int 3 0, Value.ref 262, Value.bool Bool.true, Value.int 181 0, Value.ref 263, Value.none, Value.ref 264, Value.ref 265, Value.ref 266, Value.int 520 0, Value.int 120 0, Value.str (Str.ofString "/claim/cut.py") 521] }) ::
  (nat_lit 268, fnObj (fnAt bodyM 15) (Str.ofString "read_set") (Str.ofString "read_set") "stopmill.ranges" 473 267) ::
  (nat_lit 274, { cls := Value.type "code", data := Data.fields #[Value.str (Str.ofString "read_aranges") 523, Value.str (Str.ofString "read_aranges") 524, Value.str (Str.ofString "/claim/cut.py") 525, Value.int 139 0, Value.int 1 0, Value.int 0 0, Value.int 0 0, Value.int 3 0, Value.ref 269, Value.bool Bool.true, Value.int 181 0, Value.ref 270, Value.none, Value.ref 271, Value.ref 272, Value.ref 273, Value.int 530 0, Value.int 139 0, Value.str (Str.ofString "/claim/cut.py") 531] }) ::
  (nat_lit 275, fnObj (fnAt bodyM 16) (Str.ofString "read_aranges") (Str.ofString "read_aranges") "stopmill.ranges" 473 274) ::
  (nat_lit 281, { cls := Value.type "code", data := Data.fields #[Value.str (Str.ofString "unit_at") 533, Value.str (Str.ofString "unit_at") 534, Value.str (Str.ofString "/claim/cut.py") 535, Value.int 145 0, Value.int 2 0, Value.int 0 0, Value.int 0 0, Value.int 3 0, Value.ref 276, Value.bool Bool.true, Value.int 181 0, Value.ref 277, Value.none, Value.ref 278, Value.ref 279, Value.ref 280, Value.int 541 0, Value.int 145 0, Value.str (Str.ofString "/claim/cut.py") 542] }) ::
  (nat_lit 282, fnObj (fnAt bodyM 17) (Str.ofString "unit_at") (Str.ofString "unit_at") "stopmill.ranges" 473 281) ::
  (nat_lit 288, { cls := Value.type "code", data := Data.fields #[Value.str (Str.ofString "_law_begins") 546, Value.str (Str.ofString "_law_begins") 547, Value.str (Str.ofString "/claim/cut.py") 548, Value.int 151 0, Value.int 0 0, Value.int 0 0, Value.int 0 0, Value.int 3 0, Value.ref 283, Value.bool Bool.true, Value.int 181 0, Value.ref 284, Value.none, Value.ref 285, Value.ref 286, Value.ref 287, Value.int 549 0, Value.int 151 0, Value.str (Str.ofString "/claim/cut.py") 550] }) ::
  (nat_lit 289, fnObj (fnAt bodyM 19) (Str.ofString "_law_begins") (Str.ofString "_law_begins") "law_og0206_01" 544 288) ::
  (nat_lit 295, { cls := Value.type "code", data := Data.fields #[Value.str (Str.ofString "_law_sizes") 552, Value.str (Str.ofString "_law_sizes") 553, Value.str (Str.ofString "/claim/cut.py") 554, Value.int 153 0, Value.int 0 0, Value.int 0 0, Value.int 0 0, Value.int 3 0, Value.ref 290, Value.bool Bool.true, Value.int 181 0, Value.ref 291, Value.none, Value.ref 292, Value.ref 293, Value.ref 294, Value.int 555 0, Value.int 153 0, Value.str (Str.ofString "/claim/cut.py") 556] }) ::
  (nat_lit 296, fnObj (fnAt bodyM 20) (Str.ofString "_law_sizes") (Str.ofString "_law_sizes") "law_og0206_01" 544 295) ::
  (nat_lit 302, { cls := Value.type "code", data := Data.fields #[Value.str (Str.ofString "_law_units") 558, Value.str (Str.ofString "_law_units") 559, Value.str (Str.ofString "/claim/cut.py") 560, Value.int 155 0, Value.int 0 0, Value.int 0 0, Value.int 0 0, Value.int 3 0, Value.ref 297, Value.bool Bool.true, Value.int 181 0, Value.ref 298, Value.none, Value.ref 299, Value.ref 300, Value.ref 301, Value.int 561 0, Value.int 155 0, Value.str (Str.ofString "/claim/cut.py") 562] }) ::
  (nat_lit 303, fnObj (fnAt bodyM 21) (Str.ofString "_law_units") (Str.ofString "_law_units") "law_og0206_01" 544 302) ::
  (nat_lit 309, { cls := Value.type "code", data := Data.fields #[Value.str (Str.ofString "_law_draw") 564, Value.str (Str.ofString "_law_draw") 565, Value.str (Str.ofString "/claim/cut.py") 566, Value.int 157 0, Value.int 2 0, Value.int 0 0, Value.int 0 0, Value.int 3 0, Value.ref 304, Value.bool Bool.true, Value.int 181 0, Value.ref 305, Value.none, Value.ref 306, Value.ref 307, Value.ref 308, Value.int 573 0, Value.int 157 0, Value.str (Str.ofString "/claim/cut.py") 574] }) ::
  (nat_lit 310, fnObj (fnAt bodyM 22) (Str.ofString "_law_draw") (Str.ofString "_law_draw") "law_og0206_01" 544 309) ::
  (nat_lit 316, { cls := Value.type "code", data := Data.fields #[Value.str (Str.ofString "_law_row") 576, Value.str (Str.ofString "_law_row") 577, Value.str (Str.ofString "/claim/cut.py") 578, Value.int 170 0, Value.int 1 0, Value.int 0 0, Value.int 0 0, Value.int 3 0, Value.ref 311, Value.bool Bool.true, Value.int 181 0, Value.ref 312, Value.none, Value.ref 313, Value.ref 314, Value.ref 315, Value.int 586 0, Value.int 170 0, Value.str (Str.ofString "/claim/cut.py") 587] }) ::
  (nat_lit 317, fnObj (fnAt bodyM 23) (Str.ofString "_law_row") (Str.ofString "_law_row") "law_og0206_01" 544 316) ::
  (nat_lit 323, { cls := Value.type "code", data := Data.fields #[Value.str (Str.ofString "_law_word") 589, Value.str (Str.ofString "_law_word") 590, Value.str (Str.ofString "/claim/cut.py") 591, Value.int 181 0, Value.int 3 0, Value.int 0 0, Value.int 0 0, Value.int 3 0, Value.ref 318, Value.bool Bool.true, Value.int 181 0, Value.ref 319, Value.none, Value.ref 320, Value.ref 321, Value.ref 322, Value.int 597 0, Value.int 181 0, Value.str (Str.ofString "/claim/cut.py") 598] }) ::
  (nat_lit 324, fnObj (fnAt bodyM 24) (Str.ofString "_law_word") (Str.ofString "_law_word") "law_og0206_01" 544 323) ::
  (nat_lit 328, { cls := Value.type "code", data := Data.fields #[Value.str (Str.ofString "_law_octets") 600, Value.str (Str.ofString "_law_octets") 601, Value.str (Str.ofString "/claim/cut.py") 602, Value.int 186 0, Value.int 2 0, Value.int 0 0, Value.int 0 0, Value.int 3 0, Value.ref 325, Value.bool Bool.true, Value.int 181 0, Value.ref 326, Value.none, Value.none, Value.none, Value.ref 327, Value.int 603 0, Value.int 186 0, Value.str (Str.ofString "/claim/cut.py") 604] }) ::
  (nat_lit 329, fnObj (fnAt bodyM 25) (Str.ofString "_law_octets") (Str.ofString "_law_octets") "law_og0206_01" 544 328) ::
  (nat_lit 335, { cls := Value.type "code", data := Data.fields #[Value.str (Str.ofString "_law_sets") 606, Value.str (Str.ofString "_law_sets") 607, Value.str (Str.ofString "/claim/cut.py") 608, Value.int 188 0, Value.int 1 0, Value.int 0 0, Value.int 0 0, Value.int 3 0, Value.ref 330, Value.bool Bool.true, Value.int 181 0, Value.ref 331, Value.none, Value.ref 332, Value.ref 333, Value.ref 334, Value.int 614 0, Value.int 188 0, Value.str (Str.ofString "/claim/cut.py") 615] }) ::
  (nat_lit 336, fnObj (fnAt bodyM 26) (Str.ofString "_law_sets") (Str.ofString "_law_sets") "law_og0206_01" 544 335) ::
  (nat_lit 340, { cls := Value.type "code", data := Data.fields #[Value.str (Str.ofString "_law_written") 617, Value.str (Str.ofString "_law_written") 618, Value.str (Str.ofString "/claim/cut.py") 619, Value.int 193 0, Value.int 1 0, Value.int 0 0, Value.int 0 0, Value.int 3 0, Value.ref 337, Value.bool Bool.true, Value.int 181 0, Value.ref 338, Value.none, Value.none, Value.none, Value.ref 339, Value.int 620 0, Value.int 193 0, Value.str (Str.ofString "/claim/cut.py") 621] }) ::
  (nat_lit 341, fnObj (fnAt bodyM 27) (Str.ofString "_law_written") (Str.ofString "_law_written") "law_og0206_01" 544 340) ::
  (nat_lit 347, { cls := Value.type "code", data := Data.fields #[Value.str (Str.ofString "_law_read") 623, Value.str (Str.ofString "_law_read") 624, Value.str (Str.ofString "/claim/cut.py") 625, Value.int 203 0, Value.int 1 0, Value.int 0 0, Value.int 0 0, Value.int 3 0, Value.ref 342, Value.bool Bool.true, Value.int 181 0, Value.ref 343, Value.none, Value.ref 344, Value.ref 345, Value.ref 346, Value.int 632 0, Value.int 203 0, Value.str (Str.ofString "/claim/cut.py") 633] }) ::
  (nat_lit 348, fnObj (fnAt bodyM 28) (Str.ofString "_law_read") (Str.ofString "_law_read") "law_og0206_01" 544 347) ::
  (nat_lit 354, { cls := Value.type "code", data := Data.fields #[Value.str (Str.ofString "_law_bent") 635, Value.str (Str.ofString "_law_bent") 636, Value.str (Str.ofString "/claim/cut.py") 637, Value.int 223 0, Value.int 3 0, Value.int 0 0, Value.int 0 0, Value.int 3 0, Value.ref 349, Value.bool Bool.true, Value.int 181 0, Value.ref 350, Value.none, Value.ref 351, Value.ref 352, Value.ref 353, Value.int 648 0, Value.int 223 0, Value.str (Str.ofString "/claim/cut.py") 649] }) ::
  (nat_lit 355, fnObj (fnAt bodyM 29) (Str.ofString "_law_bent") (Str.ofString "_law_bent") "law_og0206_01" 544 354) ::
  (nat_lit 361, { cls := Value.type "code", data := Data.fields #[Value.str (Str.ofString "_law_seen") 651, Value.str (Str.ofString "_law_seen") 652, Value.str (Str.ofString "/claim/cut.py") 653, Value.int 235 0, Value.int 1 0, Value.int 0 0, Value.int 0 0, Value.int 3 0, Value.ref 356, Value.bool Bool.true, Value.int 181 0, Value.ref 357, Value.none, Value.ref 358, Value.ref 359, Value.ref 360, Value.int 655 0, Value.int 235 0, Value.str (Str.ofString "/claim/cut.py") 656] }) ::
  (nat_lit 362, fnObj (fnAt bodyM 30) (Str.ofString "_law_seen") (Str.ofString "_law_seen") "law_og0206_01" 544 361) ::
  (nat_lit 366, { cls := Value.type "code", data := Data.fields #[Value.str (Str.ofString "_law_unit") 658, Value.str (Str.ofString "_law_unit") 659, Value.str (Str.ofString "/claim/cut.py") 660, Value.int 240 0, Value.int 2 0, Value.int 0 0, Value.int 0 0, Value.int 3 0, Value.ref 363, Value.bool Bool.true, Value.int 181 0, Value.ref 364, Value.none, Value.none, Value.none, Value.ref 365, Value.int 661 0, Value.int 240 0, Value.str (Str.ofString "/claim/cut.py") 662] }) ::
  (nat_lit 367, fnObj (fnAt bodyM 31) (Str.ofString "_law_unit") (Str.ofString "_law_unit") "law_og0206_01" 544 366) ::
  (nat_lit 371, { cls := Value.type "code", data := Data.fields #[Value.str (Str.ofString "law") 664, Value.str (Str.ofString "law") 665, Value.str (Str.ofString "/claim/cut.py") 666, Value.int 243 0, Value.int 1 0, Value.int 0 0, Value.int 0 0, Value.int 3 0, Value.ref 368, Value.bool Bool.true, Value.int 181 0, Value.ref 369, Value.none, Value.none, Value.none, Value.ref 370, Value.int 667 0, Value.int 243 0, Value.str (Str.ofString "/claim/cut.py") 668] }) ::
  (nat_lit 372, fnObj (fnAt bodyM 32) (Str.ofString "law") (Str.ofString "law") "law_og0206_01" 544 371) :: []
end
section
noncomputable abbrev lvs : List (Str × WData) := [(Str.ofString "MEMORY_END", WData.int 4294967296)]
theorem heap_as : ∀ P, ([2, 3, 34, 35, 37, 38, 54, 55, 57, 58, 69, 70, 85, 86, 92, 93, 99, 100, 106, 107, 120, 121, 127, 128, 151, 152, 169, 170, 176, 177, 183, 184, 197, 198, 204, 205, 211, 212, 239, 240, 242, 243, 253, 254, 260, 261, 267, 268, 274, 275, 281, 282, 288, 289, 295, 296, 302, 303, 309, 310, 316, 317, 323, 324, 328, 329, 335, 336, 340, 341, 347, 348, 354, 355, 361, 362, 366, 367, 371, 372] : List Addr) = (heapK P).map (·.1) := fun _ => by kernel_rfl
noncomputable abbrev hookK : Hook := kHook heapK [2, 3, 34, 35, 37, 38, 54, 55, 57, 58, 69, 70, 85, 86, 92, 93, 99, 100, 106, 107, 120, 121, 127, 128, 151, 152, 169, 170, 176, 177, 183, 184, 197, 198, 204, 205, 211, 212, 239, 240, 242, 243, 253, 254, 260, 261, 267, 268, 274, 275, 281, 282, 288, 289, 295, 296, 302, 303, 309, 310, 316, 317, 323, 324, 328, 329, 335, 336, 340, 341, 347, 348, 354, 355, 361, 362, 366, 367, 371, 372] heap_as
theorem left : LeftO PySem.Challenge.rw_og0206_01.row.prog view [Str.ofString "MEMORY_END"]
    (fun s => xlAt view lvs s && recOk (RowW.records (OpenRow.toRowW PySem.Challenge.rw_og0206_01.row)) s) (Hook.obs hookK) (Hook.val hookK) 4992 := by
  intro w
  kernel_rfl
end
section
theorem unrEnd0 {h₀ : Heap} {L I : Addr} {it : Obj} {rest : (Str → Option Value) → List (Addr × Obj) → Prop} {s₁ : Shared} {h' : Heap} {tk : Nat} {m' : Str → Option Value} {tl : List (Addr × Obj)} (F : Fr h₀ L h' m') (N : News h₀ L h' ((I, it) :: tl))
    (off : ∀ p ∈ tl, p.1 ≠ I) (r : rest m' tl) : UnrEnd h₀ L s₁ I it rest { s₁ with heap := h', toks := tk } := UnrEnd.intro F N tl (fun _ h => h) off r

noncomputable def wordOf (ns : List Int) (a : Nat) : Nat → Int
  | 0 => 0
  | k + 1 => wordOf ns a k + ns.getD (a + k) 0 * 256 ^ k

theorem py256 {n : Int} (h : n < 5) : ((256 : Int) ^ n.toNat).natAbs.log2 < 9000 := by
  have h' : n.toNat < 5 := by lia
  generalize n.toNat = k at h'
  have : k = 0 ∨ k = 1 ∨ k = 2 ∨ k = 3 ∨ k = 4 := by lia
  rcases this with rfl | rfl | rfl | rfl | rfl <;> decide +kernel
theorem ne256 {n : Int} : ((256 : Int) ^ n.toNat) ≠ 0 := Int.ne_of_gt (Int.pow_pos (by decide))

theorem off1_all {D : Addr} : ∀ {l : List (Addr × Obj)}, LCg.Off1 D l → ∀ p ∈ l, p.1 ≠ D
  | [], _ => fun _ h => nomatch h
  | _ :: _, ⟨h, r⟩ => fun q hq => by rcases List.mem_cons.mp hq with rfl | hq; exact h; exact off1_all r q hq
noncomputable def leB (x : Int) (n : Nat) : List Int := (List.range n).map fun (k : Nat) => x / 256 ^ k % 256
theorem leB_eq (x : Int) (n : Nat) : List.map (fun k' : Int => (x.fdiv (256 ^ k'.toNat)).fmod 256) (rangeKs 0 n) = leB x n := by
  unfold rangeKs leB
  rw [List.map_map]
  refine List.map_congr_left fun k _ => ?_
  have h : (0 : Int) ≤ 256 ^ k := Int.le_of_lt (Int.pow_pos (by decide))
  simp only [Function.comp, Int.zero_add, Int.toNat_natCast]
  rw [Int.fdiv_eq_ediv_of_nonneg _ h, Int.fmod_eq_emod_of_nonneg _ (by decide)]
theorem sub_tail {p0 : Addr × Obj} {p1 : Addr × Obj} {news : List (Addr × Obj)} {h₀ h : Heap} {L : Addr} (N : News h₀ L h (p0 :: p1 :: news)) : News h₀ L h (p0 :: news) :=
  fun p hp => N p ((List.mem_cons.mp hp).elim (fun e => e ▸ .head _) fun h => .tail _ (.tail _ h))

section
variable {prog : Program} {w : World} {A : Around} {E : Value → Shared → Prop} {s : Shared} {h₀ : Heap} {L : Addr} {m : Str → Option Value} {news : List (Addr × Obj)} {Q : Value → Shared → Prop}
theorem lenI {l : Addr} {vs : List Value} {ns : List Int} {n : Nat} (N : News h₀ L s.heap news) (hm : (l, listOf vs.toArray n) ∈ news) (hi : IntsAre vs ns) (hf : ns.length < 2 ^ 62)
    (h : Q (.int (ns.length : Int) (s.toks + 1)) { s with toks := s.toks + 1 + 1 }) : wpAny (model prog w) A (call (.builtin "len") [.ref l]) Q E s := by
  have hl : s.heap.IsList l vs.toArray := ⟨_, (N _ hm).1, rfl, n, rfl⟩
  have e : vs.toArray.size = ns.length := by rw [List.size_toArray, hi.length]
  exact PyProof.Rows.len_list hl (by rw [e]; lia) (by rw [e]; exact h)
end

theorem news_swap {p0 p1 : Addr × Obj} {news : List (Addr × Obj)} {h₀ h : Heap} {L : Addr} (N : News h₀ L h (p0 :: p1 :: news)) : News h₀ L h (p1 :: p0 :: news) := by
  intro p hp
  rcases List.mem_cons.mp hp with rfl | hp
  · exact N _ (.tail _ (.head _))
  · rcases List.mem_cons.mp hp with rfl | hp
    · exact N _ (.head _)
    · exact N _ (.tail _ (.tail _ hp))

noncomputable abbrev tupOf (vs : List Value) (n : Nat) : Obj := { cls := .type "tuple", data := .seq vs.toArray n }
noncomputable def GoodRow (low size : Int) : Prop := 1 ≤ size ∧ size < 4294967296 ∧ 0 ≤ low ∧ low + size ≤ 4294967296
noncomputable instance (low size : Int) : Decidable (GoodRow low size) := by unfold GoodRow; infer_instance
noncomputable def IsUnit (u : Int) : Prop := u = 0 ∨ u = 77 ∨ u = 4294967295
noncomputable instance (u : Int) : Decidable (IsUnit u) := by unfold IsUnit; infer_instance
noncomputable def RowFact (low size unit : Int) (good : Bool) : Prop := good = decide (GoodRow low size) ∧ IsUnit unit ∧ -8589934592 < low ∧ low < 8589934592 ∧ -8589934592 < size ∧ size < 8589934592
noncomputable instance (low size unit : Int) (good : Bool) : Decidable (RowFact low size unit good) := by unfold RowFact; infer_instance
noncomputable abbrev bgs : List Int := [0, 1, 4096, 65536, 2147483648, 4294967295, 4294967280, 8]
noncomputable abbrev szs : List Int := [1, 2, 16, 100, 4096, 2147483648, 4294967296, 3]
noncomputable abbrev uns : List Int := [0, 77, 4294967295]
theorem row_all : ∀ k < 8, ∀ j < 8, ∀ v < 3,
    RowFact (bgs.getD k 0) 0 (uns.getD v 0) false ∧
    RowFact (0 - 1 - bgs.getD k 0) (if 4294967296 - bgs.getD k 0 < szs.getD j 0 then 4294967296 - bgs.getD k 0 else szs.getD j 0) (uns.getD v 0) false ∧
    RowFact (bgs.getD k 0) (4294967297 - bgs.getD k 0) (uns.getD v 0) false ∧
    RowFact (bgs.getD k 0) (if 4294967296 - bgs.getD k 0 < szs.getD j 0 then 4294967296 - bgs.getD k 0 else szs.getD j 0) (uns.getD v 0) (decide ((if 4294967296 - bgs.getD k 0 < szs.getD j 0 then 4294967296 - bgs.getD k 0 else szs.getD j 0) < 4294967296)) := by decide +kernel

theorem row1 {g0 g2 : Int} (h0 : g0 < 8) (h2 : g2 < 3) : RowFact (bgs.getD g0.toNat 0) 0 (uns.getD g2.toNat 0) false := (row_all g0.toNat (by lia) 0 (by lia) g2.toNat (by lia)).1
theorem row2 {g0 g1 g2 : Int} (h0 : g0 < 8) (h1 : g1 < 8) (h2 : g2 < 3) : RowFact (0 - 1 - bgs.getD g0.toNat 0) (if 4294967296 - bgs.getD g0.toNat 0 < szs.getD g1.toNat 0 then 4294967296 - bgs.getD g0.toNat 0 else szs.getD g1.toNat 0) (uns.getD g2.toNat 0) false := (row_all g0.toNat (by lia) g1.toNat (by lia) g2.toNat (by lia)).2.1
theorem row3 {g0 g2 : Int} (h0 : g0 < 8) (h2 : g2 < 3) : RowFact (bgs.getD g0.toNat 0) (4294967297 - bgs.getD g0.toNat 0) (uns.getD g2.toNat 0) false := (row_all g0.toNat (by lia) 0 (by lia) g2.toNat (by lia)).2.2.1
theorem row4 {g0 g1 g2 : Int} (h0 : g0 < 8) (h1 : g1 < 8) (h2 : g2 < 3) : RowFact (bgs.getD g0.toNat 0) (if 4294967296 - bgs.getD g0.toNat 0 < szs.getD g1.toNat 0 then 4294967296 - bgs.getD g0.toNat 0 else szs.getD g1.toNat 0) (uns.getD g2.toNat 0) (decide ((if 4294967296 - bgs.getD g0.toNat 0 < szs.getD g1.toNat 0 then 4294967296 - bgs.getD g0.toNat 0 else szs.getD g1.toNat 0) < 4294967296)) := (row_all g0.toNat (by lia) g1.toNat (by lia) g2.toNat (by lia)).2.2.2
theorem cps {P : Prop} (k : ∀ G : Prop, (P → G) → G) : P := k P id
theorem dat_at {tl : List (Addr × Obj)} {vs : List Value} {ds : List Dat} (h : DatAll tl vs ds) {i : Nat} {v : Value} (hv : vs[i]? = some v) : ∃ d, ds[i]? = some d ∧ DatIn tl v d := by
  have hi : i < ds.length := DatAll.length h ▸ (List.getElem?_eq_some_iff.mp hv).1
  refine Exists.elim (DatAll.get h hi) fun v' h' => ?_
  cases hv.symm.trans h'.1
  exact ⟨_, List.getElem?_eq_getElem hi, h'.2⟩
theorem dat_map {α : Type} {f : α → Dat} {tl : List (Addr × Obj)} {vs : List Value} {rows : List α} (h : DatAll tl vs (rows.map f)) {i : Nat} {v : Value} (hv : vs[i]? = some v) : ∃ r, rows[i]? = some r ∧ DatIn tl v (f r) := by
  obtain ⟨d, hd, hi⟩ := dat_at h hv
  rw [List.getElem?_map] at hd
  obtain ⟨r, hr, rfl⟩ := Option.map_eq_some_iff.mp hd
  exact ⟨r, hr, hi⟩
theorem inv_cons {tl : List (Addr × Obj)} {vs : List Value} {d : Dat} {ds : List Dat} (h : DatAll tl vs (d :: ds)) : ∃ v ws, vs = v :: ws ∧ DatIn tl v d ∧ DatAll tl ws ds := by
  cases h with
  | cons a b => exact ⟨_, _, rfl, a, b⟩
theorem inv_nil {tl : List (Addr × Obj)} {vs : List Value} (h : DatAll tl vs []) : vs = [] := by
  cases h with
  | nil => rfl
theorem inv_int {tl : List (Addr × Obj)} {v : Value} {n : Int} (h : DatIn tl v (.int n)) : ∃ t, v = .int n t := by
  cases h with
  | int i t => exact ⟨t, rfl⟩
theorem inv_bool {tl : List (Addr × Obj)} {v : Value} {b : Bool} (h : DatIn tl v (.bool b)) : v = .bool b := by
  cases h with
  | bool => rfl
theorem inv_tuple {tl : List (Addr × Obj)} {v : Value} {ds : List Dat} (h : DatIn tl v (.tuple ds)) : ∃ T vs n, v = .ref T ∧ (T, ({ cls := .type "tuple", data := .seq vs.toArray n } : Obj)) ∈ tl ∧ DatAll tl vs ds := by
  cases h with
  | tuple a b => exact ⟨_, _, _, rfl, a, b⟩
theorem inv_two {tl : List (Addr × Obj)} {v : Value} {d1 d2 : Dat} (h : DatIn tl v (.tuple [d1, d2])) : ∃ T n v1 v2, v = .ref T ∧ (T, ({ cls := .type "tuple", data := .seq #[v1, v2] n } : Obj)) ∈ tl ∧ DatIn tl v1 d1 ∧ DatIn tl v2 d2 := by
  obtain ⟨T, vs, n, rfl, hm, h⟩ := inv_tuple h
  obtain ⟨v1, ws, rfl, a1, h⟩ := inv_cons h
  obtain ⟨v2, ws, rfl, a2, h⟩ := inv_cons h
  obtain rfl := inv_nil h
  exact ⟨T, n, v1, v2, rfl, hm, a1, a2⟩
theorem inv_three {tl : List (Addr × Obj)} {v : Value} {d1 d2 d3 : Dat} (h : DatIn tl v (.tuple [d1, d2, d3])) : ∃ T n v1 v2 v3, v = .ref T ∧ (T, ({ cls := .type "tuple", data := .seq #[v1, v2, v3] n } : Obj)) ∈ tl ∧ DatIn tl v1 d1 ∧ DatIn tl v2 d2 ∧ DatIn tl v3 d3 := by
  obtain ⟨T, vs, n, rfl, hm, h⟩ := inv_tuple h
  obtain ⟨v1, ws, rfl, a1, h⟩ := inv_cons h
  obtain ⟨v2, ws, rfl, a2, h⟩ := inv_cons h
  obtain ⟨v3, ws, rfl, a3, h⟩ := inv_cons h
  obtain rfl := inv_nil h
  exact ⟨T, n, v1, v2, v3, rfl, hm, a1, a2, a3⟩
noncomputable def nmOk (cs : Scope) (x : Str) (k : NameKind) : Bool := decide (cs.kind = .function) && (decide (cs.names.lookup x = some k) && !(x == ("__debug__" : Str)))
theorem nmOk_of {cs : Scope} {x : Str} {k : NameKind} (h : nmOk cs x k = true) : cs.kind = .function ∧ cs.names.lookup x = some k ∧ (x == ("__debug__" : Str)) = false := by
  have h1 := Bool.and_eq_true_iff.mp h
  have h2 := Bool.and_eq_true_iff.mp h1.2
  exact ⟨of_decide_eq_true h1.1, of_decide_eq_true h2.1, (Bool.not_eq_true' _).mp h2.2⟩
section
variable {M : Model} {A : Around} {E : Value → Shared → Prop} {Q : Value → Shared → Prop} {s : Shared} {K : Frag} {h₀ : Heap} {L a : Addr} {m mg mb : Str → Option Value} {cn : Str} {cs : Scope} {ccd : Value} {cl : List (Str × Addr)} {p : Program} {loose : List Str} {mean : ExcName → Option Value} {x : Str} {v : Value} {pos : Pos}
theorem nameL (F : Fr h₀ L s.heap m) (hv : m x = some v) (hk : nmOk cs x .local = true) (h : Q v s) : wpAny M A (eval (.Name x pos) (envX cn cs L a ccd cl)) Q E s :=
  nameX_L F hv h (nmOk_of hk).1 (nmOk_of hk).2.1 (nmOk_of hk).2.2
theorem nameG (F : Fr h₀ L s.heap m) (X : K.In h₀) (T : TopRead p loose mg mb h₀) (e : nsIn K mainGlobals x = some (some v)) (hk : nmOk cs x .globalImplicit = true) (h : Q v s) : wpAny M A (eval (.Name x pos) (envX cn cs L a ccd cl)) Q E s :=
  nameX_K F X T e h (nmOk_of hk).1 (nmOk_of hk).2.1 (nmOk_of hk).2.2
theorem nameBi (F : Fr h₀ L s.heap m) (X : K.In h₀) (T : TopRead p loose mg mb h₀) (e : nsIn K mainGlobals x = some none) (hv : bootBuiltins x = some v) (hn : x ≠ "__name__") (hk : nmOk cs x .globalImplicit = true) (h : Q v s) : wpAny M A (eval (.Name x pos) (envX cn cs L a ccd cl)) Q E s :=
  nameX_B F X T e hv hn h (nmOk_of hk).1 (nmOk_of hk).2.1 (nmOk_of hk).2.2
theorem storeL {Q : Unit → Shared → Prop} {news : List (Addr × Obj)} (F : Fr h₀ L s.heap m) (N : News h₀ L s.heap news) (hk : nmOk cs x .local = true)
    (h : ∀ h', Fr h₀ L h' (fun y => if y = x then some v else m y) → News h₀ L h' news → Q () { s with heap := h', toks := s.toks + 1 }) : wpAny M A (storeName (envX cn cs L a ccd cl) x v) Q E s :=
  storeX_L F N h (nmOk_of hk).1 (nmOk_of hk).2.1
theorem bt1 {s : Shared} {fd : FuncData} {args : Args} {a1 : Str} {v1 : Value} (h : bindArgs fd args = pure [(a1, v1)]) : BindsTo s fd args [(a1, v1)] := .of_eq h
theorem bt2 {s : Shared} {fd : FuncData} {args : Args} {a1 a2 : Str} {v1 v2 : Value} (h : bindArgs fd args = pure [(a1, v1), (a2, v2)]) : BindsTo s fd args [(a1, v1), (a2, v2)] := .of_eq h
theorem bt3 {s : Shared} {fd : FuncData} {args : Args} {a1 a2 a3 : Str} {v1 v2 v3 : Value} (h : bindArgs fd args = pure [(a1, v1), (a2, v2), (a3, v3)]) : BindsTo s fd args [(a1, v1), (a2, v2), (a3, v3)] := .of_eq h
theorem bt {s : Shared} {fd : FuncData} {args : Args} {l : List (Str × Value)} (h : bindArgs fd args = pure l) : BindsTo s fd args l := .of_eq h
end
theorem wh2_mk {h₀ h' : Heap} {L : Addr} {s : Shared} {tk : Nat} {J : Nat → (Str → Option Value) → List (Addr × Obj) → Prop} {n n' : Nat} {m₂ : Str → Option Value} {news₂ : List (Addr × Obj)} (F : Fr h₀ L h' m₂) (N : News h₀ L h' news₂) (lt : n' < n) (hJ : J n' m₂ news₂) :
    ∃ h'' tk' m₂ news₂ n', ({ s with heap := h', toks := tk } : Shared) = { s with heap := h'', toks := tk' } ∧ Fr h₀ L h'' m₂ ∧ News h₀ L h'' news₂ ∧ n' < n ∧ J n' m₂ news₂ := ⟨_, _, _, _, _, rfl, F, N, lt, hJ⟩
theorem stepN_mk {h₀ h' : Heap} {L I l : Addr} {o ol : Obj} {s : Shared} {tk : Nat} {J : (Str → Option Value) → List (Addr × Obj) → Prop} {m₃ : Str → Option Value} {news₃ : List (Addr × Obj)} (F : Fr h₀ L h' m₃) (N : News h₀ L h' ((I, o) :: news₃)) (hm : (l, ol) ∈ news₃) (ho : ∀ p ∈ news₃, p.1 ≠ I) (hJ : J m₃ news₃) :
    ∃ h₃ tk₃ m₃ news₃, ({ s with heap := h', toks := tk } : Shared) = { s with heap := h₃, toks := tk₃ } ∧ Fr h₀ L h₃ m₃ ∧ News h₀ L h₃ ((I, o) :: news₃) ∧ (l, ol) ∈ news₃ ∧ (∀ p ∈ news₃, p.1 ≠ I) ∧ J m₃ news₃ := ⟨_, _, _, _, rfl, F, N, hm, ho, hJ⟩
inductive SegT | l (n : Nat) | a (x y : SegT)
noncomputable def SegT.den {α : Type} (segs : List (List α)) : SegT → List α
  | l n => segs.getD n []
  | a x y => x.den segs ++ y.den segs
noncomputable def SegT.has (k : Nat) : SegT → Bool
  | l n => n == k
  | a x y => x.has k || y.has k
noncomputable def SegT.into (z : SegT) : SegT → Bool
  | l n => z.has n
  | a x y => into z x && into z y
theorem SegT.mem {α : Type} {segs : List (List α)} {k : Nat} {p : α} (hp : p ∈ segs.getD k []) : ∀ z : SegT, z.has k = true → p ∈ z.den segs
  | l n, h => eq_of_beq h ▸ hp
  | a x y, h => List.mem_append.mpr ((Bool.or_eq_true_iff.mp h).imp (mem hp x) (mem hp y))
theorem SegT.sub {α : Type} {segs : List (List α)} (x z : SegT) (h : SegT.into z x = true) : ∀ p ∈ x.den segs, p ∈ z.den segs := fun p hp => by
  induction x with
  | l n => exact SegT.mem hp z h
  | a x y hx hy => exact (List.mem_append.mp hp).elim (hx (Bool.and_eq_true_iff.mp h).1) (hy (Bool.and_eq_true_iff.mp h).2)
section
variable {M : Model} {A : Around} {E : Value → Shared → Prop} {h₀ h : Heap} {g : Array GenState} {d : Drawn} {t : Nat} {o : OsState} {L a : Addr} {m : Str → Option Value} {cn : Str} {cs : Scope} {ccd : Value} {cl : List (Str × Addr)} {x : Str} {v : Value} {news : List (Addr × Obj)}
theorem constE {env : Env} {i : Int} {k} {pos : Pos} {Q : Value → Shared → Prop} (q : Q (.int i t) ⟨h, g, d, t + 1, o⟩) : wpAny M A (eval (.Constant (.int i) k pos) env) Q E ⟨h, g, d, t, o⟩ := wpAny_Constant_int q
theorem argInt {env : Env} {i : Int} {k} {p pos : Pos} {rest : List Expr} {Q : List Value → Shared → Prop} (q : wpAny M A (spliced (backTo pos (starEach rest env))) (fun vs s₂ => Q (.int i t :: vs) s₂) E ⟨h, g, d, t + 1, o⟩) :
    wpAny M A (spliced (backTo pos (starEach (.Constant (.int i) k p :: rest) env))) Q E ⟨h, g, d, t, o⟩ := args_cons (wpAny_Constant_int q)
theorem argLoc {s : Shared} {p pos : Pos} {rest : List Expr} {Q : List Value → Shared → Prop} (F : Fr h₀ L s.heap m) (hv : m x = some v) (hk : nmOk cs x .local = true) (q : wpAny M A (spliced (backTo pos (starEach rest (envX cn cs L a ccd cl)))) (fun vs s₂ => Q (v :: vs) s₂) E s) :
    wpAny M A (spliced (backTo pos (starEach (.Name x p :: rest) (envX cn cs L a ccd cl)))) Q E s := args_cons (nameL F hv hk q)
theorem storeE {Q : Unit → Shared → Prop} (F : Fr h₀ L h m) (N : News h₀ L h news) (hk : nmOk cs x .local = true)
    (q : ∀ h', let m' : Str → Option Value := fun y => if y = x then some v else m y; Fr h₀ L h' m' → News h₀ L h' news → Q () ⟨h', g, d, t + 1, o⟩) : wpAny M A (storeName (envX cn cs L a ccd cl) x v) Q E ⟨h, g, d, t, o⟩ := storeL F N hk q
theorem tupE {vs : List Value} {Q : Value → Shared → Prop} (F : Fr h₀ L h m) (N : News h₀ L h news) (hz : vs.length ≤ sizeLine)
    (q : ∀ D h', let nw : List (Addr × Obj) := (D, ({ cls := .type "tuple", data := .seq vs.toArray } : Obj)) :: news; Fr h₀ L h' m → News h₀ L h' nw → AllLt D news → Q (.ref D) ⟨h', g, d, t, o⟩) : wpAny M A (newTuple vs) Q E ⟨h, g, d, t, o⟩ := kup_newTuple F N (fun D h' F' N' l => q D h' F' N' (allLt_of l)) hz
theorem listE {vs : List Value} {Q : Value → Shared → Prop} (F : Fr h₀ L h m) (N : News h₀ L h news) (hz : vs.length ≤ sizeLine)
    (q : ∀ D h', let nw : List (Addr × Obj) := (D, listOf vs.toArray 0) :: news; Fr h₀ L h' m → News h₀ L h' nw → AllLt D news → Q (.ref D) ⟨h', g, d, t, o⟩) : wpAny M A (newList vs) Q E ⟨h, g, d, t, o⟩ := newList_K F N (fun D h' F' N' l => q D h' F' N' (allLt_of l)) hz
end
theorem lt8 (p : Nat) : p < p + 8 := Nat.lt_succ_of_le (Nat.le_add_right p 7)
theorem meas_lt {n m k e : Nat} (h : n = m - k) (h1 : k < m) (h2 : k < e) : m - e < n := h ▸ Nat.sub_lt_sub_left h1 h2
theorem toNat_ge {m : Nat} {e : Int} (h : (m : Int) ≤ e) : m ≤ e.toNat := Int.ofNat_le.mp (Int.le_trans h (Int.self_le_toNat e))
theorem cut_size {n k : Nat} {lo hi : Int} (h0 : 0 ≤ lo) (h1 : lo ≤ hi) (h2 : hi ≤ n) (hk : lo + k = hi) : min lo.toNat n - 0 + k + (min n n - hi.toNat) = n := by
  obtain ⟨a, rfl⟩ := Int.eq_ofNat_of_zero_le h0
  obtain ⟨b, rfl⟩ := Int.eq_ofNat_of_zero_le (Int.le_trans h0 h1)
  have ha : a ≤ b := Int.ofNat_le.mp h1
  have hb : b ≤ n := Int.ofNat_le.mp h2
  have e : a + k = b := Int.ofNat.inj hk
  show min a n - 0 + k + (min n n - b) = n
  rw [Nat.min_eq_left (Nat.le_trans ha hb), Nat.min_self, Nat.sub_zero, e, Nat.add_sub_cancel' hb]
theorem room0 {n a r : Nat} (h : n + a < r) : n < r := Nat.lt_of_le_of_lt (Nat.le_add_right n a) h
theorem room1 {n a b r : Nat} (h : n + a < r) (hb : b ≤ a) : n + b < r := Nat.lt_of_le_of_lt (Nat.add_le_add_left hb n) h
theorem room2 {n a b c r : Nat} (h : n + a < r) (hb : b + c ≤ a) : n + b + c < r := Nat.add_assoc n b c ▸ room1 h hb
theorem room3 {n a b c d r : Nat} (h : n + a < r) (hb : b + c + d ≤ a) : n + b + c + d < r := Nat.add_assoc n b c ▸ room2 (b := b + c) h hb
theorem gen_toks {α : Type} {M : Model} {A : Around} {t : Sem α} {Q : α → Shared → Prop} {E : Value → Shared → Prop} {h : Heap} {g : Array GenState} {d : Drawn} {T : Nat} {o : OsState} (k : ∀ tk, wpAny M A t Q E ⟨h, g, d, tk, o⟩) : wpAny M A t Q E ⟨h, g, d, T, o⟩ := k T
theorem sliceE {prog : Program} {w : World} {A : Around} {E : Value → Shared → Prop} {Q : Value → Shared → Prop} {h₀ h : Heap} {gs : Array GenState} {d : Drawn} {t : Nat} {o : OsState} {L l : Addr} {m : Str → Option Value} {news : List (Addr × Obj)} {vs : List Value} {ns ms : List Int} {c : Nat} {lo hi : Option Int} {vl vu : Value} {value slice : Expr}
    (F : Fr h₀ L h m) (N : News h₀ L h news) (hl : h.IsList l vs.toArray) (pl : IsPart vl lo) (pu : IsPart vu hi) (hi' : IntsAre vs ns) (hm : IntsAre (slicePick vs.toArray lo hi none).toList ms) (hc : ms.length = c)
    (q : ∀ D ws h', Fr h₀ L h' m → News h₀ L h' ((D, listOf (List.toArray ws) 0) :: news) → (∀ p ∈ news, p.1 < D) → IntsAre ws ms → ms.length = c → ms.length ≤ ns.length → Q (.ref D) ⟨h', gs, d, t, o⟩)
    (hs : subscripted slice false (.ref l) (.ref h.objs.size) = operate [.ref h.objs.size, .ref l] (getItem (.ref l) (.ref h.objs.size))) (ht : ∀ r, letTemporaryGo value (.ref l) r = pure ()) (hz : vs.toArray.size ≤ sizeLine) :
    wpAny (model prog w) A (subscriptTail value slice (.ref l) (.ref h.objs.size)) Q E ⟨h.push { cls := .type "slice", data := .fields #[vl, vu, .none] }, gs, d, t, o⟩ := kmk_slice_ints (s := ⟨h, gs, d, t, o⟩) F N hl pl pu hi' hm hc q hs ht hz
end
section
open Sem (wp)
noncomputable def holdsDec : Code → Bool
  | .builtin id _ => Builtin.Bytes.decodersThatHold.contains id
  | _ => false
noncomputable def Clear (Γ : PySem.Ctx) : Prop := holdsDec Γ.code = false ∧ ∀ q ∈ Γ.below, holdsDec q.1 = false
theorem Clear.enter {Γ : PySem.Ctx} (h : Clear Γ) {c : Code} (hc : holdsDec c = false) (hd : Option Value) (p : Pos) : Clear (Γ.enter c hd p) :=
  ⟨hc, fun q hq => by rcases List.mem_cons.mp hq with rfl | hq; exact h.1; exact h.2 q hq⟩
theorem Clear.goto {Γ : PySem.Ctx} (h : Clear Γ) {c : Code} (hc : holdsDec c = false) : Clear (Γ.goto c) := ⟨hc, h.2⟩
noncomputable def wpN {α : Type} (M : Model) (A : Around) (t : Sem α) (Q : α → Shared → Prop) (E : Value → Shared → Prop) (s : Shared) : Prop :=
  ∀ Γ p, Γ.In A → Clear Γ → wp M Γ t (fun a _ s' => Q a s') (fun e _ s' => E e s') p s
noncomputable def codeN (M : Model) (A : Around) (c : Code) (R : Result → Shared → Prop) (s : Shared) : Prop :=
  ∀ Γ p, Γ.code = c → Γ.Below A → Clear Γ → wpCode M Γ R p s
section
variable {α β : Type} {M : Model} {A : Around} {E : Value → Shared → Prop} {s : Shared}
theorem wpN_any {t : Sem α} {Q : α → Shared → Prop} (h : wpAny M A t Q E s) : wpN M A t Q E s := fun Γ p hΓ _ => h Γ p hΓ
theorem codeN_any {c : Code} {R : Result → Shared → Prop} (h : codeAny M A c R s) : codeN M A c R s := fun Γ p hc hΓ _ => h Γ p hc hΓ
theorem wpN_mono {t : Sem α} {Q Q' : α → Shared → Prop} {E' : Value → Shared → Prop} (h : wpN M A t Q E s)
    (hQ : ∀ a s, Q a s → Q' a s) (hE : ∀ e s, E e s → E' e s) : wpN M A t Q' E' s :=
  fun Γ p hΓ hk => Sem.wp_mono M Γ t (fun a _ s => hQ a s) (fun e _ s => hE e s) p s (h Γ p hΓ hk)
theorem wpN_bind {m : Sem α} {f : α → Sem β} {Q : β → Shared → Prop} (h : wpN M A m (fun a s' => wpN M A (f a) Q E s') E s) :
    wpN M A (m >>= f) Q E s := fun Γ p hΓ hk => by
  rw [Sem.wp_bind']
  exact Sem.wp_mono M Γ m (fun a p' s' h' => h' Γ p' hΓ hk) (fun _ _ _ h' => h') p s (h Γ p hΓ hk)
theorem wpN_bindA {m : Sem α} {f : α → Sem β} {Q : β → Shared → Prop} (h : wpAny M A m (fun a s' => wpN M A (f a) Q E s') E s) :
    wpN M A (m >>= f) Q E s := wpN_bind (wpN_any h)
theorem wpN_onRaise {m : Sem α} {k : Value → Sem Unit} {Q : α → Shared → Prop}
    (h : wpN M A m Q (fun e s' => wpAny M A (k e) (fun _ s'' => E e s'') E s') s) : wpN M A (m.onRaise k) Q E s := fun Γ p hΓ hk => by
  rw [Sem.wp_onRaise]
  exact Sem.wp_mono M Γ m (fun _ _ _ h' => h') (fun e p' s' h' => h' Γ p' hΓ) p s (h Γ p hΓ hk)
theorem wpN_attempt {m : Sem α} {Q : Except Value α → Shared → Prop} (h : wpN M A m (fun a => Q (.ok a)) (fun e => Q (.error e)) s) :
    wpN M A m.attempt Q E s := fun Γ p hΓ hk => by rw [Sem.wp_attempt]; exact h Γ p hΓ hk
theorem wpN_holding {vs : List Value} {m : Sem α} {Q : α → Shared → Prop} (h : wpN M A m Q E s) : wpN M A (holding vs m) Q E s :=
  fun Γ p hΓ hk => by rw [Sem.wp_holding]; exact h Γ p hΓ hk
theorem wpN_keep {vs : List Value} {m : Sem α} {Q : α → Shared → Prop} (h : wpN M A m Q E s) : wpN M A (m.keep vs) Q E s :=
  fun Γ p hΓ hk => by rw [Sem.wp_keep]; exact h Γ p hΓ hk
theorem wpN_operate {vs : List Value} {m : Sem Value} {Q : Value → Shared → Prop} (h : wpN M A m Q E s) : wpN M A (operate vs m) Q E s := fun Γ p hΓ hk => by
  rw [Sem.wp_operate]; exact h Γ p hΓ hk
theorem wpN_runValue {c : Code} {Q : Value → Shared → Prop} (hd : holdsDec c = false)
    (hc : codeN M A c (fun r s' => match r with | .ok (.ret v) => Q v s' | .ok _ => False | .error e => E e s') s) :
    wpN M A (runValue c) Q E s := fun Γ p hΓ hk => by rw [Sem.wp_runValue]; exact hc _ p rfl (hΓ.enter c none p (by intro x; cases x)) (hk.enter hd _ _)
theorem wpN_call {f : Value} {pos : List Value} {kw : List (Str × Value)} {Q : Value → Shared → Prop}
    (hc : codeN M A (.call f ⟨pos, kw⟩) (fun r s' => match r with | .ok (.ret v) => Q v s' | .ok _ => False | .error e => E e s') s) :
    wpN M A (call f pos kw) Q E s := wpN_runValue rfl hc
theorem wpN_run {c : Code} {h : Option Value} {Q : Flow → Shared → Prop} (hd : holdsDec c = false)
    (hc : codeN M (A.mark h) c (fun r s' => match r with | .ok f => Q f s' | .error e => E e s') s) (hnb : h ≠ some byPass) :
    wpN M A (run c h) Q E s :=
  fun Γ p hΓ hk => by rw [Sem.wp_run]; exact hc _ p rfl (hΓ.enter c h p hnb) (hk.enter hd _ _)
theorem codeN_mono {c : Code} {R R' : Result → Shared → Prop} (h : codeN M A c R s) (hR : ∀ r s, R r s → R' r s) : codeN M A c R' s :=
  fun Γ p hc hΓ hk => wpCode_mono hR (h Γ p hc hΓ hk)
theorem codeN_of_tree {c : Code} {R : Result → Shared → Prop}
    (h : wpN M (A.under c) (M.den c) (fun fin s' => match fin with | .done f => R (.ok f) s' | .again c' => c'.quiet = true ∧ holdsDec c' = false ∧ codeN M A c' R s')
      (fun e s' => R (.error e) s') s) : codeN M A c R s := fun Γ p hc hΓ hk => by
  rw [wpCode_iff_wp, hc]
  refine Sem.wp_mono M Γ _ (fun fin p' s' h' => ?_) (fun _ _ _ h' => h') p s (h Γ p (hc ▸ hΓ.in) hk)
  cases fin with
  | done f => exact h'
  | again c' => exact ⟨h'.1, h'.2.2 (Γ.goto c') p' rfl (hΓ.goto c') (hk.goto h'.2.1)⟩
end
section
variable {prog : Program} {w : World} {A : Around} {E : Value → Shared → Prop} {s : Shared} {R : Result → Shared → Prop}
theorem codeN_builtin {id : String} {args : Args} {b : Builtin} (hb : entryFor table id = some b)
    (h : wpN (model prog w) (A.under (.builtin id args)) (b args)
      (fun fin s' => match fin with | .done f => R (.ok f) s' | .again c' => c'.quiet = true ∧ holdsDec c' = false ∧ codeN (model prog w) A c' R s') (fun e s' => R (.error e) s') s) :
    codeN (model prog w) A (.builtin id args) R s := by
  refine codeN_of_tree ?_
  show wpN _ _ (match entryFor table id with | some b => b args | none => unsupported ((withoutEnding? id "#data").getD id)) _ _ s
  rw [hb]; exact h
theorem codeN_func {body : List Stmt} {env : Env}
    (h : wpN (model prog w) (A.deeper env) (execs body env) (fun f s' => R (.ok (.ret (match f with | .ret v => v | _ => .none))) s')
      (fun e s' => wpAny (model prog w) (A.deeper env) (leaving env e) (fun _ s'' => R (.error e) s'') (fun e' s'' => R (.error e') s'') s') s) :
    codeN (model prog w) A (.func body env) R s := by
  refine codeN_of_tree ?_
  show wpN _ (A.deeper env) (do point; match ← (execs body env).onRaise (leaving env) with | .ret v => ret v | _ => ret .none) _ _ s
  refine wpN_bindA (wpAny_point (wpN_bind (wpN_onRaise (wpN_mono h (fun f s' h' => ?_) fun _ _ h' => h'))))
  cases f <;> exact wpN_any (wpAny_pure h')
theorem codeN_call_function {a : Addr} {args : Args} {o : Obj} {fd : FuncData} {body : List Stmt} (hroom : A.depth < recursionLimit)
    (ho : s.heap.get? a = some o)
    (hd' : o.data = .func fd) (hco : fd.scope.isCoroutine = false) (hgen : fd.scope.isGenerator = false) (hbody : fd.body = .stmts body) (hcd : s.heap.CodeRec fd.code fd.qualname)
    (h : wpAny (model prog w) A.in1 (bindArgs fd args) (fun binds s₁ =>
      wpAny (model prog w) A.in1 (newFunctionEnv fd.scope fd.globals fd.closure binds (fd.qualname ++ ".<locals>.") (some a) fd.code none fd.builtins)
        (fun env s₂ => s₂.heap.NoLimit ∧ codeN (model prog w) A (.func body env) R s₂) (fun e s' => R (.error e) s') s₁) (fun e s' => R (.error e) s') s) :
    codeN (model prog w) A (.call (.ref a) args) R s := by
  refine codeN_of_tree (wpN_any ?_)
  show wpAny _ A.in1 (callAny (.ref a) args) _ _ s
  simp only [callAny]
  refine wpAny_bind (wpAny_load ho ?_)
  refine cps fun gG kG => ?_
  obtain ⟨c, oc, vs, tq, hc, hoc, hdc, hq⟩ := hcd
  refine kG ?_
  clear kG gG
  simp only [hd', callFunction, hco, hgen, hbody, hc]
  rw [hc] at h
  refine wpAny_bind (m := field (.ref c) 1) (wpAny_field hoc hdc hq (wpAny_bind (wpAny_pure ?_)))
  exact wpAny_bind (wpAny_mono h (fun binds s₁ h₁ => wpAny_bind (wpAny_mono h₁ (fun env s₂ h₂ => wpAny_bind (wpAny_enterFrame h₂.1 hroom
    (wpAny_pure ⟨rfl, rfl, h₂.2⟩))) fun _ _ h' => h')) fun _ _ h' => h')
end
end
section
open Sem (wp)
theorem caller_clear : Clear (⟨.builtin "claim.caller" {}, none, none, [], none⟩ : PySem.Ctx) := ⟨by rw [holdsDec]; decide +kernel, fun q hq => nomatch hq⟩
theorem callerDone {M : Model} {t : Sem Fin} {R : Result → Shared → Prop} {s : Shared}
    (h : wpN M callerA t (fun fin s' => ∃ f, fin = .done f ∧ R (.ok f) s') (fun e s' => R (.error e) s') s) (p : Pos) :
    wp M ⟨.builtin "claim.caller" {}, none, none, [], none⟩ t (Sem.finPost M ⟨.builtin "claim.caller" {}, none, none, [], none⟩ R) (fun e _ s' => R (.error e) s') p s :=
  Sem.wp_mono M _ t (fun fin p' s' h' => by obtain ⟨f, rfl, hf⟩ := h'; exact hf) (fun _ _ _ h' => h') p s (h _ p caller_in caller_clear)
/-- The promise of an open row from a walk of its call on a clear stack. -/
theorem promise_of {c : ClaimW} {tree : List Value → Sem Fin} {w : World} {s : Shared} {free : Addr → Prop} {gens : Prop} {kept : Heap → Prop} (hz : s.asleep) (hgens : s.gens = #[])
    (spec : ∀ args, c.pre args = true → WData.layableAll args = true → ∀ ord : List DictEntry → List DictEntry, (∀ l, (ord l).Perm l) → ∃ vs s₁, layAllW c.records (classAt s.heap) w.params ord args s = some (vs, s₁) ∧
        wpN (model c.prog w) callerA (tree vs) (fun fin s' => ∃ f, fin = .done f ∧ (c.Ends s args vs s₁ (.ok f) s' ∧ s'.os = s.os ∧ AllBare s'.gens ∧ kept s'.heap))
          (fun e s' => c.Ends s args vs s₁ (.error e) s' ∧ s'.os = s.os ∧ AllBare s'.gens ∧ kept s'.heap) s₁) :
    c.CallFrom (fun vs => ⟨tree vs, .builtin "claim.caller" {}, default, []⟩) w free gens kept s := by
  intro args hpre hlay ord hord
  refine cps fun gG kG => ?_
  obtain ⟨vs, s₁, hlaid, hcode⟩ := spec args hpre hlay ord hord
  have rest := layAllW_rest _ _ _ hlaid
  have hcode' : wpN (model c.prog w) callerA (tree vs) (fun fin s' => ∃ f, fin = .done f ∧ ((c.Ends s args vs s₁ (.ok f) s' ∧ s'.os = s.os ∧ kept s'.heap) ∧ leftWithCleanup s'.gens = false))
      (fun e s' => (c.Ends s args vs s₁ (.error e) s' ∧ s'.os = s.os ∧ kept s'.heap) ∧ leftWithCleanup s'.gens = false) s₁ :=
    wpN_mono hcode (fun fin s' ⟨f, e, a1, a2, a3, a4⟩ => ⟨f, e, ⟨a1, a2, a4⟩, leftWithCleanup_false_of_bare a3⟩) fun e s' ⟨a1, a2, a3, a4⟩ => ⟨⟨a1, a2, a4⟩, leftWithCleanup_false_of_bare a3⟩
  obtain ⟨n, r, s2, s3, hs, hn, hfo, he, hos, hkp⟩ := wp_halts_full (M := model c.prog w) (R := fun r s' => c.Ends s args vs s₁ r s' ∧ s'.os = s.os ∧ kept s'.heap) (Shared.asleep_of_life rest.2.2.2 hz) (callerDone (R := fun r s' => (c.Ends s args vs s₁ r s' ∧ s'.os = s.os ∧ kept s'.heap) ∧ leftWithCleanup s'.gens = false) hcode' default)
  obtain ⟨eh, _, _, eo, _⟩ := Shared.forget_eq hfo
  refine kG ?_
  clear kG gG
  replace he := he.congr eh
  rw [← eh] at hkp
  rw [← eo] at hos
  have hlife : s3.heap.life = s.heap.life := (runN_life _ _ _ hn).trans rest.2.2.2
  refine ⟨vs, s₁, hlaid, n, _, s3, hs, ?_, (fun _ i x hx => by rw [hgens] at hx; simp at hx), hkp, by rw [hlife], Shared.rest_eq hos⟩
  rcases he with ⟨v, rfl, d1, d2, d3, d4, d5⟩ | ⟨e, ob, cls, rfl, d1, d2, d3, d4, d5⟩
  · exact .inl ⟨v, rfl, d1, d2, d3, fun b o y _ => d4 b o y, d5⟩
  · exact .inr ⟨e, ob, cls, rfl, d1, d2, d3, d4, fun b o y _ => d5 b o y⟩
theorem law_open {r : OpenRow} {q : Program} {loose : List Str} {Xt : Shared → Bool} {XP : (Str → Option Value) → Heap → Prop} {α : Type} {Yf : Shared → α} {Ya : World → α} {YP : World → Heap → Prop} {d : DefRec} {kwd : List (Str × Expr)} {N : Nat}
    (left : LeftO r.prog q loose Xt Yf Ya N) (hY : ∀ w s, Yf s = Ya w → YP w s.heap) (hYk : ∀ w h h', YP w h → (∀ b o, h.get? b = some o → h'.get? b = some o) → YP w h')
    (hX : ∀ s, Xt s = true → XP (s.heap.nsMap mainGlobals) s.heap) (hXk : ∀ mg h h', XP mg h → (∀ b o, h.get? b = some o → h'.get? b = some o) → XP mg h')
    (hdef : defOf q r.name = some (d, kwd)) (hp : r.prog.theDef r.name = some (d.params, d.body, d.scope)) (hk : kwWritten? d.params.kwonlyargs d.params.kw_defaults = some kwd) (hRf : ∀ s, Xt s = true → RecFacts r.records s.heap) (hwr : (!r.writes || r.records.isEmpty) = true)
    (k1 : r.wellSaid = true) (ok : (chainsOk q && opensWell r.prog && (frees r.toRowW && r.within.isEmpty)) = true) (hb : r.prog.bare) (hw : r.toRowW.promised)
    (call : ∀ (w : World) (s₀ s₁ : Shared) (mg mb : Str → Option Value), Ground q loose r.toRowW.records XP w s₀ mg mb s₁.heap → YP w s₁.heap → ∀ (a : Addr) (o : Obj) (pm cd doc dV kV : Value), s₁.heap.get? a = some o →
      o.data = .func { docDef d.name d.params d.body d.scope pm cd doc with defaults := dV, kwdefaults := kV } → s₁.heap.CodeRec cd d.name → Dflts mg s₁.heap d.params kwd dV kV → mg d.name = some (.ref a) → s₁.gens = #[] →
      ∀ (args : List WData) (vals : List Value) (as : List Addr), r.toRowW.claim.pre args = true → WData.layableAll args = true → ReadsAllW r.toRowW.records (classAt s₀.heap) s₁.heap vals args as → WellAll w.params s₁.heap vals args → (∀ a ∈ as, (a == sysModules) = false) →
        wpN (model r.toRowW.prog w) callerA (PySem.call (.ref a) vals) (fun v s' => GoodWG r.toRowW.claim (classAt s₀.heap) (ExcName.means s₀.heap) args s₁ (.ok (.ret v)) s')
          (fun e s' => GoodWG r.toRowW.claim (classAt s₀.heap) (ExcName.means s₀.heap) args s₁ (.error e) s') s₁) : r.Holds := by
  refine cps fun gG kG => ?_
  obtain ⟨ok, k5⟩ := Bool.and_eq_true_iff.mp ok
  obtain ⟨hch, o1⟩ := Bool.and_eq_true_iff.mp ok
  obtain ⟨k5, k6⟩ := Bool.and_eq_true_iff.mp k5
  obtain ⟨hsame, hu, ha, hap, hm⟩ := frees_parts k5
  refine kG ?_
  clear kG gG
  refine ⟨k1, hw, ⟨hb, o1, by show r.toRowW.makers.map _ = []; rw [hm]; rfl⟩, hw.witness, fun w => ⟨(left.behind hX hch w).1, fun s' hs' => ?_⟩⟩
  refine cps fun gG kG => ?_
  obtain ⟨s₀, hf, hg0, s, hT, hz, hgens, hg, G1, y⟩ := (left.behind (XP := fun mg h => XP mg h ∧ RecFacts r.toRowW.records h) (fun s hs => ⟨hX s hs, hRf s hs⟩) hch w).2 s' hs'
  refine kG ?_
  clear kG gG
  have RF := G1.X.2
  have G0 : Ground q loose [] XP w s (s.heap.nsMap mainGlobals) (s.heap.nsMap builtinsNs) s.heap := ⟨G1.T, G1.B, G1.D, G1.TE, G1.TD, G1.W, G1.X.1, G1.cls, G1.has, G1.apart, G1.once, G1.K⟩
  refine ⟨s₀, hf, hg0, s, hT, fun n hn => ?pin, RF.1, RF.2.1, ?_⟩
  case pin =>
    refine cps fun gG kG => ?_
    obtain rfl : n = r.name := by split at hn <;> simp_all
    refine kG ?_
    clear kG gG
    exact pinned_of_view hg G0 hdef hp hk
  have hge : s.gens = #[] := Array.eq_empty_of_size_eq_zero (beq_iff_eq.mp hgens)
  have G : Ground q loose r.toRowW.records XP w s _ _ s.heap := RF.ground G0
  refine promise_of (c := r.toRowW.claim) (tree := fun vs => do match ← nsGet mainNs r.name with
      | some f => do ret (← PySem.call f vs)
      | none => unsupported "claim.caller:no-such-global") hz hge fun args hpre hlay ord hord => ?_
  refine cps fun gG kG => ?_
  obtain ⟨⟨vs, s₁⟩, hlaid⟩ := Option.isSome_iff_exists.mp (layAllW_isSome (P := w.params) (ord := ord) G.has args r.toRowW.args s (pre_splitW hpre).1)
  have keeps := layAllW_keeps _ _ _ hlaid
  have rest := layAllW_rest _ _ _ hlaid
  obtain ⟨as, hrd, hin, hold⟩ := reads_layAllW hord _ _ _ hlaid hlay s₁.heap (fun _ _ e => e)
  have L : Laid r.toRowW.records w s s₁ args vs as := ⟨⟨ord, hord, hlaid⟩, hrd, hin, hold, keeps, rest.1.trans hge, rest.2.2.1⟩
  have G₁ := G.keeps hXk keeps
  obtain ⟨a, o, pm, cd, doc, dV, kV, h1, h2, h3, h4, h5⟩ := G₁.fn hdef
  refine kG ?_
  clear kG gG
  have z := call w s s₁ _ _ G₁ (hYk _ _ _ (hY w s y) keeps) a o pm cd doc dV kV h2 h3 h4 h5 (defOf_name hdef ▸ h1) L.gens args vs as hpre hlay L.reads L.well (L.low G.low)
  have hi := ident_freeW hu ha hap
  have hwi : r.toRowW.claim.within = [] := List.isEmpty_iff.mp k6
  refine ⟨vs, s₁, hlaid, wpN_bindA (wpAny_nsGet G₁.T.g ?_)⟩
  rw [h1]
  refine wpN_bind (wpN_mono z (fun v s' g => wpN_any (wpAny_pure ⟨_, rfl, ?_⟩)) fun e s' g => ?_)
  · have k := g.laid (c := r.toRowW.claim) hsame hwi hi L
    exact ⟨k.1, k.2.1, k.2.2, fun q => ⟨namesKept_of hT hg r.keeps keeps g.2.1.old, noTable hwr q⟩⟩
  · have k := g.laid (c := r.toRowW.claim) hsame hwi hi L
    exact ⟨k.1, k.2.1, k.2.2, fun q => ⟨namesKept_of hT hg r.keeps keeps g.2.1.old, noTable hwr q⟩⟩
end
section
theorem bb_dunder : typeLookup (.type "bytes") "__bytes__" = pure (some (.builtin "bytes.__bytes__")) := by rw [typeLookup_type, builtinLookup_eq_fast]; kernel_rfl
section
variable {prog : Program} {w : World} {A : Around} {E : Value → Shared → Prop} {s : Shared} {h₀ : Heap} {L : Addr} {m : Str → Option Value} {news : List (Addr × Obj)} {Q : Value → Shared → Prop}
theorem bytes_of_bytes {b : Array UInt8} {t : Tok} (h : Q (.bytes b t) s) : wpAny (model prog w) A (call (.type "bytes") [.bytes b t]) Q E s := by
  refine callType_codes (Q₁ := fun obj s₁ => s₁.TypeIs obj "bytes" ∧ Q obj s₁) F.bm_called (F.bm_typeCall _) F.entry_object_init ?_ fun obj s₁ h₁ =>
    ⟨h₁.1, F.args_object_init_2 obj _, object_init_meets F.bm_called.init.lookup F.bm_called.made (by decide) prog w A.in1 _ s₁ ⟨h₁.1, rfl, h₁.2⟩⟩
  refine codeAny_of_tree ?_
  show wpAny _ A.in1.in1 (do checkBuiltinCall "bytes.__new__" ⟨[.type "bytes", .bytes b t], []⟩; again (.builtin "bytes.__new__" ⟨[.type "bytes", .bytes b t], []⟩)) _ _ s
  refine wpAny_bind (wpAny_of_eq (F.bm_newCall _) (wpAny_pure ⟨plainId_quiet F.bm_plain _, codeAny_builtin F.bm_entry ?_⟩))
  rw [Around.under_plainId F.bm_plain _]
  have hT : s.TypeIs (.bytes b t) "bytes" := PySem.W.typeIs_bytes _ _ _
  unfold Builtin.«bytes.__new__»
  refine wpAny_bind (wpAny_of_eq (a := true) rfl ?_)
  refine bm_if_false rfl ?_
  refine wpAny_bind (wpAny_of_eq F.bm_sub ?_)
  refine bm_if_false rfl ?_
  refine wpAny_bind (wpAny_of_eq (F.bm_bind _) ?_)
  refine wpAny_bind (wpAny_of_eq (a := ()) rfl ?_)
  refine wpAny_bind (wpAny_of_eq (a := ()) rfl ?_)
  refine bm_if_false rfl ?_
  refine wpAny_bind (wpAny_specialOf hT bb_dunder ?_)
  refine wpAny_bind (wpAny_rule (wpAny_bind (wpAny_of_eq (a := .type "bytes") rfl ?_)))
  exact bm_if_true rfl (wpAny_pure ⟨hT, h⟩)
end
noncomputable abbrev rdDict (h1 h2 h3 : Int) (tk1 tk2 tk3 : Tok) (bs : Array UInt8) (p q : Int) (tb tp tq : Tok) : Obj :=
  dictOf [⟨h1, .str (Str.ofString "octets") tk1, .bytes bs tb⟩, ⟨h2, .str (Str.ofString "at") tk2, .int p tp⟩, ⟨h3, .str (Str.ofString "end") tk3, .int q tq⟩] 3
theorem clip_in {n : Nat} {a : Int} (h0 : 0 ≤ a) (h1 : a ≤ n) : clipAt n a = a.toNat := by
  obtain ⟨k, rfl⟩ := Int.eq_ofNat_of_zero_le h0
  rw [clipAt_nat]
  simp only [Int.toNat_natCast]
  lia
theorem ne_mem {l : List (Addr × Obj)} {e : Addr} (h : ∀ p ∈ l, p.1 ≠ e) {p : Addr × Obj} (hp : p ∈ l) : p.1 ≠ e := h p hp
theorem tl_ne1 {a : Addr × Obj} {tl : List (Addr × Obj)} {e : Addr} (h : ∀ p ∈ a :: tl, p.1 ≠ e) : ∀ p ∈ tl, p.1 ≠ e := fun p hp => h p (.tail _ hp)
theorem tl_ne2 {a b : Addr × Obj} {tl : List (Addr × Obj)} {e : Addr} (h : ∀ p ∈ a :: b :: tl, p.1 ≠ e) : ∀ p ∈ tl, p.1 ≠ e := tl_ne1 (tl_ne1 h)

section
variable {h₀ h : Heap} {L d : Addr} {o o' : Obj} {pre post news : List (Addr × Obj)}
theorem news_front (N : News h₀ L h (pre ++ (d, o) :: post)) : News h₀ L h ((d, o) :: (pre ++ post)) := fun p hp => N p <| by
  rcases List.mem_cons.mp hp with rfl | hp
  · exact List.mem_append.mpr (.inr (.head _))
  · exact (List.mem_append.mp hp).elim (fun q => List.mem_append.mpr (.inl q)) fun q => List.mem_append.mpr (.inr (.tail _ q))
theorem news_back (N : News h₀ L h ((d, o) :: (pre ++ post))) : News h₀ L h (pre ++ (d, o) :: post) := fun p hp => N p <| by
  rcases List.mem_append.mp hp with hp | hp
  · exact .tail _ (List.mem_append.mpr (.inl hp))
  · rcases List.mem_cons.mp hp with rfl | hp
    · exact .head _
    · exact .tail _ (List.mem_append.mpr (.inr hp))
theorem off_front (h1 : ∀ p ∈ pre, p.1 ≠ d) (h2 : ∀ p ∈ post, p.1 ≠ d) : ∀ p ∈ pre ++ post, p.1 ≠ d := fun p hp => (List.mem_append.mp hp).elim (h1 p) (h2 p)
theorem mem_front {x : Addr} {ox : Obj} (hm : (x, ox) ∈ pre ++ (d, o) :: post) (hx : @Ne Nat x d) : (x, ox) ∈ pre ++ post := by
  rcases List.mem_append.mp hm with hm | hm
  · exact List.mem_append.mpr (.inl hm)
  · rcases List.mem_cons.mp hm with e | hm
    · exact absurd (congrArg Prod.fst e) hx
    · exact List.mem_append.mpr (.inr hm)
noncomputable abbrev butFor (d : Addr) (news : List (Addr × Obj)) : List (Addr × Obj) := news.filter fun p => decide (p.1 ≠ d)
theorem raised_sub {base : Heap} {l : List Env} {e : Addr} {cls : Value} {keep keep' : List (Addr × Obj)} (R : RaisedN base l e cls keep h) (hs : ∀ p ∈ keep', p ∈ keep) : RaisedN base l e cls keep' h := by
  obtain ⟨B, a0, hB, hl, hfl⟩ := R
  exact ⟨B, a0, hB, fun q hq => hl q (hs q hq), hfl⟩
theorem butFor_front {p : Addr × Obj} (hp : p ∈ butFor d (pre ++ (d, o) :: post)) : p ∈ pre ++ post := by
  obtain ⟨h1, h2⟩ := List.mem_filter.mp hp
  have h2 : p.1 ≠ d := of_decide_eq_true h2
  rcases List.mem_append.mp h1 with h1 | h1
  · exact List.mem_append.mpr (.inl h1)
  · rcases List.mem_cons.mp h1 with e | h1
    · exact absurd (congrArg Prod.fst e) h2
    · exact List.mem_append.mpr (.inr h1)
theorem raised_back {base : Heap} {l : List Env} {e : Addr} {cls : Value} {led : List (Addr × Obj)} (R : RaisedN base l e cls (butFor d led) h) (h1 : ∀ p ∈ pre, p.1 ≠ d) (h2 : ∀ p ∈ post, p.1 ≠ d) (hs : ∀ p ∈ pre ++ post, p ∈ led) :
    RaisedN base l e cls (butFor d (pre ++ (d, o) :: post)) h :=
  raised_sub R fun p hp => List.mem_filter.mpr ⟨hs p (butFor_front hp), (List.mem_filter.mp hp).2⟩
end

theorem four_of {ns : List Int} {p : Nat} (h : p + 4 ≤ ns.length) : (ns.drop p).take 4 = [ns.getD p 0, ns.getD (p + 1) 0, ns.getD (p + 2) 0, ns.getD (p + 3) 0] := by
  apply List.ext_getElem
  · simp only [List.length_take, List.length_drop, List.length_cons, List.length_nil]; lia
  · intro i h1 h2
    simp only [List.length_cons, List.length_nil] at h2
    have : i = 0 ∨ i = 1 ∨ i = 2 ∨ i = 3 := by lia
    rcases this with rfl | rfl | rfl | rfl <;> simp [List.getD] <;> rw [List.getElem?_eq_getElem (by lia)] <;> simp
theorem two_of {ns : List Int} {p : Nat} (h : p + 2 ≤ ns.length) : (ns.drop p).take 2 = [ns.getD p 0, ns.getD (p + 1) 0] := by
  apply List.ext_getElem
  · simp only [List.length_take, List.length_drop, List.length_cons, List.length_nil]; lia
  · intro i h1 h2
    simp only [List.length_cons, List.length_nil] at h2
    have : i = 0 ∨ i = 1 := by lia
    rcases this with rfl | rfl <;> simp [List.getD] <;> rw [List.getElem?_eq_getElem (by lia)] <;> simp
theorem one_of {ns : List Int} {p : Nat} (h : p + 1 ≤ ns.length) : (ns.drop p).take 1 = [ns.getD p 0] := by
  apply List.ext_getElem
  · simp only [List.length_take, List.length_drop, List.length_cons, List.length_nil]; lia
  · intro i h1 h2
    simp only [List.length_cons, List.length_nil] at h2
    have : i = 0 := by lia
    subst this
    simp [List.getD]; rw [List.getElem?_eq_getElem (by lia)]; simp
theorem le_word4 {ns : List Int} {p : Nat} (h : p + 4 ≤ ns.length) : KFB.value ((ns.drop p).take 4).reverse = wordOf ns p 4 := by
  rw [four_of h]
  simp only [KFB.value, wordOf, List.reverse_cons, List.reverse_nil, List.nil_append, List.cons_append, List.foldl_cons, List.foldl_nil, Nat.add_zero]
  lia
theorem le_word2 {ns : List Int} {p : Nat} (h : p + 2 ≤ ns.length) : KFB.value ((ns.drop p).take 2).reverse = wordOf ns p 2 := by
  rw [two_of h]
  simp only [KFB.value, wordOf, List.reverse_cons, List.reverse_nil, List.nil_append, List.cons_append, List.foldl_cons, List.foldl_nil, Nat.add_zero]
  lia
end
section
noncomputable abbrev Row := Int × Int × Int
noncomputable def rowDat (r : Row) : Dat := .tuple [.int r.1, .int r.2.1, .int r.2.2]
theorem getD_nonneg {ns : List Int} (h : ∀ y ∈ ns, 0 ≤ y ∧ y < 256) (i : Nat) : 0 ≤ ns.getD i 0 ∧ ns.getD i 0 < 256 := by
  by_cases hi : i < ns.length
  · have e : ns.getD i 0 = ns[i] := by simp [List.getD, hi]
    rw [e]
    exact h _ (List.getElem_mem hi)
  · have e : ns.getD i 0 = 0 := by simp [List.getD, List.getElem?_eq_none (Nat.le_of_not_lt hi)]
    rw [e]; lia
theorem word4_bnd {ns : List Int} (h : ∀ y ∈ ns, 0 ≤ y ∧ y < 256) (a : Nat) : 0 ≤ wordOf ns a 4 ∧ wordOf ns a 4 < 4294967296 := by
  have h0 := getD_nonneg h (a + 0)
  have h1 := getD_nonneg h (a + 1)
  have h2 := getD_nonneg h (a + 2)
  have h3 := getD_nonneg h (a + 3)
  simp only [wordOf]
  lia
theorem word2_bnd {ns : List Int} (h : ∀ y ∈ ns, 0 ≤ y ∧ y < 256) (a : Nat) : 0 ≤ wordOf ns a 2 ∧ wordOf ns a 2 < 65536 := by
  have h0 := getD_nonneg h (a + 0)
  have h1 := getD_nonneg h (a + 1)
  simp only [wordOf]
  lia
noncomputable def readRows (ns : List Int) (e : Nat) (u : Int) (p : Nat) : Option (List Row) :=
  if p + 8 ≤ e then
    if wordOf ns p 4 = 0 ∧ wordOf ns (p + 4) 4 = 0 then (if p + 8 = e then some [] else none)
    else (readRows ns e u (p + 8)).map ((wordOf ns p 4, wordOf ns (p + 4) 4, u) :: ·)
  else none
termination_by e - p
decreasing_by exact Nat.sub_lt_sub_left (Nat.lt_of_lt_of_le (lt8 _) (by assumption)) (lt8 _)
noncomputable def readSet (ns : List Int) (st : Nat) : Option (List Row × Nat) :=
  if st + 16 ≤ ns.length then
    if st + 4 + (wordOf ns st 4).toNat ≤ ns.length ∧ wordOf ns (st + 4) 2 = 2 ∧ ns.getD (st + 10) 0 = 4 ∧ ns.getD (st + 11) 0 = 0 then
      (readRows ns (st + 4 + (wordOf ns st 4).toNat) (wordOf ns (st + 6) 4) (st + 16)).map (·, st + 4 + (wordOf ns st 4).toNat)
    else none
  else none
theorem readRows_short {ns : List Int} {e : Nat} {u : Int} {p : Nat} (h : ¬ p + 8 ≤ e) : readRows ns e u p = none := by
  unfold readRows; rw [if_neg h]
theorem readRows_stop {ns : List Int} {e : Nat} {u : Int} {p : Nat} (h : p + 8 ≤ e) (h0 : wordOf ns p 4 = 0) (h1 : wordOf ns (p + 4) 4 = 0) : readRows ns e u p = if p + 8 = e then some [] else none := by
  unfold readRows; rw [if_pos h, if_pos ⟨h0, h1⟩]
theorem readRows_more {ns : List Int} {e : Nat} {u : Int} {p : Nat} (h : p + 8 ≤ e) (h0 : ¬ (wordOf ns p 4 = 0 ∧ wordOf ns (p + 4) 4 = 0)) : readRows ns e u p = (readRows ns e u (p + 8)).map ((wordOf ns p 4, wordOf ns (p + 4) 4, u) :: ·) := by
  conv => lhs; unfold readRows
  rw [if_pos h, if_neg h0]
theorem readSet_short {ns : List Int} {st : Nat} (h : ¬ st + 4 + (wordOf ns st 4).toNat ≤ ns.length ∨ ¬ st + 24 ≤ st + 4 + (wordOf ns st 4).toNat ∨ wordOf ns (st + 4) 2 ≠ 2 ∨ ns.getD (st + 10) 0 ≠ 4 ∨ ns.getD (st + 11) 0 ≠ 0) : readSet ns st = none := by
  unfold readSet
  split
  · split
    · rename_i h1 h2
      rw [readRows_short (by lia)]; rfl
    · rfl
  · rfl
theorem readSet_len {ns : List Int} {st : Nat} (h : ¬ st + 4 ≤ ns.length) : readSet ns st = none := by
  unfold readSet
  rw [if_neg (by lia)]
theorem readSet_rows {ns : List Int} {st : Nat} (h1 : st + 4 + (wordOf ns st 4).toNat ≤ ns.length) (h2 : st + 16 ≤ st + 4 + (wordOf ns st 4).toNat) (h3 : wordOf ns (st + 4) 2 = 2) (h4 : ns.getD (st + 10) 0 = 4) (h5 : ns.getD (st + 11) 0 = 0) :
    readSet ns st = (readRows ns (st + 4 + (wordOf ns st 4).toNat) (wordOf ns (st + 6) 4) (st + 16)).map (·, st + 4 + (wordOf ns st 4).toNat) := by
  unfold readSet
  rw [if_pos (by lia), if_pos ⟨h1, h3, h4, h5⟩]
end
section
noncomputable def Stop (p : Prop) : Prop := p
theorem Stop.out {p : Prop} (h : Stop p) : p := h
theorem raised_tl {base h : Heap} {l : List Env} {e d : Addr} {cls : Value} {led news : List (Addr × Obj)} (R : RaisedN base l e cls (butFor d led) h) (h1 : ∀ p ∈ news, p.1 ≠ d) (hs : ∀ p ∈ news, p ∈ led) : RaisedN base l e cls news h :=
  raised_sub R fun p hp => List.mem_filter.mpr ⟨hs p hp, decide_eq_true (h1 p hp)⟩
theorem readSet_shortI {ns : List Int} {st : Int} (h0 : 0 ≤ st) (w0 : 0 ≤ wordOf ns st.toNat 4)
    (h : ¬ st + 4 + wordOf ns st.toNat 4 ≤ ns.length ∨ ¬ st + 24 ≤ st + 4 + wordOf ns st.toNat 4 ∨ wordOf ns (st + 4).toNat 2 ≠ 2 ∨ ns.getD (st + 4 + 2 + 4).toNat 0 ≠ 4 ∨ ns.getD (st + 4 + 2 + 4 + 1).toNat 0 ≠ 0) : readSet ns st.toNat = none := by
  obtain ⟨n, rfl⟩ := Int.eq_ofNat_of_zero_le h0
  obtain ⟨w, hw⟩ := Int.eq_ofNat_of_zero_le w0
  rw [hw] at h
  have hw' : wordOf ns n 4 = (w : Int) := hw
  refine readSet_short (st := n) ?_
  rw [hw']
  exact h.imp (fun hx hc => hx (Int.ofNat_le.mpr hc)) (Or.imp (fun hx hc => hx (Int.ofNat_le.mpr hc)) id)
theorem readSet_loop {ns : List Int} {st : Int} {rows : List Row} {q : Nat} (h0 : 0 ≤ st) (w0 : 0 ≤ wordOf ns st.toNat 4)
    (h1 : st + 4 + wordOf ns st.toNat 4 ≤ ns.length) (h2 : st + 24 ≤ st + 4 + wordOf ns st.toNat 4) (h3 : wordOf ns (st + 4).toNat 2 = 2) (h4 : ns.getD (st + 4 + 2 + 4).toNat 0 = 4) (h5 : ns.getD (st + 4 + 2 + 4 + 1).toNat 0 = 0)
    (hr : readRows ns (st + 4 + wordOf ns st.toNat 4).toNat (wordOf ns (st + 4 + 2).toNat 4) (st.toNat + 16) = (readRows ns (st + 4 + wordOf ns st.toNat 4).toNat (wordOf ns (st + 4 + 2).toNat 4) q).map (rows ++ ·)) :
    readSet ns st.toNat = (readRows ns (st + 4 + wordOf ns st.toNat 4).toNat (wordOf ns (st + 4 + 2).toNat 4) q).map fun r => (rows ++ r, (st + 4 + wordOf ns st.toNat 4).toNat) := by
  obtain ⟨n, rfl⟩ := Int.eq_ofNat_of_zero_le h0
  obtain ⟨w, hw⟩ := Int.eq_ofNat_of_zero_le w0
  rw [hw] at h1 h2 hr ⊢
  have hw' : wordOf ns n 4 = (w : Int) := hw
  have e := readSet_rows (ns := ns) (st := n) (by rw [hw']; exact Int.ofNat_le.mp h1) (by rw [hw']; exact Nat.le_trans (Nat.add_le_add_left (by decide) n) (Int.ofNat_le.mp h2)) h3 h4 h5
  rw [hw'] at e
  refine e.trans ?_
  have hr' : readRows ns (n + 4 + w) (wordOf ns (n + 6) 4) (n + 16) = (readRows ns (n + 4 + w) (wordOf ns (n + 6) 4) q).map (rows ++ ·) := hr
  show (readRows ns (n + 4 + w) (wordOf ns (n + 6) 4) (n + 16)).map _ = (readRows ns (n + 4 + w) (wordOf ns (n + 6) 4) q).map _
  rw [hr', Option.map_map]
  rfl
structure RS where
  q : Nat
  tb : Tok
  tz : Tok
  tp : Tok
  vs : List Value
  nn : Nat
  rows : List Row
  nw : List (Addr × Obj)
noncomputable def rsLed (d l x dd : Addr) (h1 h2 h3 : Int) (tk1 tk2 tk3 : Tok) (bs : Array UInt8) (e : Int) (tb te : Tok) (news : List (Addr × Obj)) (c : RS) : List (Addr × Obj) :=
  (d, rdDict h1 h2 h3 tk1 tk2 tk3 bs ((c.q : Int) + 8) e tb c.tp te) :: (l, listOf c.vs.toArray c.nn) :: (x, instObj 152 dd) :: (c.nw ++ news)
noncomputable def rsPs (ns : List Int) (c : RS) : List (Str × Value) := [(Str.ofString "begin", .int (wordOf ns c.q 4) c.tb), (Str.ofString "size", .int (wordOf ns (c.q + 4) 4) c.tz)]
noncomputable def rsP (ns : List Int) (e u0 : Int) (q₀ : Nat) (d l x : Addr) (news : List (Addr × Obj)) (c : RS) : Prop :=
  (c.q : Int) + 8 ≤ e ∧ readRows ns e.toNat u0 q₀ = (readRows ns e.toNat u0 c.q).map (c.rows ++ ·) ∧ DatAll c.nw c.vs (c.rows.map rowDat) ∧ (∀ p ∈ c.nw, ∀ r ∈ news, p.1 ≠ r.1) ∧ c.vs.length * 8 + q₀ = c.q ∧ (∀ p ∈ c.nw ++ news, p.1 ≠ d) ∧ (∀ p ∈ c.nw ++ news, p.1 ≠ l) ∧ (∀ p ∈ c.nw ++ news, p.1 ≠ x)
theorem kst_cut {m₀ : Str → Option Value} {ps : List (Str × Value)} (h : ∀ p ∈ ps, m₀ p.1 = some p.2) : kstB m₀ ps = m₀ := funext fun _ => kstB_eq h fun _ => rfl
noncomputable def rsM (ns : List Int) (q₀ : Nat) (t1 t2 : Tok) (vo vf vr ve : Value) (m₂ : Str → Option Value) : Str → Option Value :=
  fun z => if z = Str.ofString "begin" then some (.int (wordOf ns q₀ 4) t1) else if z = Str.ofString "size" then some (.int (wordOf ns (q₀ + 4) 4) t2) else if z = Str.ofString "offset" then some vo else if z = Str.ofString "found" then some vf else if z = Str.ofString "reader" then some vr else if z = Str.ofString "end" then some ve else m₂ z
theorem rs_while {prog : Program} {w : World} {A : Around} {E : Value → Shared → Prop} {Q : Flow → Shared → Prop} {s : Shared} {env : Env} {h₀ : Heap} {L : Addr} {test : Expr} {body : List Stmt} {pos : Pos} {m₀ : Str → Option Value} {nws news : List (Addr × Obj)} {ns : List Int} {d x l dd : Addr} {h1 h2 h3 p e u0 : Int} {tk1 tk2 tk3 tb tp te t1 t2 : Tok} {bs : Array UInt8} {vo vf vr ve : Value} (q₀ : Nat)
    (F : Fr h₀ L s.heap m₀) (N : News h₀ L s.heap nws) (hd : (d, rdDict h1 h2 h3 tk1 tk2 tk3 bs p e tb tp te) ∈ nws) (hl : (l, listOf #[] 0) ∈ nws) (hx : (x, instObj 152 dd) ∈ nws) (hs : ∀ p ∈ news, p ∈ nws)
    (kb : m₀ (Str.ofString "begin") = some (.int (wordOf ns q₀ 4) t1)) (kz : m₀ (Str.ofString "size") = some (.int (wordOf ns (q₀ + 4) 4) t2)) (ko : m₀ (Str.ofString "offset") = some vo) (kf : m₀ (Str.ofString "found") = some vf) (kr : m₀ (Str.ofString "reader") = some vr) (ke : m₀ (Str.ofString "end") = some ve) (hp : p = q₀ + 8) (hqe : (q₀ : Int) + 8 ≤ e)
    (od : ∀ p ∈ news, p.1 ≠ d) (ol : ∀ p ∈ news, p.1 ≠ l) (ox : ∀ p ∈ news, p.1 ≠ x)
    (turn : ∀ (m₂ : Str → Option Value) (q : Nat) (tb' tz tp : Tok) (vs : List Value) (nn : Nat) (rows : List Row) (nw : List (Addr × Obj)) h tk, (q : Int) + 8 ≤ e → readRows ns e.toNat u0 q₀ = (readRows ns e.toNat u0 q).map (rows ++ ·) → DatAll nw vs (rows.map rowDat) → (∀ p ∈ nw, ∀ r ∈ news, p.1 ≠ r.1) → vs.length * 8 + q₀ = q → 
      (∀ p ∈ nw ++ news, p.1 ≠ d) → (∀ p ∈ nw ++ news, p.1 ≠ l) → (∀ p ∈ nw ++ news, p.1 ≠ x) →
      Fr h₀ L h (rsM ns q tb' tz vo vf vr ve m₂) →
      News h₀ L h ((d, rdDict h1 h2 h3 tk1 tk2 tk3 bs ((q : Int) + 8) e tb tp te) :: (l, listOf vs.toArray nn) :: (x, instObj 152 dd) :: (nw ++ news)) →
      wpAny (model prog w) A (isTrue test env (eval test env)) (fun b s₂ =>
        if b = true then wpAny (model prog w) A (execs body env) (KswPost h₀ L s (rsLed d l x dd h1 h2 h3 tk1 tk2 tk3 bs e tb te news) (rsPs ns) (fun _ => True) [] (rsM ns q₀ t1 t2 vo vf vr ve m₂) (rsP ns e u0 q₀ d l x news) (fun c => e.toNat - c.q) Q (⟨q, tb', tz, tp, vs, nn, rows, nw⟩ : RS)) E s₂ else Q .next s₂) E { s with heap := h, toks := tk })
    (hE : PassesOwn (model prog w) A env E := by passes_own) :
    wpAny (model prog w) A (exec (.While test body [] pos) env) Q E s := by
  refine cps fun gG kG => ?_
  subst hp
  refine kG ?_
  clear kG gG
  have em : rsM ns q₀ t1 t2 vo vf vr ve m₀ = m₀ := by
    refine Eq.trans ?_ (kst_cut (ps := [(Str.ofString "begin", .int (wordOf ns q₀ 4) t1), (Str.ofString "size", .int (wordOf ns (q₀ + 4) 4) t2), (Str.ofString "offset", vo), (Str.ofString "found", vf), (Str.ofString "reader", vr), (Str.ofString "end", ve)]) ?_)
    · rfl
    · intro r hr
      simp only [List.mem_cons, List.not_mem_nil, or_false] at hr
      rcases hr with rfl | rfl | rfl | rfl | rfl | rfl <;> assumption
  have F0 := F
  rw [← em] at F0
  refine ksw_while (rsLed d l x dd h1 h2 h3 tk1 tk2 tk3 bs e tb te news) (rsPs ns) (fun _ => True) [] (rsP ns e u0 q₀ d l x news) (fun c => e.toNat - c.q) (⟨q₀, t1, t2, tp, [], 0, [], []⟩ : RS) F0 (cb_drop N ?_) trivial ?_ ?_ (fun c u h tk _ hp F' N' => ?_) hE
  rotate_left 3
  · obtain ⟨a1, a2, a3, a4, a5, a6, a7, a8⟩ := hp
    refine turn m₀ c.q c.tb c.tz c.tp c.vs c.nn c.rows c.nw h tk a1 a2 a3 a4 a5 a6 a7 a8 ?_ N'
    have e2 : rsM ns c.q c.tb c.tz vo vf vr ve m₀ = kstB (fun z => if ([] : List Str).contains z then u z else rsM ns q₀ t1 t2 vo vf vr ve m₀ z) (rsPs ns c) := by
      funext z
      simp only [rsM, rsPs, kstB, List.contains_nil, Bool.false_eq_true, if_false]
      by_cases h1 : z = Str.ofString "begin"
      · simp only [h1, if_true]
      by_cases h2 : z = Str.ofString "size"
      · simp only [h2, if_true]
      simp only [if_neg h1, if_neg h2]
    rw [e2]
    exact F'
  · intro r hr
    rcases List.mem_cons.mp hr with rfl | hr
    · exact hd
    rcases List.mem_cons.mp hr with rfl | hr
    · exact hl
    rcases List.mem_cons.mp hr with rfl | hr
    · exact hx
    exact hs r hr
  · intro r hr
    rcases List.mem_cons.mp hr with rfl | hr
    · rw [em]; exact kb
    rcases List.mem_cons.mp hr with rfl | hr
    · rw [em]; exact kz
    exact nomatch hr
  · refine ⟨hqe, ?_, DatAll.nil, (fun _ h => nomatch h), by simp, od, ol, ox⟩
    cases readRows ns e.toNat u0 q₀ <;> rfl
theorem rs_end {s : Shared} {h₀ h' : Heap} {L : Addr} {m₀ m' : Str → Option Value} {nws news nw : List (Addr × Obj)} {ns : List Int} {d x l dd D : Addr} {h1 h2 h3 p' e u0 b z : Int} {tk1 tk2 tk3 tb te tp tp' t1 t2 tb0 tz0 tb1 tz1 tu : Tok} {bs : Array UInt8} {q q₀ nn nn' n3 tk : Nat} {vs : List Value} {rows : List Row}
    (F' : Fr h₀ L h' m') (N' : News h₀ L h' nws) (m1 : (d, rdDict h1 h2 h3 tk1 tk2 tk3 bs p' e tb tp' te) ∈ nws) (m2 : (l, listOf (vs.toArray.push (.ref D)) nn') ∈ nws) (m3 : (x, instObj 152 dd) ∈ nws)
    (m4 : (D, ({ cls := .type "tuple", data := .seq #[.int b tb1, .int z tz1, .int u0 tu] n3 } : Obj)) ∈ nws) (ms : ∀ p ∈ nw ++ news, p ∈ nws) (hp' : p' = q + 16)
    (hb' : m' (Str.ofString "begin") = some (.int (wordOf ns (q + 8) 4) t1)) (hz' : m' (Str.ofString "size") = some (.int (wordOf ns (q + 8 + 4) 4) t2)) (hr : ∀ y, y ≠ Str.ofString "begin" → y ≠ Str.ofString "size" → m' y = m₀ y)
    (he : (q : Int) + 16 ≤ e) (hnz : ¬ (wordOf ns q 4 = 0 ∧ wordOf ns (q + 4) 4 = 0)) (eb : b = wordOf ns q 4) (ez : z = wordOf ns (q + 4) 4)
    (hrr : readRows ns e.toNat u0 q₀ = (readRows ns e.toNat u0 q).map (rows ++ ·)) (hda : DatAll nw vs (rows.map rowDat)) (hnn : ∀ p ∈ nw, ∀ r ∈ news, p.1 ≠ r.1) (hvl : vs.length * 8 + q₀ = q)
    (od : ∀ p ∈ nw ++ news, p.1 ≠ d) (ol : ∀ p ∈ nw ++ news, p.1 ≠ l) (ox : ∀ p ∈ nw ++ news, p.1 ≠ x) (oD : ∀ p ∈ nw ++ news, p.1 < D) (d1 : d < D) (d2 : l < D) (d3 : x < D) :
    KswEnd h₀ L s (rsLed d l x dd h1 h2 h3 tk1 tk2 tk3 bs e tb te news) (rsPs ns) (fun _ => True) [] m₀ (rsP ns e u0 q₀ d l x news) (fun c => e.toNat - c.q) (⟨q, tb0, tz0, tp, vs, nn, rows, nw⟩ : RS) { s with heap := h', toks := tk } := by
  refine cps fun gG kG => ?_
  subst hp'
  subst eb
  subst ez
  refine kG ?_
  clear kG gG
  have n1 : ∀ {y : Addr}, y < D → D ≠ y := fun hy => Nat.ne_of_gt hy
  refine ksw_end (⟨q + 8, t1, t2, tp', vs ++ [.ref D], nn', rows ++ [(wordOf ns q 4, wordOf ns (q + 4) 4, u0)], (D, { cls := .type "tuple", data := .seq #[.int (wordOf ns q 4) tb1, .int (wordOf ns (q + 4) 4) tz1, .int u0 tu] n3 }) :: nw⟩ : RS) F' N' ?_ trivial ?_ ?_ ?_ (Nat.sub_lt_sub_left (Int.lt_toNat.mpr (Int.lt_of_lt_of_le (Int.lt_add_of_pos_right _ (by decide)) he)) (lt8 _))
  · intro r hr
    rcases List.mem_cons.mp hr with rfl | hr
    · show (d, rdDict h1 h2 h3 tk1 tk2 tk3 bs (((q + 8 : Nat) : Int) + 8) e tb tp' te) ∈ nws
      rw [show (((q + 8 : Nat) : Int) + 8) = (q : Int) + 16 from rfl]
      exact m1
    rcases List.mem_cons.mp hr with rfl | hr
    · show (l, listOf (vs ++ [Value.ref D]).toArray nn') ∈ nws
      rw [← List.push_toArray]
      exact m2
    rcases List.mem_cons.mp hr with rfl | hr
    · exact m3
    rcases List.mem_cons.mp hr with rfl | hr
    · exact m4
    · exact ms r hr
  · intro r hr
    rcases List.mem_cons.mp hr with rfl | hr
    · exact hb'
    rcases List.mem_cons.mp hr with rfl | hr
    · exact hz'
    exact nomatch hr
  · intro y hy _
    exact hr y (hy _ (.head _)) (hy _ (.tail _ (.head _)))
  · refine ⟨he, ?_, ?_, ?_, ?_, ?_, ?_, ?_⟩
    · show readRows ns e.toNat u0 q₀ = (readRows ns e.toNat u0 (q + 8)).map ((rows ++ [(wordOf ns q 4, wordOf ns (q + 4) 4, u0)]) ++ ·)
      rw [hrr, readRows_more (toNat_ge (Int.le_trans (Int.add_le_add_left (by decide : (8 : Int) ≤ 16) _) he)) hnz, Option.map_map]
      congr 1
      funext r
      simp
    · show DatAll _ (vs ++ [Value.ref D]) ((rows ++ [(wordOf ns q 4, wordOf ns (q + 4) 4, u0)]).map rowDat)
      rw [List.map_append]
      exact DatAll.append (hda.mono fun p hp => .tail _ hp) (.one (.tuple (vs := [_, _, _]) (.head _) (.cons (.int _ _) (.cons (.int _ _) (.cons (.int _ _) .nil)))))
    · intro p hp r hr
      rcases List.mem_cons.mp hp with rfl | hp
      · exact n1 (oD r (List.mem_append.mpr (.inr hr)))
      · exact hnn p hp r hr
    · show (vs ++ [Value.ref D]).length * 8 + q₀ = q + 8
      rw [List.length_append, List.length_singleton, Nat.add_mul, Nat.add_right_comm, hvl]
    · intro p hp
      rcases List.mem_cons.mp hp with rfl | hp
      · exact n1 d1
      · exact od p hp
    · intro p hp
      rcases List.mem_cons.mp hp with rfl | hp
      · exact n1 d2
      · exact ol p hp
    · intro p hp
      rcases List.mem_cons.mp hp with rfl | hp
      · exact n1 d3
      · exact ox p hp
end
section
noncomputable abbrev excObj (C t : Addr) : Obj := { cls := .ref C, data := .fields #[.ref t, .none, .none, .none, .bool false, .none] }
structure Faults (M : Model) (h : Heap) (C : Addr) : Prop where
  obj : ∃ oc od cd sl, h.get? C = some ⟨oc, od, .cls cd, sl⟩ ∧ cd.hasDel = false ∧ cd.mro.isEmpty = false ∧ (cd.mro.contains (.type "StopIteration") || cd.mro.contains (.type "SystemExit")) = false
  made : Looks M h (Bind.madeBy (.ref C)) (some "Exception.__new__")
  base : Looks M h (Bind.staticBase (.ref C)) (.ref C)
  self : Looks M h (isSubtype (.ref C) (.ref C)) true
  exc : Looks M h (isSubtype (.ref C) (.type "Exception")) true
  bexc : Looks M h (isSubtype (.ref C) (.type "BaseException")) true
  att : Looks M h (isSubtype (.ref C) (.type "AttributeError")) false
  nam : Looks M h (isSubtype (.ref C) (.type "NameError")) false
  call : Looks M h (specialOf (.ref C) "__call__") (some (.builtin "type.__call__"))
  typ : Looks M h (isInstance (.ref C) (.type "type")) true
noncomputable def faultIn (K : Frag) (C : Addr) : Bool := match K.lookup C with
  | some ⟨_, _, .cls cd, sl⟩ => !cd.hasDel && (sl.toList[4]?).join == some (.builtin "Exception.__new__") && !cd.mro.isEmpty && cd.mro.contains (.ref C) && cd.mro.contains (.type "Exception") && cd.mro.contains (.type "BaseException") &&
      !cd.mro.contains (.type "AttributeError") && !cd.mro.contains (.type "NameError") && !(cd.mro.contains (.type "StopIteration") || cd.mro.contains (.type "SystemExit")) &&
      specialIn K (.ref C) "__call__" == some (some (.builtin "type.__call__")) && instIn K (.ref C) (.type "type") == some true
  | _ => false
theorem faults_of {K : Frag} {M : Model} {h : Heap} (X : K.In h) {C : Addr} (e : faultIn K C = true) : Faults M h C := by
  unfold faultIn at e
  split at e
  · rename_i oc od cd sl ho
    simp only [Bool.and_eq_true, Bool.not_eq_true', beq_iff_eq] at e
    refine cps fun gG kG => ?_
    obtain ⟨⟨⟨⟨⟨⟨⟨⟨⟨⟨e2, e3⟩, e4⟩, e5⟩, e6⟩, e6b⟩, e7⟩, e8⟩, e11⟩, e9⟩, e10⟩ := e
    have hc : clsIn K C = some cd := by unfold clsIn; rw [ho]
    have hm : Looks M h (mroOf (.ref C)) cd.mro := (looks_clsIn X hc).andThen .now
    have sub : ∀ v b, cd.mro.contains v = b → Looks M h (isSubtype (.ref C) v) b := fun v b hv => looks_mroIn X (by unfold mroIn; rw [hc, Option.bind_some, if_neg (by rw [e4]; decide), hv])
    obtain ⟨c, l, hl⟩ : ∃ c l, cd.mro = c :: l := by cases q : cd.mro with | nil => rw [q] at e4; cases e4 | cons c l => exact ⟨c, l, rfl⟩
    refine kG ?_
    clear kG gG
    have made : Looks M h (Bind.madeBy (.ref C)) (some "Exception.__new__") := by
      intro A Q E s k q
      unfold Bind.madeBy
      refine wpAny_bind (hm A _ E s k ?_)
      rw [hl, List.forIn_cons]
      refine wpAny_bind (wpAny_bind (wpAny_bind (wpAny_bind (wpAny_loadPart (k _ _ (X _ _ ho)) (wpAny_pure ?_)))))
      dsimp only
      rw [← Array.getElem?_toList, e3]
      exact wpAny_pure (wpAny_pure (wpAny_pure q))
    refine ⟨⟨oc, od, cd, sl, X _ _ ho, e2, e4, e11⟩, made, ?_, sub _ _ e5, sub _ _ e6, sub _ _ e6b, sub _ _ e7, sub _ _ e8, looks_specialIn X e9, looks_instIn X e10⟩
    intro A Q E s k q
    unfold Bind.staticBase
    refine wpAny_bind (hm A _ E s k ?_)
    rw [hl, List.forIn_cons]
    exact wpAny_bind (wpAny_bind (wpAny_bind (made A _ E s k (wpAny_pure (wpAny_pure (wpAny_pure q))))))
  · cases e
section
variable {prog : Program} {w : World} {A : Around} {K : Frag} {C : Addr} {R : Result → Shared → Prop} {h : Heap} {g : Array GenState} {d : Drawn} {t : Nat} {os : OsState}
theorem exc_new {rest : List Value} (Y : Faults (model prog w) h C) (hr : rest.length ≤ sizeLine)
    (hq : R (.ok (.ret (.ref (h.objs.size + 1)))) ⟨(h.push (tupOf rest 0)).push (excObj C h.objs.size), g, d, t, os⟩) :
    codeAny (model prog w) A (.call (.builtin "Exception.__new__") ⟨.ref C :: rest, []⟩) R ⟨h, g, d, t, os⟩ := by
  refine cps fun gG kG => ?_
  obtain ⟨⟨oc, od, cd, sl, hC, e2, e4, e11⟩, made, base, self, exc, bexc, att, nam, call, typ⟩ := Y
  refine kG ?_
  clear kG gG
  have F := PySem.F.excBase_Exception
  refine codeAny_call_builtin_code (Code.quiet_builtin _ (by decide +kernel)) ?_
  simp only [checkBuiltinCall, F.newKind, F.newSplit, F.newRow]
  have here : Looks (model prog w) h (Bind.madeHere "Exception.__new__" (.ref C)) () := base.andThen (made.andThen (Looks.of_pure (by simp only [Option.map_some, bne_self_eq_false, Bool.false_eq_true, if_false])))
  have here2 : Looks (model prog w) h (Bind.madeHere "BaseException.__new__" (.ref C)) () := base.andThen (made.andThen (Looks.of_pure (by simp only [Option.map_some, F.canon, bne_self_eq_false, Bool.false_eq_true, if_false])))
  repeat (first | simp only [bne_self_eq_false, Bool.false_eq_true, if_false] | lk)
  have hends := F.ends
  refine codeAny_builtinAt F.entry ?_
  unfold Builtin.«BaseException.__new__»
  refine PySem.wpAt_bind ?_
  show PySem.wpAt _ _ _ (stack >>= _) _ _ _
  refine PySem.wpAt_bind (PySem.wpAt_stack fun p below => PySem.wpAt_of_wpAny ?_)
  wp_walk
  refine PySem.wpAt_of_wpAny ?_
  rw [F.owner]
  repeat (first | simp only [bne_self_eq_false, Bool.false_eq_true, if_false] | lk | wp_step)
  refine wpAny_load (Heap.get?_push_of_some _ (Heap.get?_push_of_some _ hC)) ?_
  dsimp only
  rw [e2]
  refine wpAny_pure ?_
  rw [if_neg (by decide)]
  refine wpAny_pure (wpAny_pure ?_)
  show R _ _
  rw [Heap.size_push]
  exact hq
theorem new_fault {rest : List Value} {init : Value} (Y : Faults (model prog w) h C) (hr : rest.length ≤ sizeLine) (hi : Looks (model prog w) h (typeLookup (.ref C) "__init__") (some init))
    (hb : ∀ self, Looks (model prog w) h (bindSpecial init self) (init, [self]))
    (hq : codeAny (model prog w) (A.under (.builtin "type.__call__" ⟨.ref C :: rest, []⟩)) (.call init ⟨.ref (h.objs.size + 1) :: rest, []⟩) (InitBack (h.objs.size + 1) R) ⟨(h.push (tupOf rest 0)).push (excObj C h.objs.size), g, d, t, os⟩) :
    codeAny (model prog w) A (.call (.ref C) ⟨rest, []⟩) R ⟨h, g, d, t, os⟩ := by
  have Y' := Y
  refine cps fun gG kG => ?_
  obtain ⟨⟨oc, od, cd, sl, hC, e2, e4, e11⟩, made, base, self, exc, bexc, att, nam, call, typ⟩ := Y
  refine kG ?_
  clear kG gG
  refine codeAny_of_tree ?_
  show wpAny _ _ (callAny (.ref C) _) _ _ _
  refine nd_load hC ?_
  show wpAny _ _ (callAny.viaDunder (.ref C) _) _ _ _
  unfold callAny.viaDunder
  refine wpAny_bind (call.at ?_)
  dsimp only
  rw [tc_bind]
  refine wpAny_bind (wpAny_pure (wpAny_bind (wpAny_pure ?_)))
  refine wpAny_pure (a := Fin.again (.call (.builtin "type.__call__") ⟨.ref C :: rest, []⟩)) (And.intro rfl ?_)
  refine codeAny_call_builtin_at (Code.quiet_builtin _ (by decide +kernel)) entry_typeCall (check_slot tc_kind tc_split typ (tc_args _ _ _) ?_)
  unfold Builtin.«type.__call__»
  have hm : Looks (model prog w) h (mroOf (.ref C)) cd.mro := ((Looks.ld (part := none) hC).andThen .now).andThen .now
  repeat (first | simp only [e4, Bool.false_eq_true, if_false] | with_reducible refine wpAny_call ?_ | lk)
  refine exc_new Y' hr ?_
  have k : ∀ b o, h.get? b = some o → ((h.push (tupOf rest 0)).push (excObj C h.objs.size)).get? b = some o := fun b o e => Heap.get?_push_of_some _ (Heap.get?_push_of_some _ e)
  have hx : ((h.push (tupOf rest 0)).push (excObj C h.objs.size)).get? (h.objs.size + 1) = some (excObj C h.objs.size) := by heap_get
  have t1 : Looks (model prog w) ((h.push (tupOf rest 0)).push (excObj C h.objs.size)) (typeOf (.ref (h.objs.size + 1))) (.ref C) := (Looks.ld hx).andThen .now
  have s1 := self.keeps k
  have i1 := hi.keeps k
  have b1 := (hb (.ref (h.objs.size + 1))).keeps k
  unfold isInstance callSpecial? specialOf
  repeat (first | with_reducible refine wpAny_call ?_ | lk)
  refine codeAny_mono hq fun r s' z => ?_
  rcases r with e | (v | _ | _ | _) <;> first | exact z | exact z.elim | skip
  refine cps fun gG kG => ?_
  obtain ⟨rfl, z⟩ := z
  refine kG ?_
  clear kG gG
  exact wpAny_pure (wpAny_pure z)
end
section
variable {prog : Program} {w : World} {A : Around} {E : Value → Shared → Prop} {s : Shared} {K : Frag} {C L : Addr} {h₀ : Heap} {m : Str → Option Value} {news : List (Addr × Obj)} {Q : Value → Shared → Prop}
theorem call_fault {pos : List Value} {fI : Addr} (F : Fr h₀ L s.heap m) (X₀ : K.In h₀) (N : News h₀ L s.heap news) (hm : faultIn K C = true) (hi : findIn K (.ref C) "__init__" = some (some (.ref fI))) (hf : isFn K (.ref fI) = true) (hr : pos.length ≤ sizeLine)
    (h : ∀ x t h', Fr h₀ L h' m → News h₀ L h' ((x, excObj C t) :: (t, tupOf pos 0) :: news) → (∀ p ∈ news, p.1 < t) → (∀ p ∈ (t, tupOf pos 0) :: news, p.1 < x) →
      codeAny (model prog w) (A.under (.builtin "type.__call__" ⟨.ref C :: pos, []⟩)) (.call (.ref fI) ⟨.ref x :: pos, []⟩) (InitBack x fun r s' => match r with | .ok (.ret v) => Q v s' | .ok _ => False | .error e => E e s') { s with heap := h' }) :
    wpAny (model prog w) A (call (.ref C) pos []) Q E s := by
  refine wpAny_call ?_
  refine cps fun gG kG => ?_
  obtain ⟨hh, g, d, t, os⟩ := s
  refine kG ?_
  clear kG gG
  have X := X₀.keeps F.keep
  refine new_fault (faults_of X hm) hr (looks_findIn X hi) (fun self => bind_fn X self (beq_iff_eq.mp hf)) (h _ hh.objs.size _ ((F.push _).push _) ?_ (fun p hp => Heap.lt_size (N p hp).1) (fun p hp => by rcases List.mem_cons.mp hp with rfl | hp; exact Nat.lt_succ_self _; exact Nat.lt_succ_of_lt (Heap.lt_size (N p hp).1)))
  have := (N.push F (tupOf pos 0)).push (F.push _) (excObj C hh.objs.size)
  rwa [Heap.size_push] at this
end

section
variable {prog : Program} {w : World} {A : Around} {E : Value → Shared → Prop} {s : Shared} {K : Frag} {C L : Addr} {h₀ : Heap} {m : Str → Option Value} {news : List (Addr × Obj)} {Q : Value → Shared → Prop}
theorem updF_ledger {h : Heap} {d : Addr} {o o' : Obj} {g : Obj → List (Addr × Obj)} {f : Obj → Obj} (U : UpdF d o news g) (F : Fr h₀ L h m) (N : News h₀ L h news) (e : f o = o') (hf : o'.isFreed = false) :
    Fr h₀ L (h.update d f) m ∧ News h₀ L (h.update d f) (g o') := by
  refine cps fun gG kG => ?_
  obtain ⟨pre, post, rfl, hg, h1, h2⟩ := U.split
  refine kG ?_
  clear kG gG
  rw [hg]
  exact news_upd F N h1 h2 e hf
theorem updF_mem {d : Addr} {o : Obj} {g : Obj → List (Addr × Obj)} (U : UpdF d o news g) : (d, o) ∈ news := by
  refine cps fun gG kG => ?_
  obtain ⟨pre, post, rfl, hg, h1, h2⟩ := U.split
  refine kG ?_
  clear kG gG
  exact List.mem_append.mpr (.inr (.head _))
theorem exc_init {e t0 : Addr} {v : Value} {g : Obj → List (Addr × Obj)} (F : Fr h₀ L s.heap m) (X₀ : K.In h₀) (N : News h₀ L s.heap news) (U : UpdF e (excObj C t0) news g) (hm : faultIn K C = true)
    (h : ∀ t1 h', Fr h₀ L h' m → News h₀ L h' ((t1, tupOf [v] 0) :: g (excObj C t1)) → (∀ p ∈ news, p.1 < t1) → Q .none { s with heap := h' }) :
    wpAny (model prog w) A (call (.builtin "Exception.__init__") [.ref e, v]) Q E s := by
  have FB := PySem.F.excBase_Exception
  have Y := faults_of (M := model prog w) (X₀.keeps F.keep) hm
  have he := (N _ (updF_mem U)).1
  have t1 : Looks (model prog w) s.heap (typeOf (.ref e)) (.ref C) := (Looks.ld he).andThen .now
  have t2 : Looks (model prog w) s.heap (isInstance (.ref e) (.type "Exception")) true := t1.andThen Y.exc
  have hchk : ∀ Q' : Unit → Shared → Prop, ∀ E' : Value → Shared → Prop, ∀ A', Q' () s → wpAny (model prog w) A' (checkBuiltinCall "Exception.__init__" ⟨[.ref e, v], []⟩) Q' E' s := by
    intro Q' E' A' q
    obtain ⟨⟨oc, od, cd, sl, hC, -, -, -⟩, made, base, self, exc, bexc, att, nam, call, typ⟩ := Y
    have hshort := FB.noStar
    obtain ⟨hh, gg, d, tk, os⟩ := s
    simp only [checkBuiltinCall, FB.initKind, FB.initSplit, FB.initRow]
    repeat (first | lk | (with_reducible refine wpAny_loadPart_at he ?_; dsimp only) | wp_step | (refine wpAny_load hC ?_; dsimp only))
    exact q
  refine wpAny_call (codeAny_call_builtin FB.init.plain FB.initEntry (hchk _ _ _ ?_))
  unfold Builtin.«BaseException.__init__»
  have he' : (s.heap.push (tupOf [v] 0)).get? e = some (excObj C t0) := Heap.get?_push_of_some _ he
  have N1 := N.push F (tupOf [v] 0)
  have F1 := F.push (tupOf [v] 0)
  have U1 : UpdF e (excObj C t0) ((s.heap.objs.size, tupOf [v] 0) :: news) (fun o' => (s.heap.objs.size, tupOf [v] 0) :: g o') := .tail (Nat.ne_of_gt (Heap.lt_size he)) U
  refine cps fun gG kG => ?_
  obtain ⟨hh, gg, d, tk, os⟩ := s
  refine kG ?_
  clear kG gG
  dsimp only at *
  wp_walk
  refine cps fun gG kG => ?_
  obtain ⟨F2, N2⟩ := updF_ledger (f := Obj.mapFields fun x => x.setIfInBounds 0 (Value.ref hh.objs.size)) (o' := excObj C hh.objs.size) U1 F1 N1 rfl rfl
  refine kG ?_
  clear kG gG
  exact h _ _ F2 N2 fun p hp => Heap.lt_size (N p hp).1
end

end
section
open Sem (wp)
section
variable {M : Model} {A : Around} {E : Value → Shared → Prop} {s : Shared} {env : Env}
theorem execsN_cons {st : Stmt} {rest : List Stmt} {Q : Flow → Shared → Prop} (h : wpN M A (exec st env) (fun f s' => match f with | .next => wpN M A (execs rest env) Q E s' | f => Q f s') E s) :
    wpN M A (execs (st :: rest) env) Q E s := by
  rw [execs_cons]
  refine wpN_bind (wpN_mono h (fun f s' h' => ?_) fun _ _ x => x)
  cases f <;> first | exact h' | exact wpN_any (wpAny_pure h')
theorem exprN {e : Expr} {pos : Pos} {Q : Flow → Shared → Prop} {prog : Program} {w : World} (h : wpN (model prog w) A (eval e env) (fun _ => Q .next) E s)
    (hi : interactive env = false := by rfl) (hs : swapsWith e none pos.line env = pure false := by rfl) : wpN (model prog w) A (exec (.Expr e pos) env) Q E s := by
  rw [exec_Expr env e pos hi hs]
  exact wpN_bindA (wpAny_standAt (wpN_bind (wpN_mono h (fun v s' h' => wpN_any (wpAny_dropValue h')) fun _ _ x => x)))
theorem methodN {o : Expr} {name : Str} {apos pos : Pos} {args : List Expr} {pl : Sem Bool} {Q : Value → Shared → Prop}
    (h : wpAny M A (eval o env) (fun ov s₁ => wpAny M A (getMethod ov name pl) (fun fx s₂ => wpN M A (callWith pos fx.1 fx.2 (backTo pos (starEach args env)) []) Q E s₂) E s₁) E s)
    (he : eval (.Call (.Attribute o name apos) args [] pos) env = (do
      let ov ← eval o env
      standAt apos.atName
      let (f, first) ← holding [ov] (getMethod ov name pl)
      callWith pos f first (backTo pos (starEach args env)) []) := by rfl) :
    wpN M A (eval (.Call (.Attribute o name apos) args [] pos) env) Q E s := by
  rw [he]
  refine wpN_bindA (wpAny_mono h (fun ov s₁ h₁ => wpN_bindA (wpAny_standAt (wpN_bindA (wpAny_holding (wpAny_mono h₁ (fun fx s₂ h₂ => ?_) fun _ _ x => x))))) fun _ _ x => x)
  exact h₂
theorem nameCallN {x : Str} {np pos : Pos} {args : List Expr} {keywords : List Keyword} {Q : Value → Shared → Prop}
    (h : wpAny M A (eval (.Name x np) env) (fun f s₁ => wpN M A (callWith pos f [] (backTo pos (starEach args env)) (backToKw pos (keywordEach keywords env))) Q E s₁) E s) :
    wpN M A (eval (.Call (.Name x np) args keywords pos) env) Q E s := by
  show wpN M A (do callWith pos (← eval (.Name x np) env) [] (backTo pos (starEach args env)) (backToKw pos (keywordEach keywords env))) Q E s
  exact wpN_bindA h
theorem withN_fn {pos : Pos} {a : Addr} {o : Obj} {fd : FuncData} {first : List Value} {args : List (Bool × Sem Value)} {Q : Value → Shared → Prop}
    (h : wpAny M A (evalArgs (.ref a) true args []) (fun x s₁ => (s₁.heap.get? a = some o ∧ o.data = .func fd) ∧ wpN M A (call (.ref a) (first ++ x.pos) x.kw) Q E s₁) E s) :
    wpN M A (callWith pos (.ref a) first args []) Q E s := by
  unfold callWith
  refine wpN_bindA (wpAny_holding (wpAny_mono h (fun x s₁ h₁ => wpN_bindA (wpAny_standAt ?_)) fun _ _ x => x))
  have tail : ∀ {t : Sem Value}, wpN M A t Q E s₁ → wpN M A (t >>= fun r => holding [r] point >>= fun _ => pure r) Q E s₁ :=
    fun ht => wpN_bind (wpN_mono ht (fun r s₂ hr => wpN_bindA (wpAny_holding (wpAny_point (wpN_any (wpAny_pure hr))))) fun _ _ x => x)
  have k : ∀ m, wpN M A (callMarked m (.ref a) (first ++ x.pos) x.kw) Q E s₁ := fun m => by unfold callMarked; exact wpN_keep h₁.2
  refine wpN_bindA (m := keeperOf (.ref a)) ?_
  unfold keeperOf
  refine wpAny_bind (wpAny_load h₁.1.1 ?_)
  rw [h₁.1.2]
  refine wpAny_pure ?_
  cases hs : args.any (·.1) <;> simp only [List.any_nil, Bool.or_false]
  · split
    · exact tail h₁.2
    · exact tail (k _)
  · exact tail (k _)
theorem withN_builtin {pos : Pos} {id : String} {first : List Value} {args : List (Bool × Sem Value)} {Q : Value → Shared → Prop} (hplain : args.any (·.1) = false)
    (h : wpAny M A (evalArgs (.builtin id) true args []) (fun a s₁ => wpN M A (call (.builtin id) (first ++ a.pos) a.kw) Q E s₁) E s) :
    wpN M A (callWith pos (.builtin id) first args []) Q E s := by
  unfold callWith
  refine wpN_bindA (wpAny_holding (wpAny_mono h (fun a s₁ h₁ => wpN_bindA (wpAny_standAt ?_)) fun _ _ x => x))
  simp only [hplain, List.any_nil, Bool.or_false]
  refine wpN_bindA (wpAny_pure ?_)
  exact wpN_bind (wpN_mono h₁ (fun r s₂ hr => wpN_bindA (wpAny_holding (wpAny_point (wpN_any (wpAny_pure hr))))) fun _ _ x => x)
theorem withN_builtin1 {pos : Pos} {id : String} {e : Expr} {rest : List Expr} {first : List Value} {Q : Value → Shared → Prop}
    (h : wpAny M A (spliced (backTo pos (starEach (e :: rest) env))) (fun vs s₁ => wpN M A (call (.builtin id) (first ++ vs)) Q E s₁) E s)
    (he : starEach (e :: rest) env = (false, eval e env) :: starEach rest env := by rfl)
    (hplain : (backTo pos (starEach rest env)).any (·.1) = false := by rfl) :
    wpN M A (callWith pos (.builtin id) first (backTo pos (starEach (e :: rest) env)) []) Q E s := by
  rw [he] at h ⊢
  exact withN_builtin (by show (false || (backTo pos (starEach rest env)).any (·.1)) = false; rw [hplain]; rfl) (evalArgs_plain h)
theorem withN_fn1 {pos : Pos} {a : Addr} {o : Obj} {fd : FuncData} {e : Expr} {rest : List Expr} {first : List Value} {Q : Value → Shared → Prop} (hdat : o.data = .func fd)
    (h : wpAny M A (spliced (backTo pos (starEach (e :: rest) env))) (fun vs s₁ => s₁.heap.get? a = some o ∧ wpN M A (call (.ref a) (first ++ vs)) Q E s₁) E s)
    (he : starEach (e :: rest) env = (false, eval e env) :: starEach rest env := by rfl) :
    wpN M A (callWith pos (.ref a) first (backTo pos (starEach (e :: rest) env)) []) Q E s := by
  rw [he] at h ⊢
  exact withN_fn (o := o) (fd := fd) (evalArgs_plain (wpAny_mono h (fun vs s₁ h₁ => ⟨⟨h₁.1, hdat⟩, h₁.2⟩) fun _ _ x => x))
theorem withN_fn0 {pos : Pos} {a : Addr} {o : Obj} {fd : FuncData} {first : List Value} {Q : Value → Shared → Prop} (hdat : o.data = .func fd)
    (ho : s.heap.get? a = some o) (h : wpN M A (call (.ref a) first) Q E s) : wpN M A (callWith pos (.ref a) first (backTo pos (starEach [] env)) []) Q E s := by
  show wpN M A (callWith pos (.ref a) first [] []) Q E s
  exact withN_fn (o := o) (fd := fd) (PyProof.Rows.evalArgs_none ⟨⟨ho, hdat⟩, by simpa using h⟩)
theorem withN_K {K : Frag} {pos : Pos} {f : Addr} {oc : Value} {od : Option Addr} {osl : Array (Option Value)} {fd : FuncData} {e : Expr} {rest : List Expr} {first : List Value} {Q : Value → Shared → Prop} (hk : K.lookup f = some ⟨oc, od, .func fd, osl⟩)
    (h : wpAny M A (spliced (backTo pos (starEach (e :: rest) env))) (fun vs s₁ => K.In s₁.heap ∧ wpN M A (call (.ref f) (first ++ vs)) Q E s₁) E s)
    (he : starEach (e :: rest) env = (false, eval e env) :: starEach rest env := by rfl) :
    wpN M A (callWith pos (.ref f) first (backTo pos (starEach (e :: rest) env)) []) Q E s :=
  withN_fn1 (o := ⟨oc, od, .func fd, osl⟩) rfl (wpAny_mono h (fun vs s₁ h₁ => ⟨h₁.1 _ _ hk, h₁.2⟩) fun _ _ x => x) he
theorem withN_type0 {pos : Pos} {T : String} {Q : Value → Shared → Prop} (h : wpN M A (call (.type T) []) Q E s) :
    wpN M A (callWith pos (.type T) [] (backTo pos (starEach [] env)) []) Q E s := by
  show wpN M A (callWith pos (.type T) [] [] []) Q E s
  unfold callWith
  refine wpN_bindA (wpAny_holding (PyProof.Rows.evalArgs_none (wpN_bindA (wpAny_standAt ?_))))
  simp only [List.any_nil, Bool.or_false]
  refine wpN_bindA (wpAny_pure ?_)
  exact wpN_bind (wpN_mono h (fun r s₂ hr => wpN_bindA (wpAny_holding (wpAny_point (wpN_any (wpAny_pure hr))))) fun _ _ x => x)
theorem assignNameN {x : Str} {pos' pos : Pos} {value : Expr} {Q : Flow → Shared → Prop} (h : wpN M A (eval value env) (fun v s₁ => wpAny M A (storeName env x v) (fun _ => Q .next) E s₁) E s)
    (hs : swapsWith value (some (.Name x pos')) pos.line env = pure false := by rfl) : wpN M A (exec (.Assign [.Name x pos'] value pos) env) Q E s := fun Γ p hΓ hk => by
  simp only [exec_Assign_Name env x pos' value pos hs, Sem.wp_bind', Sem.wp_cmd_standAt, Sem.wp_bindName, Sem.wp_pure']
  exact Sem.wp_mono M Γ _ (fun v _ s₁ h₁ => h₁ Γ _ hΓ) (fun _ _ _ h' => h') _ _ (h Γ _ hΓ hk)
theorem assignAttrN {o : Expr} {attr : Str} {pos' pos : Pos} {value : Expr} {Q : Flow → Shared → Prop}
    (h : wpN M A (eval value env) (fun v s₁ => wpAny M A (eval o env) (fun ov s₂ => wpAny M A (setAttr ov attr v) (fun _ => Q .next) E s₂) E s₁) E s)
    (hs : swapsWith value (some (.Attribute o attr pos')) pos.line env = pure false := by rfl) : wpN M A (exec (.Assign [.Attribute o attr pos'] value pos) env) Q E s := fun Γ p hΓ hk => by
  simp only [plainObj_exec_Assign_Attribute o attr pos' value pos hs, assign_Attribute, Sem.wp_bind', Sem.wp_holding, Sem.wp_cmd_standAt, Sem.wp_release, Sem.wp_pure']
  exact Sem.wp_mono M Γ _ (fun v p₁ s₁ h₁ => Sem.wp_mono M Γ _ (fun ov _ s₂ h₂ => h₂ Γ _ hΓ) (fun _ _ _ h' => h') _ _ (h₁ Γ p₁ hΓ)) (fun _ _ _ h' => h') _ _ (h Γ _ hΓ hk)
theorem tryN {body orelse : List Stmt} {h₀ : ExceptHandler} {hs : List ExceptHandler} {pos : Pos} {Q : Flow → Shared → Prop}
    (h : wpN M A (execs body env) (fun f s₁ => match f with | .next => wpAny M A (execs orelse env) Q E s₁ | f => Q f s₁)
      (fun e s₁ => wpAny M A (noteFrame e env) (fun _ s₂ => wpAny M A (setFlight e none) (fun _ s₃ => wpAny M A (handleBy e env (h₀ :: hs)) Q E s₃) E s₂) E s₁) s) :
    wpN M A (exec (.Try body (h₀ :: hs) orelse [] pos) env) Q E s := by
  rw [arm_exec_Try]
  refine wpN_bindA (wpAny_standAt ?_)
  unfold tryStmt
  simp only [List.isEmpty_nil, if_true, List.isEmpty_cons, Bool.false_and, Bool.false_eq_true, if_false]
  refine wpN_bind (wpN_attempt (wpN_mono h (fun f s₁ h₁ => ?_) fun e s₁ h₁ => ?_))
  · cases f <;> first | exact wpN_any h₁ | exact wpN_any (wpAny_pure h₁)
  · exact wpN_any (wpAny_bind (wpAny_mono h₁ (fun _ _ h₂ => wpAny_bind h₂) fun _ _ x => x))
end
section
variable {prog : Program} {w : World} {A₀ A : Around} {s : Shared} {base h₀ : Heap} {outer : List Env} {L : Addr} {m : Str → Option Value} {env : Env} {news : List (Addr × Obj)} {K : Frag}
  {p : Program} {loose : List Str} {mean : ExcName → Option Value} {mg mb : Str → Option Value}
  {R : Result → Shared → Prop} {name qual : Str} {params : Arguments} {body : List Stmt} {scope : Scope} {dV kV doc pm cdv ct oc : Value} {an od : Option Addr} {osl : Array (Option Value)} {f : Addr} {args : Args} {binds : List (Str × Value)}
theorem entryN (B : Below A₀ base outer h₀) (F : Fr h₀ L s.heap m) (X₀ : K.In h₀) (N : News h₀ L s.heap news) (T : Top p loose mean mg mb h₀) (hA : A.frames = some (env :: outer)) (hf : env.frame = some L) (hke : env.scope.kind = .function)
    (ho : K.lookup f = some ⟨oc, od, .func (fnOf name qual params body scope dV kV doc pm an cdv ct), osl⟩) (hcd : codeIn K cdv qual = true) (hroom : A.depth < recursionLimit)
    (hbind : BindsTo s (fnOf name qual params body scope dV kV doc pm an cdv ct) args binds) (hloc : ∀ y ∈ binds, scope.names.lookup y.1 = some .local)
    (h : ∀ g L' h₁, Fr h₀ L g m → Fr g L' h₁ (fun y => binds.reverse.lookup y) → News g L' h₁ news → Below A base (env :: outer) g → K.In g → Top p loose mean mg mb g →
      wpN (model prog w) (A.deeper (envOf qual scope L' f cdv)) (execs body (envOf qual scope L' f cdv))
        (fun fl s' => LeaveK h₀ L m g R (match fl with | .ret v => v | _ => .none) s')
        (fun e s' => wpAny (model prog w) (A.deeper (envOf qual scope L' f cdv)) (leaving (envOf qual scope L' f cdv) e) (fun _ s'' => R (.error e) s'') (fun e' s'' => R (.error e') s'') s')
        { s with heap := h₁, toks := s.toks + binds.length })
    (hco : scope.isCoroutine = false) (hgen : scope.isGenerator = false) (hk : scope.kind = .function)
    (hcell : ∀ x ∈ scope.names, x.2 ≠ .cell) : codeN (model prog w) A (.call (.ref f) args) R s := by
  refine cps fun gG kG => ?_
  obtain ⟨FG, BG, st, lv⟩ := groundX (R := R) B F N hA hf hke
  refine kG ?_
  clear kG gG
  have X := X₀.keeps F.keep
  refine codeN_call_function hroom (X _ _ ho) rfl hco hgen rfl (codeRec_of X hcd) (hbind _ _ _ _ ?_)
  refine wpAny_newFunctionEnv hcell hloc (fun h₁ hns hk₁ => ?_) hk
  have up : ∀ b o, s.heap.get? b = some o → h₁.get? b = some o := fun b o e => hk₁.extBut b o (Nat.ne_of_lt (Heap.lt_size e)) (Heap.get?_push_of_some _ e)
  refine ⟨(T.nolimit.keeps F.keep).keeps up, codeN_func ?_⟩
  exact wpN_mono (h _ s.heap.objs.size h₁ FG ⟨hns, fun b o e => up b o (of_hideAll _ e), Nat.le_of_eq (hideAll_size _ _)⟩
    (fun p hp => ⟨up _ _ (N p hp).1, Nat.ne_of_lt (Heap.lt_size (N p hp).1), hideAll_none _ (List.mem_map_of_mem hp)⟩) BG (X₀.keeps st) (T.keeps st)) (fun fl s' hl => lv _ _ hl) fun _ _ y => y
end
end
section
open Sem (wp)
section
variable {M : Model} {A : Around} {E : Value → Shared → Prop} {s : Shared}
theorem wpN_if_false {α : Type} {c : Prop} [Decidable c] {a b : Sem α} {Q : α → Shared → Prop} (hc : decide c = false) (h : wpN M A b Q E s) :
    wpN M A (if c then a else b) Q E s := by rw [if_neg (of_decide_eq_false hc)]; exact h
theorem wpN_if_true {α : Type} {c : Prop} [Decidable c] {a b : Sem α} {Q : α → Shared → Prop} (hc : decide c = true) (h : wpN M A a Q E s) :
    wpN M A (if c then a else b) Q E s := by rw [if_pos (of_decide_eq_true hc)]; exact h
end
section
variable {prog : Program} {w : World} {A : Around} {E : Value → Shared → Prop} {s : Shared} {R : Result → Shared → Prop}
theorem codeN_call_builtin {id : String} {args : Args} {b : Builtin} (hq : plainId id = true) (hd : Builtin.Bytes.decodersThatHold.contains id = false) (hb : entryFor table id = some b)
    (h : wpAny (model prog w) A.in1 (checkBuiltinCall id args) (fun _ s₁ => wpN (model prog w) A.in1 (b args)
      (fun fin s' => match fin with | .done f => R (.ok f) s' | .again c' => c'.quiet = true ∧ holdsDec c' = false ∧ codeN (model prog w) A c' R s') (fun e s' => R (.error e) s') s₁)
      (fun e s' => R (.error e) s') s) : codeN (model prog w) A (.call (.builtin id) args) R s := by
  refine codeN_of_tree ?_
  show wpN _ A.in1 (do checkBuiltinCall id args; again (.builtin id args)) _ _ s
  exact wpN_bindA (wpAny_mono h (fun _ s₁ h₁ => wpN_any (wpAny_pure ⟨plainId_quiet hq _, hd, codeN_builtin hb (by rw [Around.under_plainId hq]; exact h₁)⟩)) fun _ _ h' => h')
theorem callTypeN {T newId initId : String} {Bi : Builtin} {args : List Value} {Q Q₁ : Value → Shared → Prop} (ft : TypeCalled T newId initId)
    (hct : checkTypeCall T ⟨args, []⟩ = pure ()) (entryI : entryFor table initId = some Bi) (hdI : Builtin.Bytes.decodersThatHold.contains initId = false)
    (hnew : codeAny (model prog w) A.in1 (.call (.builtin newId) ⟨.type T :: args, []⟩) (wants Q₁ E) s)
    (hnext : ∀ obj s₁, Q₁ obj s₁ → s₁.TypeIs obj T ∧ argsOk initId ⟨obj :: args, []⟩ ∧
      wpN (model prog w) A.in1.in1 (Bi ⟨obj :: args, []⟩)
        (fun fin s' => match fin with | .done f => wants (fun r s₂ => r = .none ∧ Q obj s₂) E (.ok f) s' | .again c' => c'.quiet = true ∧ holdsDec c' = false ∧ codeN (model prog w) A.in1 c' (wants (fun r s₂ => r = .none ∧ Q obj s₂) E) s')
        (fun e s' => wants (fun r s₂ => r = .none ∧ Q obj s₂) E (.error e) s') s₁) :
    wpN (model prog w) A (call (.type T) args) Q E s := by
  refine cps fun gG kG => ?_
  obtain ⟨c, tl, hmro⟩ := ft.mro
  refine kG ?_
  clear kG gG
  have hmade := ft.made
  have hsub := ft.sub
  refine wpN_call (codeN_of_tree ?_)
  show wpN _ _ (callAny (.type T) _) _ _ _
  refine wpN_any (wpAny_pure ⟨Code.quiet_builtin _ (by decide +kernel), show Builtin.Bytes.decodersThatHold.contains "type.__call__" = false by decide +kernel, codeN_builtin F.entry_type_call ?_⟩)
  rw [Around.under_plain (weight_type_call_type T args []) rfl]
  have h1 := ft.notType
  have h2 := ft.canCreate
  unfold Builtin.«type.__call__»
  dsimp only
  refine wpN_if_false (by simpa using h1) ?_
  refine wpN_if_false (by simpa using h2) ?_
  refine wpN_bindA (wpAny_of_eq hct ?_)
  refine wpN_bindA (wpAny_of_eq hmro ?_)
  refine wpN_if_false rfl ?_
  refine wpN_bindA (wpAny_of_eq hmade ?_)
  dsimp only
  refine wpN_bindA (wpAny_pure ?_)
  refine wpN_bindA (wpAny_holding (wpAny_call (codeAny_mono hnew fun r s₁ hr => ?_)))
  cases r with
  | error e => exact hr
  | ok fl =>
    cases fl with
    | ret obj =>
      refine cps fun gG kG => ?_
      obtain ⟨hT, hok, hsi⟩ := hnext _ _ hr
      refine kG ?_
      clear kG gG
      have hli := ft.init.lookup
      have hbi := ft.init.bind obj
      refine wpN_bindA ?_
      repeat (any_goals (first | assumption | wp_step))
      refine wpN_if_false rfl ?_
      refine wpN_bind (wpN_holding ?_)
      unfold callSpecial?
      refine wpN_bindA ?_
      repeat (any_goals (first | assumption | wp_step))
      refine wpN_holding (wpN_bindA (wpAny_of_eq hbi ?_))
      refine wpN_bind (wpN_call (codeN_mono (codeN_call_builtin ft.init.plain hdI entryI (ft.init.check _ _ _ _ _ _ _ _ hT hok hsi)) fun r₂ s₂ hr₂ => ?_))
      cases r₂ with
      | error e => exact hr₂
      | ok fl₂ =>
        cases fl₂ with
        | ret r =>
          refine cps fun gG kG => ?_
          obtain ⟨rfl, hq⟩ := hr₂
          refine kG ?_
          clear kG gG
          refine wpN_any ?_
          repeat (any_goals (first | assumption | wp_step))
          exact wpN_if_false rfl (wpN_any (wpAny_pure hq))
        | _ => exact hr₂.elim
    | _ => exact hr.elim
end
end
section
open Sem (wp)
noncomputable abbrev baObj (b : Array UInt8) : Obj := { cls := .type "bytearray", data := .bytearray b 0 }
theorem guard_none {Γ : PySem.Ctx} {A : Around} (hΓ : Γ.In A) (hg : A.guards = some []) (p : Pos) : ∀ q ∈ (Γ.code, p) :: Γ.below, q.1.isGuard = false := by
  have e := hΓ.2.2.2.1 [] hg
  refine cps fun gG kG => ?_
  obtain ⟨e1, e2⟩ := List.append_eq_nil_iff.mp e
  refine kG ?_
  clear kG gG
  intro q hq
  rcases List.mem_cons.mp hq with rfl | hq
  · cases hb : Γ.code.isGuard with
    | false => rfl
    | true => simp [Code.guards, hb] at e1
  · cases hb : q.1.isGuard with
    | false => rfl
    | true =>
      have : q.1 ∈ guardsOf Γ.below := List.mem_filter.mpr ⟨List.mem_map_of_mem hq, hb⟩
      rw [e2] at this; cases this
theorem dite_neg {α : Sort _} {c : Prop} [d : Decidable c] {t : c → α} {e : ¬c → α} {b : α} (h : ¬c) (k : e h = b) : dite c t e = b := (dif_neg h).trans k
theorem exportedN {M : Model} {A : Around} {E : Value → Shared → Prop} {s : Shared} {self : Value} {Q : Bool → Shared → Prop} (hg : A.guards = some []) (h : Q false s) : wpN M A (Builtin.Bytes.exported self) Q E s := fun Γ p hΓ hk => by
  unfold Builtin.Bytes.exported
  show Q (((Γ.code, p) :: Γ.below).any _) s
  rw [List.any_eq_false.mpr]
  · exact h
  · intro q hq
    have hgd := guard_none hΓ hg p q hq
    have hdc : holdsDec q.1 = false := by
      rcases List.mem_cons.mp hq with rfl | hq
      · exact hk.1
      · exact hk.2 q hq
    clear hq
    obtain ⟨c, p'⟩ := q
    refine ne_true_of_eq_false ?_
    cases c with
    | builtin id args =>
      have hn : ∀ x : String, Code.isGuard (.builtin x {}) = true → id ≠ x := fun x hx e => by subst e; exact Bool.noConfusion (hgd.symm.trans hx)
      delta Builtin.Bytes.exported.match_1
      refine dite_neg (hn "bytearray.__contains__" (by decide +kernel)) ?_
      refine dite_neg (hn "bytearray.__mod__" (by decide +kernel)) ?_
      refine dite_neg (hn "bytearray.__rmod__" (by decide +kernel)) ?_
      refine dite_neg (hn "_struct.pack_into.held" (by decide +kernel)) ?_
      refine dite_neg (hn "bytearray.find.held" (by decide +kernel)) ?_
      obtain ⟨pos, kw⟩ := args
      cases pos with
      | nil => rfl
      | cons v l =>
        show (_ && Builtin.Bytes.decodersThatHold.contains id) = false
        rw [show Builtin.Bytes.decodersThatHold.contains id = false from hdc, Bool.and_false]
    | _ => rfl
namespace FB
theorem mro : mroOf (.type "bytearray") = pure [.type "bytearray", .type "object"] := by rw [mroOf_type]; kernel_rfl
theorem lk_new : typeLookup (.type "bytearray") "__new__" = pure (some (.builtin "bytearray.__new__")) := by rw [typeLookup_type, builtinLookup_eq_fast]; kernel_rfl
theorem sl_init : Slot "bytearray" "__init__" "bytearray.__init__" := .of (owner := "bytearray") (n := "__init__") (by rw [typeLookup_type, builtinLookup_eq_fast]; kernel_rfl) (by decide +kernel) (by decide +kernel) (by decide +kernel)
  (by first | exact .inl (by decide +kernel) | exact .inr (by decide +kernel)) (by rw [isSubtype_type]; kernel_rfl)
theorem called : TypeCalled "bytearray" "bytearray.__new__" "bytearray.__init__" :=
  ⟨by decide +kernel, by decide +kernel, ⟨_, _, mro⟩, madeBy_type mro lk_new (by decide +kernel), by decide +kernel, by rw [isSubtype_type]; kernel_rfl, sl_init⟩
theorem tc0 : checkTypeCall "bytearray" ⟨[], []⟩ = pure () := by kernel_rfl
theorem tc1 (a : Value) : checkTypeCall "bytearray" ⟨[a], []⟩ = pure () := by kernel_rfl
theorem nc0 : checkBuiltinCall "bytearray.__new__" ⟨[.type "bytearray"], []⟩ = pure () := by kernel_rfl
theorem nc1 (a : Value) : checkBuiltinCall "bytearray.__new__" ⟨[.type "bytearray", a], []⟩ = pure () := by kernel_rfl
theorem en_new : entryFor table "bytearray.__new__" = some Builtin.«list.__new__» :=
  entryFor_alias (id' := "list.__new__") (by kernel_rfl) (by decide +kernel) (by decide +kernel) (by kernel_rfl)
theorem en_init : entryFor table "bytearray.__init__" = some Builtin.«bytearray.__init__» := entryFor_of_tree (by kernel_rfl)
theorem pl_new : plainId "bytearray.__new__" = true := by decide +kernel
set_option maxRecDepth 1000000 in
theorem ow_new : ("bytearray.__new__".splitOn ".__new__").headD "" = "bytearray" := by simp +decide [String.splitOn, String.splitOnAux]
theorem sub_self : isSubtype (.type "bytearray") (.type "bytearray") = pure true := by rw [isSubtype_type]; kernel_rfl
theorem ok0 (a : Value) : argsOk "bytearray.__init__" ⟨[a], []⟩ := by unfold argsOk; kernel_rfl
theorem ok1 (a b : Value) : argsOk "bytearray.__init__" ⟨[a, b], []⟩ := by unfold argsOk; kernel_rfl
theorem lk_rel : typeLookup (.type "bytearray") "__release_buffer__" = pure (some (.builtin "bytearray.__release_buffer__")) := by rw [typeLookup_type, builtinLookup_eq_fast]; kernel_rfl
theorem bd0 : Builtin.Bytes.bindOptional "bytearray.__init__" "bytearray" ["source", "encoding", "errors"] [] [] = pure [none, none, none] := by kernel_rfl
theorem bd1 (v : Value) : Builtin.Bytes.bindOptional "bytearray.__init__" "bytearray" ["source", "encoding", "errors"] [v] [] = pure [some v, none, none] := by kernel_rfl
theorem ew : "bytearray.__release_buffer__".endsWith ("." ++ "__release_buffer__") = true := by decide +kernel
theorem dr : "bytearray.__release_buffer__".dropRight ("__release_buffer__".length + 1) = "bytearray" := by decide +kernel
end FB
end
section
open Sem (wp)
section
variable {prog : Program} {w : World} {A : Around} {E : Value → Shared → Prop} {s : Shared} {h₀ : Heap} {L : Addr} {m : Str → Option Value} {news : List (Addr × Obj)}
theorem code_ba_new {a : List Value} (ha : a.length ≤ 1) {Q₁ : Value → Shared → Prop} (h : Q₁ (.ref s.heap.objs.size) { s with heap := s.heap.push (baObj #[]) }) :
    codeAny (model prog w) A (.call (.builtin "bytearray.__new__") ⟨.type "bytearray" :: a, []⟩) (wants Q₁ E) s := by
  refine codeAny_of_tree ?_
  show wpAny _ A.in1 (do checkBuiltinCall "bytearray.__new__" ⟨.type "bytearray" :: a, []⟩; again (.builtin "bytearray.__new__" ⟨.type "bytearray" :: a, []⟩)) _ _ s
  have hc : checkBuiltinCall "bytearray.__new__" ⟨.type "bytearray" :: a, []⟩ = pure () := by
    cases a with
    | nil => exact FB.nc0
    | cons x l =>
      cases l with
      | nil => exact FB.nc1 x
      | cons y l => exact absurd (Nat.le_of_succ_le_succ ha) (Nat.not_succ_le_zero _)
  refine wpAny_bind (wpAny_of_eq hc (wpAny_pure ⟨plainId_quiet FB.pl_new _, codeAny_builtin_stack FB.en_new rfl fun p st => ?_⟩))
  rw [Around.under_plainId FB.pl_new _]
  have hsub := FB.sub_self
  have hown := FB.ow_new
  refine cps fun gG kG => ?_
  obtain ⟨hp, g, d, tk, os⟩ := s
  refine kG ?_
  clear kG gG
  simp only [hown]
  wp_walk
  exact h
theorem own_rel {b : Addr} {o : Obj} (hb : s.heap.get? b = some o) (hc : o.cls = .type "bytearray") {Q : Bool → Shared → Prop} (h : Q false s) : wpAny (model prog w) A (Builtin.Bytes.ownRelease (.ref b)) Q E s := by
  have hT : s.TypeIs (.ref b) "bytearray" := ⟨o, hb, hc⟩
  have hl := FB.lk_rel
  have hsub := FB.sub_self
  unfold Builtin.Bytes.ownRelease Builtin.Bytes.slotIsOwn
  refine wpAny_bind (wpAny_bind (wpAny_specialOf hT hl ?_))
  dsimp only
  rw [if_neg (by rw [FB.ew]; decide), FB.dr]
  refine wpAny_isInstance hT hsub ?_
  exact wpAny_pure h
theorem bufferSelf {b : Addr} {o : Obj} (hb : s.heap.get? b = some o) {arr : Array UInt8} (hd : o.data = .bytearray arr 0) {Q : Array UInt8 → Shared → Prop} (h : Q arr s) : wpAny (model prog w) A (Builtin.Bytes.payload (.ref b)) Q E s := by
  unfold Builtin.Bytes.payload Builtin.Bytes.payload?
  refine wpAny_bind (wpAny_bind (wpAny_load hb ?_))
  rw [hd]
  exact wpAny_pure (wpAny_pure h)
theorem exportsZero {b : Addr} {o : Obj} (hb : s.heap.get? b = some o) {arr : Array UInt8} (hd : o.data = .bytearray arr 0) {Q : Nat → Shared → Prop} (h : Q 0 s) : wpAny (model prog w) A (Builtin.Bytes.exportsOf (.ref b)) Q E s := by
  unfold Builtin.Bytes.exportsOf
  refine wpAny_bind (wpAny_load hb ?_)
  rw [hd]
  exact wpAny_pure h
theorem writeBa {b : Addr} {arr : Array UInt8} (hb : s.heap.get? b = some (baObj arr)) {f : Array UInt8 → Array UInt8} (hsz : (f arr).size ≤ sizeLine) {Q : Unit → Shared → Prop} (h : Q () { s with heap := s.heap.update b (Obj.mapBytearray f) }) :
    wpAny (model prog w) A (Builtin.Bytes.write (.ref b) f) Q E s := by
  show wpAny _ _ (updateBytearray b f) _ _ _
  unfold updateBytearray lookBehind
  refine wpAny_bind (wpAny_load hb ?_)
  dsimp only
  refine wpAny_bind (wpAny_update hb ?_)
  refine wpAny_bind (wpAny_loadPart (Heap.get?_update_self _ hb rfl) ?_)
  rw [show (Obj.mapBytearray f (baObj arr)).data.pastItsLine = none from if_neg (Nat.not_lt.mpr hsz)]
  exact wpAny_pure h
theorem clearN (hg : A.guards = some []) {b : Addr} {arr : Array UInt8} (hb : s.heap.get? b = some (baObj arr)) {Q : Bool → Shared → Prop} (h : Q false s) :
    wpN (model prog w) A (Builtin.Bytes.exported (.ref b) <||> do return (← Builtin.Bytes.exportsOf (.ref b)) > 0) Q E s := by
  unfold orM
  refine wpN_bind (exportedN hg ?_)
  exact wpN_any (wpAny_bind (exportsZero hb rfl (wpAny_pure h)))
theorem resizeN (hg : A.guards = some []) {b : Addr} {arr : Array UInt8} (hb : s.heap.get? b = some (baObj arr)) {Q : Unit → Shared → Prop} (h : Q () s) :
    wpN (model prog w) A (Builtin.Bytes.checkResize (.ref b)) Q E s := by
  unfold Builtin.Bytes.checkResize
  refine wpN_bind (clearN hg hb ?_)
  exact wpN_if_false rfl (wpN_any (wpAny_pure h))
theorem ba_init (hg : A.guards = some []) {b : Addr} {arr : Array UInt8} (hb : s.heap.get? b = some (baObj arr)) {Q : Fin → Shared → Prop} (h : Q (.done (.ret .none)) { s with heap := s.heap.update b (Obj.mapBytearray fun _ => #[]) }) :
    wpN (model prog w) A (Builtin.«bytearray.__init__» ⟨[.ref b], []⟩) Q E s := by
  unfold Builtin.«bytearray.__init__»
  dsimp only
  refine wpN_bindA (own_rel hb rfl ?_)
  refine wpN_if_false rfl ?_
  refine wpN_bindA (wpAny_of_eq FB.bd0 ?_)
  dsimp only
  refine wpN_bindA (wpAny_of_eq (a := ()) rfl ?_)
  refine wpN_bindA (wpAny_of_eq (a := ()) rfl ?_)
  refine wpN_bind (clearN hg hb ?_)
  refine wpN_if_false rfl ?_
  refine wpN_bindA (writeBa hb (by decide) ?_)
  exact wpN_any (wpAny_pure h)
theorem ba_new0 (hg : A.guards = some []) (F : Fr h₀ L s.heap m) (N : News h₀ L s.heap news) {Q : Value → Shared → Prop}
    (h : ∀ b h', Fr h₀ L h' m → News h₀ L h' ((b, baObj #[]) :: news) → (∀ p ∈ news, p.1 < b) → Q (.ref b) { s with heap := h' }) :
    wpN (model prog w) A (call (.type "bytearray") []) Q E s := by
  refine callTypeN (Q₁ := fun obj s₁ => obj = .ref s.heap.objs.size ∧ s₁ = { s with heap := s.heap.push (baObj #[]) }) FB.called FB.tc0 FB.en_init (by decide +kernel) (code_ba_new (by decide) ⟨rfl, rfl⟩) fun obj s₁ h₁ => ?_
  refine cps fun gG kG => ?_
  obtain ⟨rfl, rfl⟩ := h₁
  refine kG ?_
  clear kG gG
  have hb : (s.heap.push (baObj #[])).get? s.heap.objs.size = some (baObj #[]) := Heap.get?_push_at rfl rfl
  refine ⟨⟨_, hb, rfl⟩, FB.ok0 _, ba_init (by exact hg) hb ?_⟩
  have F1 := F.push (baObj #[])
  have N1 := N.push F (baObj #[])
  have lt : ∀ p ∈ news, p.1 < s.heap.objs.size := fun p hp => Heap.lt_size (N p hp).1
  refine cps fun gG kG => ?_
  obtain ⟨F2, N2⟩ := updF_ledger (f := Obj.mapBytearray fun _ => #[]) (o' := baObj #[]) (UpdF.head fun p hp => Nat.ne_of_lt (lt p hp)) F1 N1 rfl rfl
  refine kG ?_
  clear kG gG
  exact ⟨rfl, h _ _ F2 N2 lt⟩
end
end
section
open Sem (wp)
namespace FB
theorem sl_append : Slot "bytearray" "append" "bytearray.append" := .of (owner := "bytearray") (n := "append") (by rw [typeLookup_type, builtinLookup_eq_fast]; kernel_rfl) (by decide +kernel) (by decide +kernel) (by decide +kernel)
  (by first | exact .inl (by decide +kernel) | exact .inr (by decide +kernel)) (by rw [isSubtype_type]; kernel_rfl)
theorem sl_extend : Slot "bytearray" "extend" "bytearray.extend" := .of (owner := "bytearray") (n := "extend") (by rw [typeLookup_type, builtinLookup_eq_fast]; kernel_rfl) (by decide +kernel) (by decide +kernel) (by decide +kernel)
  (by first | exact .inl (by decide +kernel) | exact .inr (by decide +kernel)) (by rw [isSubtype_type]; kernel_rfl)
theorem ty_append : typeOf (.builtin "bytearray.append") = pure (.type "method_descriptor") := by show builtinType "bytearray.append" = _; rw [builtinType_eq_fast]; kernel_rfl
theorem ty_extend : typeOf (.builtin "bytearray.extend") = pure (.type "method_descriptor") := by show builtinType "bytearray.extend" = _; rw [builtinType_eq_fast]; kernel_rfl
theorem en_append : entryFor table "bytearray.append" = some Builtin.«bytearray.append» := entryFor_of_tree (by kernel_rfl)
theorem en_extend : entryFor table "bytearray.extend" = some Builtin.«bytearray.extend» := entryFor_of_tree (by kernel_rfl)
theorem ok_append (a b : Value) : argsOk "bytearray.append" ⟨[a, b], []⟩ := by unfold argsOk; kernel_rfl
theorem ok_extend (a b : Value) : argsOk "bytearray.extend" ⟨[a, b], []⟩ := by unfold argsOk; kernel_rfl
theorem plainAttrs : PlainAttrs "bytearray" := ⟨⟨"bytearray.__getattribute__", by rw [typeLookup_type, builtinLookup_eq_fast]; kernel_rfl, by decide +kernel⟩, by rw [typeLookup_type, builtinLookup_eq_fast]; kernel_rfl⟩
theorem by_buf : typeLookup (.type "bytes") "__buffer__" = pure (some (.builtin "bytes.__buffer__")) := by rw [typeLookup_type, builtinLookup_eq_fast]; kernel_rfl
theorem by_rel : typeLookup (.type "bytes") "__release_buffer__" = pure none := by rw [typeLookup_type, builtinLookup_eq_fast]; kernel_rfl
theorem by_sub : isSubtype (.type "bytes") (.type "bytes") = pure true := by rw [isSubtype_type]; kernel_rfl
theorem bw : "bytes.__buffer__".endsWith ("." ++ "__buffer__") = true := by decide +kernel
theorem br : "bytes.__buffer__".dropRight ("__buffer__".length + 1) = "bytes" := by decide +kernel
end FB
section
variable {prog : Program} {w : World} {M : Model} {A : Around} {E : Value → Shared → Prop} {s : Shared} {h₀ : Heap} {L : Addr} {m : Str → Option Value} {news : List (Addr × Obj)}
theorem ba_method {b : Addr} {arr : Array UInt8} {name : Str} {id : String} {pl : Sem Bool} {Q : Value × List Value → Shared → Prop} (N : News h₀ L s.heap news) (hm : (b, baObj arr) ∈ news) (slot : Slot "bytearray" name id) (hty : typeOf (.builtin id) = pure (.type "method_descriptor"))
    (h : Q (.builtin id, [.ref b]) s) : wpAny (model prog w) A (getMethod (.ref b) name pl) Q E s :=
  getMethod_builtin ⟨_, (N _ hm).1, rfl⟩ FB.plainAttrs slot hty (fun a e => by cases e; exact ⟨_, (N _ hm).1, rfl⟩) h
theorem bytes_buffer {b : Array UInt8} {t : Tok} {Q : Option (Array UInt8) → Shared → Prop} {id : String} {fl : Bool} (h : Q (some b) s) : wpAny (model prog w) A (Builtin.Bytes.buffer? id (.bytes b t) fl) Q E s := by
  have hT : s.TypeIs (.bytes b t) "bytes" := PySem.W.typeIs_bytes _ _ _
  have own : ∀ {Q : Bool → Shared → Prop}, Q true s → wpAny (model prog w) A (Builtin.Bytes.slotIsOwn (.bytes b t) "__buffer__") Q E s := fun h => by
    unfold Builtin.Bytes.slotIsOwn
    refine wpAny_bind (wpAny_specialOf hT FB.by_buf ?_)
    dsimp only
    rw [if_neg (by rw [FB.bw]; decide), FB.br]
    exact wpAny_isInstance hT FB.by_sub h
  unfold Builtin.Bytes.buffer?
  refine wpAny_bind (wpAny_specialOf hT FB.by_buf ?_)
  dsimp only
  refine wpAny_bind (own ?_)
  rw [if_neg (by decide)]
  refine wpAny_bind (wpAny_specialOf hT FB.by_buf ?_)
  refine wpAny_bind (m := Builtin.Bytes.ownRelease (.bytes b t)) ?_
  · unfold Builtin.Bytes.ownRelease Builtin.Bytes.slotIsOwn
    refine wpAny_bind (wpAny_bind (wpAny_specialOf hT FB.by_rel ?_))
    refine wpAny_pure (wpAny_pure ?_)
    show wpAny _ _ (if false = true then _ else _) _ _ _
    rw [if_neg Bool.false_ne_true]
    exact wpAny_bind (wpAny_bind (wpAny_pure (wpAny_pure (wpAny_pure h))))
theorem take_bytes {b : Array UInt8} {t : Tok} {Q : Option (Array UInt8 × Option Value) → Shared → Prop} {id : String} {fl : Int} (h : Q (some (b, none)) s) : wpAny (model prog w) A (Builtin.Bytes.takeBufferQuiet? id (.bytes b t) fl) Q E s := by
  have hT : s.TypeIs (.bytes b t) "bytes" := PySem.W.typeIs_bytes _ _ _
  have own : ∀ {Q : Bool → Shared → Prop} {E : Value → Shared → Prop}, Q true s → wpAny (model prog w) A (Builtin.Bytes.slotIsOwn (.bytes b t) "__buffer__") Q E s := fun h => by
    unfold Builtin.Bytes.slotIsOwn
    refine wpAny_bind (wpAny_specialOf hT FB.by_buf ?_)
    dsimp only
    rw [if_neg (by rw [FB.bw]; decide), FB.br]
    exact wpAny_isInstance hT FB.by_sub h
  unfold Builtin.Bytes.takeBufferQuiet? Builtin.Bytes.takeBuffer?
  refine wpAny_bind (wpAny_attempt ?_)
  refine wpAny_bind (wpAny_specialOf hT FB.by_buf ?_)
  dsimp only
  refine wpAny_bind (own ?_)
  rw [if_neg (by decide)]
  refine wpAny_bind (wpAny_specialOf hT FB.by_buf ?_)
  exact wpAny_bind (bytes_buffer (wpAny_pure (wpAny_pure h)))
theorem ba_extend (hg : A.guards = some []) {b : Addr} {arr more : Array UInt8} {t : Tok} {g : Obj → List (Addr × Obj)} (F : Fr h₀ L s.heap m) (N : News h₀ L s.heap news) (U : UpdF b (baObj arr) news g) (hz : (arr ++ more).size ≤ sizeLine) {Q : Value → Shared → Prop}
    (h : ∀ h', Fr h₀ L h' m → News h₀ L h' (g (baObj (arr ++ more))) → Q .none { s with heap := h' }) :
    wpN (model prog w) A (call (.builtin "bytearray.extend") [.ref b, .bytes more t]) Q E s := by
  have hb := (N _ (updF_mem U)).1
  have hT : s.TypeIs (.ref b) "bytearray" := ⟨_, hb, rfl⟩
  have hm : s.TypeIs (.bytes more t) "bytes" := PySem.W.typeIs_bytes _ _ _
  refine wpN_call (codeN_call_builtin FB.sl_extend.plain (by decide +kernel) FB.en_extend (FB.sl_extend.check _ _ _ _ _ _ _ _ hT (FB.ok_extend _ _) ?_))
  unfold Builtin.«bytearray.extend» selfAndOne
  refine wpN_bindA (wpAny_bind (wpAny_of_eq (a := ()) rfl (wpAny_pure ?_)))
  dsimp only
  refine wpN_bindA (wpAny_specialOf hm FB.by_buf ?_)
  refine wpN_if_true rfl ?_
  refine wpN_bindA (wpAny_rule ?_)
  refine wpN_bindA (bufferSelf hb rfl ?_)
  refine wpN_bindA (take_bytes ?_)
  dsimp only
  refine wpN_if_true rfl ?_
  show wpN _ _ (do
    if !more.isEmpty then Builtin.Bytes.checkResize (.ref b)
    Builtin.Bytes.write (.ref b) (· ++ more)
    ret .none) _ _ _
  have fin : wpN (model prog w) A.in1 (do
    Builtin.Bytes.write (.ref b) (· ++ more)
    ret .none) (fun fin s' => match fin with | .done f => (match (Except.ok f : Result) with | .ok (.ret v) => Q v s' | .ok _ => False | .error e => E e s') | .again c' => c'.quiet = true ∧ holdsDec c' = false ∧ codeN (model prog w) A c' (fun r s' => match r with | .ok (.ret v) => Q v s' | .ok _ => False | .error e => E e s') s') (fun e s' => E e s') s := by
    refine wpN_bindA (writeBa hb hz ?_)
    obtain ⟨F2, N2⟩ := updF_ledger (f := Obj.mapBytearray fun x => x ++ more) (o' := baObj (arr ++ more)) U F N rfl rfl
    exact wpN_any (wpAny_pure (h _ F2 N2))
  cases hE : more.isEmpty with
  | true => exact wpN_if_false rfl fin
  | false => exact wpN_if_true rfl (wpN_bind (resizeN (A := A.in1) hg hb fin))
theorem ba_append (hg : A.guards = some []) {b : Addr} {arr : Array UInt8} {k : Int} {t : Tok} {g : Obj → List (Addr × Obj)} (F : Fr h₀ L s.heap m) (N : News h₀ L s.heap news) (U : UpdF b (baObj arr) news g) (hz : arr.size + 1 ≤ sizeLine) (h0 : 0 ≤ k) (h1 : k < 256) {Q : Value → Shared → Prop}
    (h : ∀ h', Fr h₀ L h' m → News h₀ L h' (g (baObj (arr.push k.toNat.toUInt8))) → Q .none { s with heap := h' }) :
    wpN (model prog w) A (call (.builtin "bytearray.append") [.ref b, .int k t]) Q E s := by
  have hb := (N _ (updF_mem U)).1
  have hT : s.TypeIs (.ref b) "bytearray" := ⟨_, hb, rfl⟩
  refine wpN_call (codeN_call_builtin FB.sl_append.plain (by decide +kernel) FB.en_append (FB.sl_append.check _ _ _ _ _ _ _ _ hT (FB.ok_append _ _) ?_))
  unfold Builtin.«bytearray.append» selfAndOne
  refine wpN_bindA (wpAny_bind (wpAny_of_eq (a := ()) rfl (wpAny_pure ?_)))
  dsimp only
  unfold Builtin.Bytes.byteValue
  refine wpN_bindA (wpAny_bind (wpAny_of_eq (a := k) rfl ?_))
  rw [if_neg (by simp only [Bool.or_eq_true, decide_eq_true_eq]; lia)]
  refine wpAny_pure ?_
  refine wpN_bind (resizeN (A := A.in1) (by exact hg) (by exact hb) ?_)
  refine wpN_bindA (writeBa hb (by rw [Array.size_push]; exact hz) ?_)
  refine cps fun gG kG => ?_
  obtain ⟨F2, N2⟩ := updF_ledger (f := Obj.mapBytearray fun x => x.push k.toNat.toUInt8) (o' := baObj (arr.push k.toNat.toUInt8)) U F N rfl rfl
  refine kG ?_
  clear kG gG
  exact wpN_any (wpAny_pure (h _ F2 N2))
end
theorem band32 {k : Int} (h0 : 0 ≤ k) (h1 : k < 4294967296) : Builtin.bitAnd k 4294967295 = k := by
  refine cps fun gG kG => ?_
  obtain ⟨n, rfl⟩ := Int.eq_ofNat_of_zero_le h0
  refine kG ?_
  clear kG gG
  rw [PyProof.Rows.bitAnd_pp h0 (by decide)]
  have e : n &&& 4294967295 = n % 4294967296 := Nat.and_two_pow_sub_one_eq_mod n 32
  show ((n &&& 4294967295 : Nat) : Int) = n
  rw [e, Nat.mod_eq_of_lt (by lia)]
theorem band16 {k : Int} (h0 : 0 ≤ k) (h1 : k < 65536) : Builtin.bitAnd k 65535 = k := by
  refine cps fun gG kG => ?_
  obtain ⟨n, rfl⟩ := Int.eq_ofNat_of_zero_le h0
  refine kG ?_
  clear kG gG
  rw [PyProof.Rows.bitAnd_pp h0 (by decide)]
  have e : n &&& 65535 = n % 65536 := Nat.and_two_pow_sub_one_eq_mod n 16
  show ((n &&& 65535 : Nat) : Int) = n
  rw [e, Nat.mod_eq_of_lt (by lia)]
theorem band8 {k : Int} (h0 : 0 ≤ k) (h1 : k < 256) : Builtin.bitAnd k 255 = k := by
  refine cps fun gG kG => ?_
  obtain ⟨n, rfl⟩ := Int.eq_ofNat_of_zero_le h0
  refine kG ?_
  clear kG gG
  rw [PyProof.Rows.bitAnd_pp h0 (by decide)]
  have e : n &&& 255 = n % 256 := Nat.and_two_pow_sub_one_eq_mod n 8
  show ((n &&& 255 : Nat) : Int) = n
  rw [e, Nat.mod_eq_of_lt (by lia)]
theorem wpN_nil {M : Model} {A : Around} {E : Value → Shared → Prop} {s : Shared} {env : Env} {Q : Flow → Shared → Prop} (h : Q .next s) : wpN M A (execs [] env) Q E s := wpN_any (wpAny_execs_nil h)
theorem bInts_size (b : Array UInt8) : (KBw.bInts b).length = b.size := by simp [KBw.bInts]
theorem bInts_append (a b : Array UInt8) : KBw.bInts (a ++ b) = KBw.bInts a ++ KBw.bInts b := by simp [KBw.bInts]
theorem bInts_push (a : Array UInt8) {k : Int} (h0 : 0 ≤ k) (h1 : k < 256) : KBw.bInts (a.push k.toNat.toUInt8) = KBw.bInts a ++ [k] := by
  have e : ((k.toNat.toUInt8).toNat : Int) = k := by
    have : (k.toNat.toUInt8).toNat = k.toNat % 256 := by simp
    rw [this]; lia
  unfold KBw.bInts
  rw [Array.toList_push, List.map_append]
  show _ ++ [((k.toNat.toUInt8).toNat : Int)] = _
  rw [e]
theorem bInts_extract (a : Array UInt8) (i j : Nat) : KBw.bInts (a.extract i j) = ((KBw.bInts a).drop i).take (j - i) := by
  unfold KBw.bInts
  rw [Array.toList_extract, List.extract_eq_take_drop, List.map_take, List.map_drop]
end
section
noncomputable def pairDat (p : Int × Int) : Dat := .tuple [.int p.1, .int p.2]
noncomputable def goodPair (p : Int × Int) : Prop := 1 ≤ p.2 ∧ p.2 < 4294967296 ∧ 0 ≤ p.1 ∧ p.1 + p.2 ≤ 4294967296
noncomputable instance (p : Int × Int) : Decidable (goodPair p) := by unfold goodPair; infer_instance
noncomputable def flatW (rows : List (Int × Int)) : List Int := rows.flatMap fun r => KTBy.little 4 r.1 ++ KTBy.little 4 r.2
noncomputable def setHead (u : Int) : List Int := KTBy.little 4 0 ++ KTBy.little 2 2 ++ KTBy.little 4 u ++ [4] ++ [0] ++ KTBy.little 4 0
noncomputable def setW (u : Int) (rows : List (Int × Int)) : List Int := KTBy.little 4 (20 + 8 * rows.length) ++ KTBy.little 2 2 ++ KTBy.little 4 u ++ [4] ++ [0] ++ KTBy.little 4 0 ++ flatW rows ++ KTBy.little 4 0 ++ KTBy.little 4 0
noncomputable def wsM (vw vo vr vst : Value) (m₂ : Str → Option Value) : Str → Option Value :=
  fun z => if z = Str.ofString "writer" then some vw else if z = Str.ofString "offset" then some vo else if z = Str.ofString "rows" then some vr else if z = Str.ofString "start" then some vst else m₂ z
structure WsJ (b : Addr) (tl : List (Addr × Obj)) (vw vo vr vst : Value) (base : List Int) (rows : List (Int × Int)) (i : Nat) (m' : Str → Option Value) (nx : List (Addr × Obj)) (arr : Array UInt8) : Prop where
  led : nx = (b, baObj arr) :: tl
  oct : KBw.bInts arr = base ++ flatW (rows.take i)
  size : arr.size = base.length + 8 * i
  good : ∀ r ∈ rows.take i, goodPair r
  loc : wsM vw vo vr vst m' = m'
noncomputable def WsE (b : Addr) (tl : List (Addr × Obj)) (vw vo vr : Value) (n : Int) (base : List Int) (rows : List (Int × Int)) (i : Nat) (m' : Str → Option Value) (nx : List (Addr × Obj)) : Prop := ∃ tst arr, WsJ b tl vw vo vr (.int n tst) base rows i m' nx arr
theorem WsE.mk {b : Addr} {tl : List (Addr × Obj)} {vw vo vr : Value} {n : Int} {base : List Int} {rows : List (Int × Int)} {i : Nat} {m' : Str → Option Value} {nx : List (Addr × Obj)} {tst : Tok} {arr : Array UInt8} (J : WsJ b tl vw vo vr (.int n tst) base rows i m' nx arr) : WsE b tl vw vo vr n base rows i m' nx := ⟨_, _, J⟩
theorem WsE.out {b : Addr} {tl : List (Addr × Obj)} {vw vo vr : Value} {n : Int} {base : List Int} {rows : List (Int × Int)} {i : Nat} {m' : Str → Option Value} {nx : List (Addr × Obj)} {gG : Prop} (hh : WsE b tl vw vo vr n base rows i m' nx) (kk : ∀ tst arr, WsJ b tl vw vo vr (.int n tst) base rows i m' nx arr → gG) : gG := by
  obtain ⟨tst, arr, J⟩ := hh
  exact kk tst arr J
theorem pair_get {tl : List (Addr × Obj)} {vs : List Value} {rows : List (Int × Int)} (hda : DatAll tl vs (rows.map pairDat)) {i : Nat} {v : Value} (h : vs[i]? = some v) :
    ∃ r T n tb tz, rows[i]? = some r ∧ v = .ref T ∧ (T, ({ cls := .type "tuple", data := .seq #[.int r.1 tb, .int r.2 tz] n } : Obj)) ∈ tl := by
  obtain ⟨r, hr, hd⟩ := dat_map hda h
  obtain ⟨T, n, v1, v2, rfl, hm, a1, a2⟩ := inv_two hd
  obtain ⟨tb, rfl⟩ := inv_int a1
  obtain ⟨tz, rfl⟩ := inv_int a2
  exact ⟨r, T, n, tb, tz, hr, rfl, hm⟩
theorem flatW_snoc (rows : List (Int × Int)) {i : Nat} {r : Int × Int} (h : rows[i]? = some r) : flatW (rows.take (i + 1)) = flatW (rows.take i) ++ KTBy.little 4 r.1 ++ KTBy.little 4 r.2 := by
  rw [List.take_succ, h]
  simp [flatW, List.flatMap_append]
theorem wsM_cut {vw vo vr vst : Value} {m : Str → Option Value} (h1 : m (Str.ofString "writer") = some vw) (h2 : m (Str.ofString "offset") = some vo) (h3 : m (Str.ofString "rows") = some vr) (h4 : m (Str.ofString "start") = some vst) : wsM vw vo vr vst m = m := by
  funext z
  simp only [wsM]
  split
  · rename_i e; rw [e, h1]
  split
  · rename_i e; rw [e, h2]
  split
  · rename_i e; rw [e, h3]
  split
  · rename_i e; rw [e, h4]
  · rfl
theorem datAll_len {tl : List (Addr × Obj)} {vs : List Value} {ds : List Dat} (h : DatAll tl vs ds) : vs.length = ds.length := DatAll.length h
theorem flatW_len (rows : List (Int × Int)) : (flatW rows).length = 8 * rows.length := by
  induction rows with
  | nil => rfl
  | cons r rows ih =>
    show (KTBy.little 4 r.1 ++ KTBy.little 4 r.2 ++ flatW rows).length = _
    simp only [List.length_append, KTBy.little_length, ih, List.length_cons]
    lia
theorem set_patch {A : List Int} {u k : Int} {rows : List (Int × Int)} {a : Int} (ha : a = A.length) (hk : k = 20 + 8 * rows.length) :
    (A ++ setHead u ++ flatW rows ++ KTBy.little 4 0 ++ KTBy.little 4 0).take a.toNat ++ KTBy.little 4 k ++ (A ++ setHead u ++ flatW rows ++ KTBy.little 4 0 ++ KTBy.little 4 0).drop (a + 4).toNat = A ++ setW u rows := by
  refine cps fun gG kG => ?_
  subst ha hk
  refine kG ?_
  clear kG gG
  have e : A ++ setHead u ++ flatW rows ++ KTBy.little 4 0 ++ KTBy.little 4 0 = A ++ (KTBy.little 4 0 ++ (KTBy.little 2 2 ++ KTBy.little 4 u ++ [4] ++ [0] ++ KTBy.little 4 0 ++ flatW rows ++ KTBy.little 4 0 ++ KTBy.little 4 0)) := by
    simp [setHead]
  have e2 : ((A.length : Int) + 4).toNat = A.length + 4 := by lia
  rw [e, Int.toNat_natCast, e2, List.take_left, ← List.drop_drop, List.drop_left]
  have e3 : (KTBy.little 4 0 ++ (KTBy.little 2 2 ++ KTBy.little 4 u ++ [4] ++ [0] ++ KTBy.little 4 0 ++ flatW rows ++ KTBy.little 4 0 ++ KTBy.little 4 0)).drop 4 = KTBy.little 2 2 ++ KTBy.little 4 u ++ [4] ++ [0] ++ KTBy.little 4 0 ++ flatW rows ++ KTBy.little 4 0 ++ KTBy.little 4 0 := List.drop_left' (KTBy.little_length 4 0)
  rw [e3]
  simp [setW]
end
section
noncomputable abbrev Grps := List (Int × List (Int × Int))
noncomputable def groupIn (u : Int) (p : Int × Int) : Grps → Grps
  | [] => [(u, [p])]
  | (k, ps) :: r => if k = u then (k, ps ++ [p]) :: r else (k, ps) :: groupIn u p r
noncomputable def groups (rows : List Row) : Grps := rows.foldl (fun G r => groupIn r.2.2 (r.1, r.2.1) G) []
theorem groups_snoc (rows : List Row) {i : Nat} {r : Row} (h : rows[i]? = some r) : groups (rows.take (i + 1)) = groupIn r.2.2 (r.1, r.2.1) (groups (rows.take i)) := by
  unfold groups
  rw [List.take_succ, h, List.foldl_append]
  rfl
inductive Grp (tup : List (Addr × Obj)) : Grps → List (Int × Value) → List (Addr × Obj) → Prop
  | nil : Grp tup [] [] []
  | cons {G kvs ls u ps l vs nn} : DatAll tup vs (ps.map pairDat) → Grp tup G kvs ls → Grp tup ((u, ps) :: G) ((u, .ref l) :: kvs) ((l, listOf vs.toArray nn) :: ls)
theorem Grp.mono {tup tup' : List (Addr × Obj)} (hs : ∀ p ∈ tup, p ∈ tup') {G : Grps} {kvs : List (Int × Value)} {ls : List (Addr × Obj)} (g : Grp tup G kvs ls) : Grp tup' G kvs ls := by
  induction g with
  | nil => exact .nil
  | cons h _ ih => exact .cons (h.mono hs) ih
theorem Grp.keys {tup : List (Addr × Obj)} {G : Grps} {kvs : List (Int × Value)} {ls : List (Addr × Obj)} (g : Grp tup G kvs ls) : kvs.map (·.1) = G.map (·.1) := by
  induction g with
  | nil => rfl
  | cons h _ ih => simp [ih]
theorem Grp.len {tup : List (Addr × Obj)} {G : Grps} {kvs : List (Int × Value)} {ls : List (Addr × Obj)} (g : Grp tup G kvs ls) : kvs.length = G.length := by
  have := congrArg List.length g.keys
  simpa using this
theorem pairs_snoc {tup tup' : List (Addr × Obj)} (hs : ∀ p ∈ tup, p ∈ tup') {vs : List Value} {ps : List (Int × Int)} (h : DatAll tup vs (ps.map pairDat)) {T : Addr} {n : Nat} {b z : Int} {tb tz : Tok} (hT : (T, ({ cls := .type "tuple", data := .seq #[.int b tb, .int z tz] n } : Obj)) ∈ tup') :
    DatAll tup' (vs ++ [.ref T]) ((ps ++ [(b, z)]).map pairDat) := by
  rw [List.map_append]
  exact DatAll.append (h.mono hs) (.one (.tuple (vs := [_, _]) hT (.cons (.int _ _) (.cons (.int _ _) .nil))))
theorem grp_at {tup : List (Addr × Obj)} {G : Grps} {kvs : List (Int × Value)} {ls : List (Addr × Obj)} (g : Grp tup G kvs ls) {u : Int} (hu : u ∈ G.map (·.1)) :
    ∃ l vs nn ls1 ls2, valueAt kvs u = some (.ref l) ∧ ls = ls1 ++ (l, listOf vs.toArray nn) :: ls2 ∧ (∃ q ∈ G, vs.length = q.2.length) ∧
      ∀ (tup' : List (Addr × Obj)) (T : Addr) (n : Nat) (b z : Int) (tb tz : Tok) (nn' : Nat), (∀ p ∈ tup, p ∈ tup') → (T, ({ cls := .type "tuple", data := .seq #[.int b tb, .int z tz] n } : Obj)) ∈ tup' →
        Grp tup' (groupIn u (b, z) G) kvs (ls1 ++ (l, listOf (vs ++ [.ref T]).toArray nn') :: ls2) := by
  induction g with
  | nil => cases hu
  | @cons G kvs ls k ps l vs nn hda g ih =>
    by_cases hk : k = u
    · subst hk
      refine ⟨l, vs, nn, [], ls, ?_, rfl, ⟨_, .head _, by rw [datAll_len hda, List.length_map]⟩, ?_⟩
      · simp [valueAt]
      · intro tup' T n b z tb tz nn' hs hT
        simp only [groupIn, if_true, List.nil_append]
        exact .cons (pairs_snoc hs hda hT) (g.mono hs)
    · have hu' : u ∈ G.map (·.1) := by
        rcases List.mem_cons.mp hu with e | e
        · exact absurd e.symm hk
        · exact e
      refine cps fun gG kG => ?_
      obtain ⟨l', vs', nn', ls1, ls2, q1, q2, ⟨qq, q4, q5⟩, q3⟩ := ih hu'
      refine kG ?_
      clear kG gG
      refine ⟨l', vs', nn', (l, listOf vs.toArray nn) :: ls1, ls2, ?_, by rw [q2]; rfl, ⟨qq, .tail _ q4, q5⟩, ?_⟩
      · simp only [valueAt, List.find?_cons, decide_eq_false hk]
        exact q1
      · intro tup' T n b z tb tz nn' hs hT
        simp only [groupIn, if_neg hk, List.cons_append]
        exact .cons (hda.mono hs) (q3 tup' T n b z tb tz nn' hs hT)
theorem grp_new {tup tup' : List (Addr × Obj)} (hs : ∀ p ∈ tup, p ∈ tup') {G : Grps} {kvs : List (Int × Value)} {ls : List (Addr × Obj)} (g : Grp tup G kvs ls) {u : Int} (hu : u ∉ G.map (·.1)) {l : Addr} {nn : Nat} {T : Addr} {n : Nat} {b z : Int} {tb tz : Tok}
    (hT : (T, ({ cls := .type "tuple", data := .seq #[.int b tb, .int z tz] n } : Obj)) ∈ tup') :
    valueAt kvs u = none ∧ Grp tup' (groupIn u (b, z) G) (stored kvs u (.ref l)) (ls ++ [(l, listOf [Value.ref T].toArray nn)]) := by
  have hk := g.keys
  have h1 : valueAt kvs u = none := by
    unfold valueAt
    rw [Option.map_eq_none_iff, List.find?_eq_none]
    intro kv hkv
    have : kv.1 ∈ G.map (·.1) := hk ▸ List.mem_map_of_mem hkv
    simp only [decide_eq_true_eq]
    intro e
    exact hu (e ▸ this)
  have h2 : stored kvs u (.ref l) = kvs ++ [(u, .ref l)] := by
    unfold stored
    rw [if_neg]
    intro hany
    obtain ⟨kv, hkv, e⟩ := List.any_eq_true.mp hany
    have : kv.1 ∈ G.map (·.1) := hk ▸ List.mem_map_of_mem hkv
    exact hu ((of_decide_eq_true e) ▸ this)
  refine ⟨h1, ?_⟩
  rw [h2]
  clear h1 h2 hk
  induction g with
  | nil => exact .cons (pairs_snoc (vs := []) (ps := []) hs .nil hT) .nil
  | @cons G kvs ls k ps l' vs nn' hda g ih =>
    have hk : ¬ k = u := fun e => hu (by rw [e]; exact .head _)
    simp only [groupIn, if_neg hk, List.cons_append]
    exact .cons (hda.mono hs) (ih fun h => hu (.tail _ h))
theorem grp_get {tup : List (Addr × Obj)} {G : Grps} {kvs : List (Int × Value)} {ls : List (Addr × Obj)} (g : Grp tup G kvs ls) (hn : (kvs.map (·.1)).Nodup) {i : Nat} {k : Int} {v : Value} (h : kvs[i]? = some (k, v)) :
    ∃ ps l vs nn, G[i]? = some (k, ps) ∧ valueAt kvs k = some (.ref l) ∧ (l, listOf vs.toArray nn) ∈ ls ∧ DatAll tup vs (ps.map pairDat) := by
  induction g generalizing i with
  | nil => simp at h
  | @cons G kvs ls u ps l vs nn hda g ih =>
    simp only [List.map_cons, List.nodup_cons] at hn
    cases i with
    | zero =>
      simp only [List.getElem?_cons_zero, Option.some.injEq, Prod.mk.injEq] at h
      refine cps fun gG kG => ?_
      obtain ⟨rfl, rfl⟩ := h
      refine kG ?_
      clear kG gG
      exact ⟨ps, l, vs, nn, rfl, by simp [valueAt], .head _, hda⟩
    | succ i =>
      simp only [List.getElem?_cons_succ] at h
      refine cps fun gG kG => ?_
      obtain ⟨ps', l', vs', nn', q1, q2, q3, q4⟩ := ih hn.2 h
      refine kG ?_
      clear kG gG
      have hne : ¬ u = k := fun e => hn.1 (by rw [e]; exact List.mem_map_of_mem (f := (·.1)) (List.mem_of_getElem? h))
      refine ⟨ps', l', vs', nn', by simpa using q1, ?_, .tail _ q3, q4⟩
      simp only [valueAt, List.find?_cons, decide_eq_false hne]
      exact q2
noncomputable def waM (vr vs vw : Value) (m₂ : Str → Option Value) : Str → Option Value :=
  fun z => if z = Str.ofString "rows" then some vr else if z = Str.ofString "sets" then some vs else if z = Str.ofString "writer" then some vw else m₂ z
theorem waM_cut {vr vs vw : Value} {m : Str → Option Value} (h1 : m (Str.ofString "rows") = some vr) (h2 : m (Str.ofString "sets") = some vs) (h3 : m (Str.ofString "writer") = some vw) : waM vr vs vw m = m := by
  funext z
  simp only [waM]
  split
  · rename_i e; rw [e, h1]
  split
  · rename_i e; rw [e, h2]
  split
  · rename_i e; rw [e, h3]
  · rfl
structure WaJ (prog : Program) (w : World) (d : Addr) (tl : List (Addr × Obj)) (rows : List Row) (i : Nat) (nx : List (Addr × Obj)) (od : Obj) (kvs : List (Int × Value)) (ls tup : List (Addr × Obj)) : Prop where
  led : nx = (d, od) :: (ls ++ (tup ++ tl))
  dict : od.IsDictOf (intKind prog w) kvs
  grp : Grp tup (groups (rows.take i)) kvs ls
  offd : ∀ q ∈ tup ++ tl, q.1 ≠ d
  lsd : ∀ a ∈ ls.map (·.1), a ≠ d
  nd : (ls.map (·.1)).Nodup
  apart : ∀ a ∈ ls.map (·.1), ∀ q ∈ tup ++ tl, q.1 ≠ a
  tupd : ∀ t ∈ tup, ∀ q ∈ tl, t.1 ≠ q.1
noncomputable def WaE (prog : Program) (w : World) (tl : List (Addr × Obj)) (rows : List Row) (vr vw : Value) (i : Nat) (m' : Str → Option Value) (nx : List (Addr × Obj)) : Prop := ∃ d od kvs ls tup, WaJ prog w d tl rows i nx od kvs ls tup ∧ waM vr (.ref d) vw m' = m' ∧ (d == sysModules) = false
theorem WaE.mk {prog : Program} {w : World} {tl : List (Addr × Obj)} {rows : List Row} {vr vw : Value} {i : Nat} {m' : Str → Option Value} {nx : List (Addr × Obj)} {d : Addr} {od : Obj} {kvs : List (Int × Value)} {ls tup : List (Addr × Obj)} (J : WaJ prog w d tl rows i nx od kvs ls tup) (h1 : waM vr (.ref d) vw m' = m') (h2 : (d == sysModules) = false) : WaE prog w tl rows vr vw i m' nx := ⟨_, _, _, _, _, J, h1, h2⟩
theorem WaE.out {prog : Program} {w : World} {tl : List (Addr × Obj)} {rows : List Row} {vr vw : Value} {i : Nat} {m' : Str → Option Value} {nx : List (Addr × Obj)} {gG : Prop} (hh : WaE prog w tl rows vr vw i m' nx) (kk : ∀ d od kvs ls tup, WaJ prog w d tl rows i nx od kvs ls tup → waM vr (.ref d) vw m' = m' → (d == sysModules) = false → gG) : gG := by
  obtain ⟨d, od, kvs, ls, tup, J, h1, h2⟩ := hh
  exact kk d od kvs ls tup J h1 h2
theorem WaJ.off {prog : Program} {w : World} {d : Addr} {tl : List (Addr × Obj)} {rows : List Row} {i : Nat} {nx : List (Addr × Obj)} {od : Obj} {kvs : List (Int × Value)} {ls tup : List (Addr × Obj)} (W : WaJ prog w d tl rows i nx od kvs ls tup) : ∀ p ∈ ls ++ (tup ++ tl), p.1 ≠ d := fun p hp =>
  (List.mem_append.mp hp).elim (fun h => W.lsd _ (List.mem_map_of_mem h)) (W.offd p)
theorem WaJ.offl {prog : Program} {w : World} {d : Addr} {tl : List (Addr × Obj)} {rows : List Row} {i : Nat} {nx : List (Addr × Obj)} {od : Obj} {kvs : List (Int × Value)} {ls tup : List (Addr × Obj)} (W : WaJ prog w d tl rows i nx od kvs ls tup) {ls1 ls2 : List (Addr × Obj)} {p : Addr × Obj} (e : ls = ls1 ++ p :: ls2) : ∀ q ∈ ls1 ++ (ls2 ++ (tup ++ tl)), q.1 ≠ p.1 := by
  have hn := W.nd
  have ha := W.apart p.1 (by rw [e]; exact List.mem_map_of_mem (List.mem_append.mpr (.inr (.head _))))
  rw [e, List.map_append, List.map_cons, List.nodup_append, List.nodup_cons] at hn
  intro q hq
  rcases List.mem_append.mp hq with hq | hq
  · exact hn.2.2 _ (List.mem_map_of_mem hq) _ (.head _)
  rcases List.mem_append.mp hq with hq | hq
  · exact fun e' => hn.2.1.1 (e' ▸ List.mem_map_of_mem hq)
  · exact ha q hq
theorem led_mid {α : Type} {a b l l0 : α} {ls1 ls2 ls tup tl : List α} (e : ls = ls1 ++ l :: ls2) : ∀ p ∈ l :: a :: b :: (ls1 ++ (ls2 ++ (tup ++ tl))), p ∈ l0 :: a :: b :: (ls ++ (tup ++ tl)) := by
  refine cps fun gG kG => ?_
  subst e
  refine kG ?_
  clear kG gG
  intro p hp
  simp only [List.mem_cons, List.mem_append] at hp ⊢
  rcases hp with h | h | h | h | h | h | h <;> simp [h]
theorem led_end {α : Type} {a b l t : α} {ls1 ls2 tup tl : List α} : ∀ p ∈ a :: b :: ((ls1 ++ l :: ls2) ++ ((t :: tup) ++ tl)), p ∈ t :: l :: a :: b :: (ls1 ++ (ls2 ++ (tup ++ tl))) :=
  SegT.sub (segs := [[a], [b], ls1, [l], ls2, [t], tup, tl]) (.a (.l 0) (.a (.l 1) (.a (.a (.l 2) (.a (.l 3) (.l 4))) (.a (.a (.l 5) (.l 6)) (.l 7))))) (.a (.l 5) (.a (.l 3) (.a (.l 0) (.a (.l 1) (.a (.l 2) (.a (.l 4) (.a (.l 6) (.l 7)))))))) rfl
theorem led_end2 {α : Type} {a b l t : α} {ls tup tl : List α} : ∀ p ∈ a :: b :: ((ls ++ [l]) ++ ((t :: tup) ++ tl)), p ∈ t :: l :: a :: b :: (ls ++ (tup ++ tl)) :=
  SegT.sub (segs := [[a], [b], ls, [l], [t], tup, tl]) (.a (.l 0) (.a (.l 1) (.a (.a (.l 2) (.l 3)) (.a (.a (.l 4) (.l 5)) (.l 6))))) (.a (.l 4) (.a (.l 3) (.a (.l 0) (.a (.l 1) (.a (.l 2) (.a (.l 5) (.l 6))))))) rfl
theorem WaJ.grow {prog : Program} {w : World} {d : Addr} {tl : List (Addr × Obj)} {rows : List Row} {i : Nat} {nx : List (Addr × Obj)} {od : Obj} {kvs : List (Int × Value)} {ls tup : List (Addr × Obj)} (W : WaJ prog w d tl rows i nx od kvs ls tup) {od' : Obj} {kvs' : List (Int × Value)} {ls' : List (Addr × Obj)} {t : Addr × Obj} {r : Row} (hr : rows[i]? = some r)
    (hd : od'.IsDictOf (intKind prog w) kvs') (g : Grp (t :: tup) (groupIn r.2.2 (r.1, r.2.1) (groups (rows.take i))) kvs' ls') (td : t.1 ≠ d) (tt : ∀ q ∈ tl, t.1 ≠ q.1) (hnd : (ls'.map (·.1)).Nodup) (hl : ∀ a ∈ ls'.map (·.1), a ≠ d ∧ t.1 ≠ a ∧ ∀ q ∈ tup ++ tl, q.1 ≠ a) :
    WaJ prog w d tl rows (i + 1) ((d, od') :: (ls' ++ ((t :: tup) ++ tl))) od' kvs' ls' (t :: tup) := by
  refine ⟨rfl, hd, by rw [groups_snoc rows hr]; exact g, ?_, fun a ha => (hl a ha).1, hnd, ?_, fun t' ht => (List.mem_cons.mp ht).elim (fun e => e ▸ tt) (W.tupd t')⟩
  · intro q hq
    rcases List.mem_cons.mp hq with rfl | hq
    · exact td
    · exact W.offd q hq
  · intro a ha q hq
    rcases List.mem_cons.mp hq with rfl | hq
    · exact (hl a ha).2.1
    · exact (hl a ha).2.2 q hq
theorem ok_setd (a b c : Value) : argsOk "dict.setdefault" ⟨[a, b, c], []⟩ := by unfold argsOk; kernel_rfl
theorem row_get {tl : List (Addr × Obj)} {vs : List Value} {rows : List Row} (hda : DatAll tl vs (rows.map rowDat)) {i : Nat} {v : Value} (h : vs[i]? = some v) :
    ∃ r T n tb tz tu, rows[i]? = some r ∧ v = .ref T ∧ (T, ({ cls := .type "tuple", data := .seq #[.int r.1 tb, .int r.2.1 tz, .int r.2.2 tu] n } : Obj)) ∈ tl := by
  obtain ⟨r, hr, hd⟩ := dat_map hda h
  obtain ⟨T, n, v1, v2, v3, rfl, hm, a1, a2, a3⟩ := inv_three hd
  obtain ⟨tb, rfl⟩ := inv_int a1
  obtain ⟨tz, rfl⟩ := inv_int a2
  obtain ⟨tu, rfl⟩ := inv_int a3
  exact ⟨r, T, n, tb, tz, tu, hr, rfl, hm⟩
theorem groupIn_small (u : Int) (p : Int × Int) (n : Nat) : ∀ G : Grps, (∀ q ∈ G, q.2.length ≤ n) → ∀ q ∈ groupIn u p G, q.2.length ≤ n + 1
  | [], _, q, hq => by
    simp only [groupIn, List.mem_singleton] at hq
    subst hq; simp
  | (k, ps) :: r, h, q, hq => by
    simp only [groupIn] at hq
    split at hq
    · rcases List.mem_cons.mp hq with rfl | hq
      · have := h _ (.head _)
        simp only [List.length_append, List.length_singleton] at this ⊢
        lia
      · have := h _ (.tail _ hq); lia
    · rcases List.mem_cons.mp hq with rfl | hq
      · have := h _ (.head _); lia
      · exact groupIn_small u p n r (fun q hq => h q (.tail _ hq)) q hq
theorem groups_small (rows : List Row) : ∀ q ∈ groups rows, q.2.length ≤ rows.length := by
  have go : ∀ (rows : List Row) (G : Grps) (n : Nat), (∀ q ∈ G, q.2.length ≤ n) → ∀ q ∈ rows.foldl (fun G r => groupIn r.2.2 (r.1, r.2.1) G) G, q.2.length ≤ n + rows.length := by
    intro rows
    induction rows with
    | nil => intro G n h q hq; exact h q hq
    | cons r rows ih =>
      intro G n h q hq
      have := ih _ (n + 1) (groupIn_small r.2.2 (r.1, r.2.1) n G h) q hq
      simp only [List.length_cons]
      lia
  intro q hq
  have := go rows [] 0 (fun q hq => nomatch hq) q hq
  lia
theorem groupIn_length (u : Int) (q : Int × Int) : ∀ G : Grps, (groupIn u q G).length ≤ G.length + 1
  | [] => Nat.le_refl 1
  | (k, ps) :: r => by
    simp only [groupIn]
    split
    · simp
    · simp only [List.length_cons]
      have := groupIn_length u q r
      lia
theorem groups_length (rows : List Row) : (groups rows).length ≤ rows.length := by
  have go : ∀ (rows : List Row) (G : Grps), (rows.foldl (fun G r => groupIn r.2.2 (r.1, r.2.1) G) G).length ≤ G.length + rows.length := by
    intro rows
    induction rows with
    | nil => intro G; simp
    | cons r rows ih =>
      intro G
      simp only [List.foldl_cons, List.length_cons]
      have h1 := ih (groupIn r.2.2 (r.1, r.2.1) G)
      have h2 := groupIn_length r.2.2 (r.1, r.2.1) G
      lia
  have h := go rows []
  simp only [List.length_nil, Nat.zero_add] at h
  exact h
theorem WaJ.small {prog : Program} {w : World} {d : Addr} {tl : List (Addr × Obj)} {rows : List Row} {i : Nat} {nx : List (Addr × Obj)} {od : Obj} {kvs : List (Int × Value)} {ls tup : List (Addr × Obj)} (W : WaJ prog w d tl rows i nx od kvs ls tup) (h : rows.length ≤ 5) : kvs.length ≤ sizeLine := by
  rw [W.grp.len, sizeLine_eq]
  have h1 := groups_length (rows.take i)
  have h2 : (rows.take i).length ≤ rows.length := by rw [List.length_take]; lia
  lia
theorem WaJ.next {prog : Program} {w : World} {d L : Addr} {g0 h : Heap} {tl led : List (Addr × Obj)} {rows : List Row} {i : Nat} {nx : List (Addr × Obj)} {od : Obj} {kvs : List (Int × Value)} {ls tup : List (Addr × Obj)} (W : WaJ prog w d tl rows i nx od kvs ls tup) {od' : Obj} {kvs' : List (Int × Value)} {ls' : List (Addr × Obj)} {t : Addr × Obj} {r : Row} (hr : rows[i]? = some r)
    (hd : od'.IsDictOf (intKind prog w) kvs') (g : Grp (t :: tup) (groupIn r.2.2 (r.1, r.2.1) (groups (rows.take i))) kvs' ls') (td : t.1 ≠ d) (tt : ∀ q ∈ tl, t.1 ≠ q.1) (hnd : (ls'.map (·.1)).Nodup) (hl : ∀ a ∈ ls'.map (·.1), a ≠ d ∧ t.1 ≠ a ∧ ∀ q ∈ tup ++ tl, q.1 ≠ a)
    {I rl : Addr} {o ol : Obj} (N : News g0 L h led) (hm : ∀ p ∈ (I, o) :: (d, od') :: (ls' ++ ((t :: tup) ++ tl)), p ∈ led) (hrl : (rl, ol) ∈ tl)
    (hI : d ≠ I ∧ t.1 ≠ I ∧ (∀ a ∈ ls'.map (·.1), a ≠ I) ∧ ∀ q ∈ tup ++ tl, q.1 ≠ I) :
    ∃ news₃, News g0 L h ((I, o) :: news₃) ∧ (rl, ol) ∈ news₃ ∧ (∀ p ∈ news₃, p.1 ≠ I) ∧ ∃ od₃ kvs₃ ls₃ tup₃, WaJ prog w d tl rows (i + 1) news₃ od₃ kvs₃ ls₃ tup₃ := by
  refine ⟨(d, od') :: (ls' ++ ((t :: tup) ++ tl)), fun p hp => N p (hm p hp), .tail _ (List.mem_append_right _ (List.mem_append_right _ hrl)), ?_, _, _, _, _, W.grow hr hd g td tt hnd hl⟩
  refine cps fun gG kG => ?_
  obtain ⟨h1, h2, h3, h4⟩ := hI
  refine kG ?_
  clear kG gG
  intro p hp
  rcases List.mem_cons.mp hp with rfl | hp
  · exact h1
  rcases List.mem_append.mp hp with hp | hp
  · exact h3 _ (List.mem_map_of_mem hp)
  rcases List.mem_cons.mp hp with rfl | hp
  · exact h2
  · exact h4 p hp
theorem WaJ.there {prog : Program} {w : World} {d L : Addr} {g0 h : Heap} {tl : List (Addr × Obj)} {rows : List Row} {i : Nat} {od : Obj} {kvs : List (Int × Value)} {ls tup : List (Addr × Obj)} (W : WaJ prog w d tl rows i ((d, od) :: (ls ++ (tup ++ tl))) od kvs ls tup) {r : Row} (hr : rows[i]? = some r)
    {l : Addr} {vs1 : List Value} {nn1 : Nat} {ls1 ls2 : List (Addr × Obj)} (e2 : ls = ls1 ++ (l, listOf vs1.toArray nn1) :: ls2)
    (e3 : ∀ (tup' : List (Addr × Obj)) (T : Addr) (n : Nat) (b z : Int) (tb tz : Tok) (nn' : Nat), (∀ p ∈ tup, p ∈ tup') → (T, ({ cls := .type "tuple", data := .seq #[.int b tb, .int z tz] n } : Obj)) ∈ tup' →
        Grp tup' (groupIn r.2.2 (b, z) (groups (rows.take i))) kvs (ls1 ++ (l, listOf (vs1 ++ [Value.ref T]).toArray nn') :: ls2))
    {T : Addr} {tb tz : Tok} {I rl : Addr} {o ol : Obj} {nT nn' : Nat} {X : List (Addr × Obj)} (hX : ls1 ++ (ls2 ++ (tup ++ tl)) = X)
    (N : News g0 L h ((T, ({ cls := .type "tuple", data := .seq #[.int r.1 tb, .int r.2.1 tz] nT } : Obj)) :: (l, listOf (vs1.toArray.push (.ref T)) nn') :: (I, o) :: (d, od) :: X))
    (hrl : (rl, ol) ∈ tl) (hne : ∀ p ∈ (d, od) :: (ls ++ (tup ++ tl)), p.1 ≠ I) (lt : l < T ∧ I < T ∧ d < T) (lr : ∀ p ∈ X, p.1 < T) :
    ∃ news₃, News g0 L h ((I, o) :: news₃) ∧ (rl, ol) ∈ news₃ ∧ (∀ p ∈ news₃, p.1 ≠ I) ∧ ∃ od₃ kvs₃ ls₃ tup₃, WaJ prog w d tl rows (i + 1) news₃ od₃ kvs₃ ls₃ tup₃ := by
  have hmap : (ls1 ++ (l, listOf (vs1 ++ [Value.ref T]).toArray nn') :: ls2).map (·.1) = ls.map (·.1) := by rw [e2]; simp
  have ltA : ∀ a ∈ ls.map (·.1), a < T := by
    intro a ha
    rw [e2, List.map_append, List.map_cons] at ha
    rcases List.mem_append.mp ha with ha | ha
    · obtain ⟨p, hp, rfl⟩ := List.mem_map.mp ha
      exact lr p (hX ▸ List.mem_append_left _ hp)
    rcases List.mem_cons.mp ha with rfl | ha
    · exact lt.1
    · obtain ⟨p, hp, rfl⟩ := List.mem_map.mp ha
      exact lr p (hX ▸ List.mem_append_right _ (List.mem_append_left _ hp))
  rw [List.push_toArray] at N
  refine W.next hr W.dict (e3 ((T, _) :: tup) T nT r.1 r.2.1 tb tz nn' (fun p hp => .tail _ hp) (.head _)) (Nat.ne_of_gt lt.2.2) (fun q hq => Nat.ne_of_gt (lr q (hX ▸ List.mem_append_right _ (List.mem_append_right _ (List.mem_append_right _ hq))))) (hmap ▸ W.nd) ?_ N ?_ hrl ?_
  · intro a ha
    rw [hmap] at ha
    exact ⟨W.lsd a ha, Nat.ne_of_gt (ltA a ha), W.apart a ha⟩
  · rw [← hX]
    exact led_end
  · refine ⟨hne _ (.head _), Nat.ne_of_gt lt.2.1, ?_, fun q hq => hne q (.tail _ (List.mem_append_right _ hq))⟩
    intro a ha
    rw [hmap] at ha
    refine cps fun gG kG => ?_
    obtain ⟨p, hp, rfl⟩ := List.mem_map.mp ha
    refine kG ?_
    clear kG gG
    exact hne p (.tail _ (List.mem_append_left _ hp))
theorem WaJ.fresh {prog : Program} {w : World} {d L l : Addr} {g0 h : Heap} {tl : List (Addr × Obj)} {rows : List Row} {i : Nat} {od od' : Obj} {kvs : List (Int × Value)} {ls tup : List (Addr × Obj)} (W : WaJ prog w d tl rows i ((d, od) :: (ls ++ (tup ++ tl))) od kvs ls tup) {r : Row} (hr : rows[i]? = some r)
    (hd : od'.IsDictOf (intKind prog w) (stored kvs r.2.2 (.ref l))) (hu : r.2.2 ∉ (groups (rows.take i)).map (·.1))
    {T : Addr} {tb tz : Tok} {I rl : Addr} {o ol : Obj} {nT nn' : Nat} {X : List (Addr × Obj)} (hX : ls ++ (tup ++ tl) = X)
    (N : News g0 L h ((T, ({ cls := .type "tuple", data := .seq #[.int r.1 tb, .int r.2.1 tz] nT } : Obj)) :: (l, listOf ((#[] : Array Value).push (.ref T)) nn') :: (I, o) :: (d, od') :: X))
    (hrl : (rl, ol) ∈ tl) (hne : ∀ p ∈ (d, od) :: (ls ++ (tup ++ tl)), p.1 ≠ I) (lt : l < T ∧ I < T ∧ d < T) (lr : ∀ p ∈ X, p.1 < T) (ltl : I < l ∧ d < l) (lrl : ∀ p ∈ X, p.1 < l) :
    ∃ news₃, News g0 L h ((I, o) :: news₃) ∧ (rl, ol) ∈ news₃ ∧ (∀ p ∈ news₃, p.1 ≠ I) ∧ ∃ od₃ kvs₃ ls₃ tup₃, WaJ prog w d tl rows (i + 1) news₃ od₃ kvs₃ ls₃ tup₃ := by
  refine cps fun gG kG => ?_
  subst hX
  refine kG ?_
  clear kG gG
  have hmap : (ls ++ [(l, listOf [Value.ref T].toArray nn')]).map (·.1) = ls.map (·.1) ++ [l] := by simp
  have inl : ∀ a ∈ ls.map (·.1), ∃ p ∈ ls ++ (tup ++ tl), p.1 = a := fun a ha => by
    obtain ⟨p, hp, rfl⟩ := List.mem_map.mp ha
    exact ⟨p, List.mem_append_left _ hp, rfl⟩
  refine W.next hr hd (grp_new (fun p hp => .tail _ hp) W.grp hu (.head _)).2 (Nat.ne_of_gt lt.2.2) (fun q hq => Nat.ne_of_gt (lr q (List.mem_append_right _ (List.mem_append_right _ hq)))) ?_ ?_ N led_end2 hrl ?_
  · rw [hmap, List.nodup_append]
    refine ⟨W.nd, by simp, ?_⟩
    intro a ha b hb
    rw [List.mem_singleton.mp hb]
    refine cps fun gG kG => ?_
    obtain ⟨p, hp, rfl⟩ := inl a ha
    refine kG ?_
    clear kG gG
    exact Nat.ne_of_lt (lrl p hp)
  · intro a ha
    rw [hmap] at ha
    rcases List.mem_append.mp ha with ha | ha
    · obtain ⟨p, hp, rfl⟩ := inl a ha
      exact ⟨W.lsd _ ha, Nat.ne_of_gt (lr p hp), W.apart _ ha⟩
    · rw [List.mem_singleton.mp ha]
      exact ⟨Nat.ne_of_gt ltl.2, Nat.ne_of_gt lt.1, fun q hq => Nat.ne_of_lt (lrl q (List.mem_append_right _ hq))⟩
  · refine ⟨hne _ (.head _), Nat.ne_of_gt lt.2.1, ?_, fun q hq => hne q (.tail _ (List.mem_append_right _ hq))⟩
    intro a ha
    rw [hmap] at ha
    rcases List.mem_append.mp ha with ha | ha
    · obtain ⟨p, hp, rfl⟩ := inl a ha
      exact hne p (.tail _ hp)
    · rw [List.mem_singleton.mp ha]
      exact Nat.ne_of_gt ltl.1
theorem groupIn_keys (u : Int) (q : Int × Int) : ∀ G : Grps, ∀ g ∈ groupIn u q G, g.1 = u ∨ ∃ g' ∈ G, g'.1 = g.1
  | [], g, hg => by
    simp only [groupIn, List.mem_singleton] at hg
    exact .inl (by rw [hg])
  | (k, ps) :: r, g, hg => by
    simp only [groupIn] at hg
    split at hg
    · rename_i e
      rcases List.mem_cons.mp hg with rfl | hg
      · exact .inl e
      · exact .inr ⟨g, .tail _ hg, rfl⟩
    · rcases List.mem_cons.mp hg with rfl | hg
      · exact .inr ⟨_, .head _, rfl⟩
      · exact (groupIn_keys u q r g hg).imp id fun ⟨g', h1, h2⟩ => ⟨g', .tail _ h1, h2⟩
theorem groups_units {rows : List Row} (hun : ∀ r ∈ rows, 0 ≤ r.2.2 ∧ r.2.2 < 4294967296) : ∀ g ∈ groups rows, 0 ≤ g.1 ∧ g.1 < 4294967296 := by
  have go : ∀ (rows : List Row) (G : Grps), (∀ r ∈ rows, 0 ≤ r.2.2 ∧ r.2.2 < 4294967296) → (∀ g ∈ G, 0 ≤ g.1 ∧ g.1 < 4294967296) → ∀ g ∈ rows.foldl (fun G r => groupIn r.2.2 (r.1, r.2.1) G) G, 0 ≤ g.1 ∧ g.1 < 4294967296 := by
    intro rows
    induction rows with
    | nil => intro G _ h g hg; exact h g hg
    | cons r rows ih =>
      intro G hr h g hg
      refine ih _ (fun r' hr' => hr r' (.tail _ hr')) (fun g hg => ?_) g hg
      rcases groupIn_keys _ _ _ g hg with e | ⟨g', h1, h2⟩
      · rw [e]; exact hr r (.head _)
      · rw [← h2]; exact h g' h1
  exact go rows [] hun fun g hg => nomatch hg
structure WbJ (b : Addr) (tl2 : List (Addr × Obj)) (vr vs vw : Value) (G : Grps) (i : Nat) (m' : Str → Option Value) (nx : List (Addr × Obj)) (arr : Array UInt8) : Prop where
  led : nx = (b, baObj arr) :: tl2
  oct : KBw.bInts arr = (G.take i).flatMap fun q => setW q.1 q.2
  good : ∀ q ∈ G.take i, ∀ p ∈ q.2, goodPair p
  size : arr.size ≤ 64 * i
  loc : waM vr vs vw m' = m'
noncomputable def WbE (b : Addr) (tl2 : List (Addr × Obj)) (vr : Value) (vs : Value) (vw : Value) (G : Grps) (i : Nat) (m' : Str → Option Value) (nx : List (Addr × Obj)) : Prop := ∃ arr, WbJ b tl2 vr vs vw G i m' nx arr
theorem WbE.mk {b : Addr} {tl2 : List (Addr × Obj)} {vr : Value} {vs : Value} {vw : Value} {G : Grps} {i : Nat} {m' : Str → Option Value} {nx : List (Addr × Obj)} {arr : Array UInt8} (J : WbJ b tl2 vr vs vw G i m' nx arr) : WbE b tl2 vr vs vw G i m' nx := ⟨_, J⟩
theorem WbE.out {b : Addr} {tl2 : List (Addr × Obj)} {vr : Value} {vs : Value} {vw : Value} {G : Grps} {i : Nat} {m' : Str → Option Value} {nx : List (Addr × Obj)} {gG : Prop} (hh : WbE b tl2 vr vs vw G i m' nx) (kk : ∀ arr, WbJ b tl2 vr vs vw G i m' nx arr → gG) : gG := by
  obtain ⟨arr, J⟩ := hh
  exact kk arr J
theorem WbJ.next {b : Addr} {tl2 : List (Addr × Obj)} {vr vs vw : Value} {G : Grps} {i : Nat} {m' m₃ : Str → Option Value} {nx : List (Addr × Obj)} {arr arr' : Array UInt8} (J : WbJ b tl2 vr vs vw G i m' nx arr) {k : Int} {ps : List (Int × Int)} (hk : G[i]? = some (k, ps))
    (ho : KBw.bInts arr' = KBw.bInts arr ++ setW k ps) (hg : ∀ r ∈ ps, goodPair r) (hs : arr'.size = arr.size + 24 + 8 * ps.length) (hl : ps.length ≤ 5) (hm : waM vr vs vw m₃ = m₃) : WbJ b tl2 vr vs vw G (i + 1) m₃ ((b, baObj arr') :: tl2) arr' := by
  refine ⟨rfl, ?_, ?_, ?_, hm⟩
  · rw [List.take_succ, hk, ho, J.oct]
    simp [List.flatMap_append]
  · rw [List.take_succ, hk]
    intro q hq
    rcases List.mem_append.mp hq with hq | hq
    · exact J.good q hq
    · obtain rfl := List.mem_singleton.mp hq
      exact hg
  · have := J.size; lia
noncomputable def tl2Of (d x dx : Addr) (od ox odx : Obj) (ls tup news : List (Addr × Obj)) : List (Addr × Obj) := (d, od) :: (ls ++ (tup ++ ((x, ox) :: (dx, odx) :: news)))
theorem led_b {d x dx b : Addr} {od ox odx ob : Obj} {ls tup news : List (Addr × Obj)} : ∀ p ∈ (b, ob) :: tl2Of d x dx od ox odx ls tup news, p ∈ (d, od) :: (ls ++ (tup ++ ((x, ox) :: (dx, odx) :: (b, ob) :: news))) := by
  intro p hp
  simp only [tl2Of, List.mem_cons, List.mem_append] at hp ⊢
  rcases hp with h | h | h | h | h | h | h <;> simp [h]
theorem WaJ.offb {prog : Program} {w : World} {d x dx b : Addr} {ox odx ob : Obj} {news : List (Addr × Obj)} {rows : List Row} {i : Nat} {nx : List (Addr × Obj)} {od : Obj} {kvs : List (Int × Value)} {ls tup : List (Addr × Obj)} (W : WaJ prog w d ((x, ox) :: (dx, odx) :: (b, ob) :: news) rows i nx od kvs ls tup) (n1 : x ≠ b) (n2 : dx ≠ b) (n3 : ∀ p ∈ news, p.1 ≠ b) :
    ∀ p ∈ tl2Of d x dx od ox odx ls tup news, p.1 ≠ b := by
  have hb : (b, ob) ∈ (x, ox) :: (dx, odx) :: (b, ob) :: news := .tail _ (.tail _ (.head _))
  intro p hp
  rcases List.mem_cons.mp hp with rfl | hp
  · exact Ne.symm (W.offd _ (List.mem_append_right _ hb))
  rcases List.mem_append.mp hp with hp | hp
  · exact Ne.symm (W.apart _ (List.mem_map_of_mem hp) _ (List.mem_append_right _ hb))
  rcases List.mem_append.mp hp with hp | hp
  · exact W.tupd p hp _ hb
  rcases List.mem_cons.mp hp with rfl | hp
  · exact n1
  rcases List.mem_cons.mp hp with rfl | hp
  · exact n2
  · exact n3 p hp
end
section
theorem readSet_gt {ns : List Int} {st e : Nat} {rows : List Row} (h : readSet ns st = some (rows, e)) : st < e ∧ e ≤ ns.length := by
  unfold readSet at h
  split at h
  · split at h
    · rename_i h1 h2
      cases hr : readRows ns (st + 4 + (wordOf ns st 4).toNat) (wordOf ns (st + 6) 4) (st + 16) with
      | none => rw [hr] at h; cases h
      | some r =>
        rw [hr] at h
        simp only [Option.map_some, Option.some.injEq, Prod.mk.injEq] at h
        refine cps fun gG kG => ?_
        obtain ⟨_, rfl⟩ := h
        refine kG ?_
        clear kG gG
        lia
    · cases h
  · cases h
theorem readRows_len {ns : List Int} {e : Nat} {u : Int} : ∀ (n : Nat) {p : Nat} {rows : List Row}, e - p ≤ n → readRows ns e u p = some rows → 8 * rows.length + p + 8 ≤ e := by
  intro n
  induction n with
  | zero =>
    intro p rows hn h
    unfold readRows at h
    split at h
    · lia
    · cases h
  | succ n ih =>
    intro p rows hn h
    unfold readRows at h
    split at h
    · split at h
      · split at h
        · cases h; simp; lia
        · cases h
      · cases hr : readRows ns e u (p + 8) with
        | none => rw [hr] at h; cases h
        | some r =>
          rw [hr] at h
          simp only [Option.map_some, Option.some.injEq] at h
          refine cps fun gG kG => ?_
          subst h
          refine kG ?_
          clear kG gG
          have := ih (Nat.le_of_lt_succ (Nat.lt_of_lt_of_le (Nat.sub_lt_sub_left (Nat.lt_of_lt_of_le (lt8 _) (by assumption)) (lt8 _)) hn)) hr
          simp only [List.length_cons]
          lia
    · cases h
theorem readSet_few {ns : List Int} {st e : Nat} {rows : List Row} (h : readSet ns st = some (rows, e)) : rows.length ≤ e - st := by
  unfold readSet at h
  split at h
  · split at h
    · cases hr : readRows ns (st + 4 + (wordOf ns st 4).toNat) (wordOf ns (st + 6) 4) (st + 16) with
      | none => rw [hr] at h; cases h
      | some r =>
        have hl := readRows_len _ (Nat.le_refl _) hr
        rw [hr] at h
        simp only [Option.map_some, Option.some.injEq, Prod.mk.injEq] at h
        refine cps fun gG kG => ?_
        obtain ⟨rfl, rfl⟩ := h
        refine kG ?_
        clear kG gG
        exact Nat.le_sub_of_add_le (Nat.le_trans (Nat.add_le_add (Nat.le_mul_of_pos_left _ (by decide)) (Nat.le_add_right _ _)) (Nat.le_trans (Nat.le_add_right _ 8) hl))
    · cases h
  · cases h
noncomputable def readAll (ns : List Int) (p : Nat) : Option (List Row) :=
  if p < ns.length then
    match h : readSet ns p with
    | none => none
    | some (rows, e) => (readAll ns e).map (rows ++ ·)
  else some []
termination_by ns.length - p
decreasing_by exact Nat.sub_lt_sub_left (by assumption) (readSet_gt h).1
theorem readAll_end {ns : List Int} {p : Nat} (h : ¬ p < ns.length) : readAll ns p = some [] := by
  unfold readAll; rw [if_neg h]
theorem readAll_none {ns : List Int} {p : Nat} (h : p < ns.length) (hr : readSet ns p = none) : readAll ns p = none := by
  unfold readAll; rw [if_pos h]
  split
  · rfl
  · rename_i e; rw [hr] at e; cases e
theorem readAll_some {ns : List Int} {p e : Nat} {rows : List Row} (h : p < ns.length) (hr : readSet ns p = some (rows, e)) : readAll ns p = (readAll ns e).map (rows ++ ·) := by
  conv => lhs; unfold readAll
  rw [if_pos h]
  split
  · rename_i e'; rw [hr] at e'; cases e'
  · rename_i r' e' he; rw [hr] at he; cases he; rfl
noncomputable def raM (vo vf va : Value) (m₂ : Str → Option Value) : Str → Option Value :=
  fun z => if z = Str.ofString "octets" then some vo else if z = Str.ofString "found" then some vf else if z = Str.ofString "at" then some va else m₂ z
theorem raM_cut {vo vf va : Value} {m : Str → Option Value} (h1 : m (Str.ofString "octets") = some vo) (h2 : m (Str.ofString "found") = some vf) (h3 : m (Str.ofString "at") = some va) : raM vo vf va m = m := by
  funext z
  simp only [raM]
  split
  · rename_i e; rw [e, h1]
  split
  · rename_i e; rw [e, h2]
  split
  · rename_i e; rw [e, h3]
  · rfl
structure RaJ (ns : List Int) (news : List (Addr × Obj)) (fd : Addr) (vo : Value) (n : Nat) (m' : Str → Option Value) (nx : List (Addr × Obj)) (k : Nat) (vs : List Value) (nn : Nat) (rows : List Row) (nw : List (Addr × Obj)) : Prop where
  led : nx = (fd, listOf vs.toArray nn) :: (nw ++ news)
  kle : k ≤ ns.length
  all : readAll ns 0 = (readAll ns k).map (rows ++ ·)
  dat : DatAll nw vs (rows.map rowDat)
  apart : ∀ p ∈ nw, ∀ q ∈ news, p.1 ≠ q.1
  off : ∀ p ∈ nw ++ news, p.1 ≠ fd
  meas : n = ns.length - k
  few : vs.length ≤ k
  loc : ∃ t, raM vo (.ref fd) (.int k t) m' = m'
noncomputable def RaE (ns : List Int) (news : List (Addr × Obj)) (vo : Value) (n : Nat) (m' : Str → Option Value) (nx : List (Addr × Obj)) : Prop := ∃ fd k vs nn rows nw, RaJ ns news fd vo n m' nx k vs nn rows nw
theorem RaE.mk {ns : List Int} {news : List (Addr × Obj)} {vo : Value} {n : Nat} {m' : Str → Option Value} {nx : List (Addr × Obj)} {fd : Addr} {k : Nat} {vs : List Value} {nn : Nat} {rows : List Row} {nw : List (Addr × Obj)} (J : RaJ ns news fd vo n m' nx k vs nn rows nw) : RaE ns news vo n m' nx := ⟨_, _, _, _, _, _, J⟩
theorem RaE.out {ns : List Int} {news : List (Addr × Obj)} {vo : Value} {n : Nat} {m' : Str → Option Value} {nx : List (Addr × Obj)} {gG : Prop} (hh : RaE ns news vo n m' nx) (kk : ∀ fd k vs nn rows nw, RaJ ns news fd vo n m' nx k vs nn rows nw → gG) : gG := by
  obtain ⟨fd, k, vs, nn, rows, nw, J⟩ := hh
  exact kk fd k vs nn rows nw J
theorem datAll_len' {tl : List (Addr × Obj)} {vs : List Value} {ds : List Dat} (h : DatAll tl vs ds) : vs.length = ds.length := DatAll.length h
theorem RaJ.next {ns : List Int} {news : List (Addr × Obj)} {fd : Addr} {vo : Value} {n : Nat} {m' m₃ : Str → Option Value} {nx : List (Addr × Obj)} {k e : Nat} {vs vs' : List Value} {nn nn' : Nat} {rows rows' : List Row} {nw new : List (Addr × Obj)}
    (J : RaJ ns news fd vo n m' nx k vs nn rows nw) (hr : readSet ns k = some (rows', e)) (hk : k < ns.length) (hda : DatAll new vs' (rows'.map rowDat)) (hap : ∀ p ∈ new, ∀ q ∈ (fd, listOf vs.toArray nn) :: (nw ++ news), p.1 ≠ q.1) (hm : ∃ te, raM vo (.ref fd) (.int e te) m₃ = m₃) :
    ns.length - e < n ∧ RaJ ns news fd vo (ns.length - e) m₃ ((fd, listOf (vs ++ vs').toArray nn') :: ((new ++ nw) ++ news)) e (vs ++ vs') nn' (rows ++ rows') (new ++ nw) := by
  have hg := readSet_gt hr
  have hm' := J.meas
  refine ⟨meas_lt hm' hk hg.1, rfl, hg.2, ?_, ?_, ?_, ?_, rfl, ?_, hm⟩
  · rw [J.all, readAll_some hk hr, Option.map_map]
    congr 1
    funext r
    simp
  · rw [List.map_append]
    exact DatAll.append (J.dat.mono fun p hp => List.mem_append_right _ hp) (hda.mono fun p hp => List.mem_append_left _ hp)
  · intro p hp q hq
    rcases List.mem_append.mp hp with hp | hp
    · exact hap p hp q (.tail _ (List.mem_append_right _ hq))
    · exact J.apart p hp q hq
  · intro p hp
    rcases List.mem_append.mp hp with hp | hp
    · rcases List.mem_append.mp hp with hp | hp
      · exact hap p hp _ (.head _)
      · exact J.off p (List.mem_append_left _ hp)
    · exact J.off p (List.mem_append_right _ hp)
  · have h1 := J.few
    have h2 := datAll_len' hda
    have h3 := readSet_few hr
    rw [List.length_map] at h2
    rw [List.length_append]
    exact Nat.le_trans (Nat.add_le_add h1 (h2 ▸ h3)) (Nat.le_of_eq (Nat.add_sub_of_le (Nat.le_of_lt hg.1)))
section
variable {prog : Program} {w : World} {A : Around} {E : Value → Shared → Prop} {s : Shared} {h₀ : Heap} {L D b : Addr} {m : Str → Option Value} {rest : List (Addr × Obj)} {vs vs2 : List Value} {n n2 : Nat}
theorem extend_any {Q : Value → Shared → Prop} (F : Fr h₀ L s.heap m) (N : News h₀ L s.heap ((D, listOf vs.toArray n) :: rest)) (hb : (b, listOf vs2.toArray n2) ∈ rest) (off : ∀ p ∈ rest, p.1 ≠ D) (hz : vs.length + vs2.length < 2 ^ 21)
    (h : ∀ h' n', Fr h₀ L h' m → News h₀ L h' ((D, listOf (vs ++ vs2).toArray n') :: rest) → Q .none { s with heap := h' }) : wpAny (model prog w) A (call (.builtin "list.extend") [.ref D, .ref b]) Q E s := by
  have z1 : ¬(!vs.toArray.isEmpty && Builtin.List.listTooLong (vs.toArray.size + vs2.toArray.size)) = true := by
    simp only [List.size_toArray, Bool.and_eq_true, not_and]
    intro _ e
    simp only [Builtin.List.listTooLong, decide_eq_true_eq] at e
    have := sizeLine_eq
    lia
  have z2 : vs.toArray.toList.length ≤ sizeLine := by rw [sizeLine_eq, List.toList_toArray]; lia
  have z3 : vs.toArray.size + vs2.toArray.size ≤ sizeLine + 1 := by rw [sizeLine_eq, List.size_toArray, List.size_toArray]; lia
  by_cases hv : vs2 = []
  · subst hv
    refine kxn_extend F N (.tail _ hb) rfl (.head off) z1 z2 z3 fun h' F' N' => h h' n F' ?_
    rw [List.append_nil]; exact N'
  · exact kl_extend F N (.tail _ hb) (l := vs ++ vs2) (by simp) (by simpa using hv) (.head off) z1 z2 z3 fun h' F' N' => h h' (n + 1) F' N'
end
theorem led_ra {α : Type} {r f d : α} {new tl : List α} : ∀ p ∈ d :: f :: (new ++ tl), p ∈ r :: f :: (new ++ d :: tl) :=
  SegT.sub (segs := [[d], [f], new, tl, [r]]) (.a (.l 0) (.a (.l 1) (.a (.l 2) (.l 3)))) (.a (.l 4) (.a (.l 1) (.a (.l 2) (.a (.l 0) (.l 3))))) rfl
theorem led_ra2 {α : Type} {f d : α} {new nw news : List α} : ∀ p ∈ d :: ((new ++ nw) ++ news), p ∈ d :: f :: (new ++ (nw ++ news)) :=
  SegT.sub (segs := [[d], new, nw, news, [f]]) (.a (.l 0) (.a (.a (.l 1) (.l 2)) (.l 3))) (.a (.l 0) (.a (.l 4) (.a (.l 1) (.a (.l 2) (.l 3))))) rfl
theorem off_ra {f d : Addr} {of od : Obj} {new tl : List (Addr × Obj)} (h1 : ∀ p ∈ new ++ (d, od) :: tl, p.1 ≠ f) (h2 : ∀ p ∈ new, ∀ q ∈ (d, od) :: tl, p.1 ≠ q.1) (h3 : ∀ p ∈ tl, p.1 ≠ d) : ∀ p ∈ (f, of) :: (new ++ tl), p.1 ≠ d := by
  intro p hp
  rcases List.mem_cons.mp hp with rfl | hp
  · exact Ne.symm (h1 _ (List.mem_append_right _ (.head _)))
  rcases List.mem_append.mp hp with hp | hp
  · exact h2 p hp _ (.head _)
  · exact h3 p hp
end
section
noncomputable def grpDat (u : Int) (ps : List (Int × Int)) : Dat := .list (ps.map fun p => rowDat (p.1, p.2, u))
inductive GrD (nw : List (Addr × Obj)) : Grps → List (Int × Value) → Prop
  | nil : GrD nw [] []
  | cons {G kvs u ps v} : DatIn nw v (grpDat u ps) → GrD nw G kvs → GrD nw ((u, ps) :: G) ((u, v) :: kvs)
theorem GrD.mono {nw nw' : List (Addr × Obj)} (hs : ∀ p ∈ nw, p ∈ nw') {G : Grps} {kvs : List (Int × Value)} (g : GrD nw G kvs) : GrD nw' G kvs := by
  induction g with
  | nil => exact .nil
  | cons h _ ih => exact .cons (h.mono hs) ih
theorem GrD.len {nw : List (Addr × Obj)} {G : Grps} {kvs : List (Int × Value)} (g : GrD nw G kvs) : kvs.length = G.length := by
  induction g with
  | nil => rfl
  | cons _ _ ih => simp [ih]
theorem GrD.keys {nw : List (Addr × Obj)} {G : Grps} {kvs : List (Int × Value)} (g : GrD nw G kvs) : kvs.map (·.1) = G.map (·.1) := by
  induction g with
  | nil => rfl
  | cons _ _ ih => simp [ih]
noncomputable def psOf (u : Int) : Grps → List (Int × Int)
  | [] => []
  | (k, ps) :: r => if k = u then ps else psOf u r
theorem GrD.get {nw : List (Addr × Obj)} {G : Grps} {kvs : List (Int × Value)} (g : GrD nw G kvs) {u : Int} {v : Value} (h : valueAt kvs u = some v) : DatIn nw v (grpDat u (psOf u G)) := by
  induction g with
  | nil => simp [valueAt] at h
  | @cons G kvs k ps x hx g ih =>
    by_cases hk : k = u
    · subst hk
      simp [valueAt] at h
      refine cps fun gG kG => ?_
      subst h
      refine kG ?_
      clear kG gG
      simpa [psOf] using hx
    · simp only [valueAt, List.find?_cons, decide_eq_false hk] at h
      simp only [psOf, if_neg hk]
      exact ih h
theorem GrD.none {nw : List (Addr × Obj)} {G : Grps} {kvs : List (Int × Value)} (g : GrD nw G kvs) {u : Int} (h : valueAt kvs u = none) : psOf u G = [] := by
  induction g with
  | nil => rfl
  | @cons G kvs k ps x hx g ih =>
    by_cases hk : k = u
    · subst hk
      simp [valueAt] at h
    · simp only [valueAt, List.find?_cons, decide_eq_false hk] at h
      simp only [psOf, if_neg hk]
      exact ih h
theorem stored_other {kvs : List (Int × Value)} {u : Int} {v : Value} (h : u ∉ kvs.map (·.1)) : stored kvs u v = kvs ++ [(u, v)] := by
  unfold stored
  rw [if_neg]
  intro hany
  refine cps fun gG kG => ?_
  obtain ⟨kv, hkv, e⟩ := List.any_eq_true.mp hany
  refine kG ?_
  clear kG gG
  exact h ((of_decide_eq_true e) ▸ List.mem_map_of_mem hkv)
theorem stored_cons {kvs : List (Int × Value)} {u k : Int} {v x : Value} (hk : ¬ k = u) : stored ((k, x) :: kvs) u v = (k, x) :: stored kvs u v := by
  unfold stored
  simp only [List.any_cons, decide_eq_false hk, Bool.false_or, List.map_cons, if_neg hk]
  split <;> simp
theorem stored_head {kvs : List (Int × Value)} {k : Int} {v x : Value} (h : k ∉ kvs.map (·.1)) : stored ((k, x) :: kvs) k v = (k, v) :: kvs := by
  unfold stored
  rw [if_pos (by simp)]
  simp only [List.map_cons, if_true]
  congr 1
  conv => rhs; rw [← List.map_id kvs]
  refine List.map_congr_left fun kv hkv => ?_
  rw [if_neg]
  · rfl
  · intro e
    exact h (e ▸ List.mem_map_of_mem hkv)
theorem GrD.step {nw nw' : List (Addr × Obj)} (hs : ∀ p ∈ nw, p ∈ nw') {G : Grps} {kvs : List (Int × Value)} (g : GrD nw G kvs) (hn : (kvs.map (·.1)).Nodup) {u : Int} {p : Int × Int} {v : Value}
    (hv : DatIn nw' v (grpDat u (psOf u G ++ [p]))) : GrD nw' (groupIn u p G) (stored kvs u v) := by
  induction g with
  | nil => exact .cons hv .nil
  | @cons G kvs k ps x hx g ih =>
    simp only [List.map_cons, List.nodup_cons] at hn
    by_cases hk : k = u
    · subst hk
      rw [stored_head hn.1]
      simp only [groupIn, if_true]
      simp only [psOf, if_true] at hv
      exact .cons hv (g.mono hs)
    · rw [stored_cons hk]
      simp only [groupIn, if_neg hk]
      simp only [psOf, if_neg hk] at hv
      exact .cons (hx.mono hs) (ih hn.2 hv)
theorem datIn_list {nw : List (Addr × Obj)} {v : Value} {ds : List Dat} (h : DatIn nw v (.list ds)) : ∃ l vs n, v = .ref l ∧ (l, listOf vs.toArray n) ∈ nw ∧ DatAll nw vs ds := by
  cases h with
  | list hm hr => exact ⟨_, _, _, rfl, hm, hr⟩
theorem GrD.at {h₀ h : Heap} {L : Addr} {nw rest tl : List (Addr × Obj)} {e : Addr} {ne : Nat} {p1 p2 : Addr × Obj} (N : News h₀ L h ((e, listOf ([] : List Value).toArray ne) :: p1 :: p2 :: tl)) (htl : nw ++ rest = tl) {G : Grps} {kvs : List (Int × Value)} (g : GrD nw G kvs) (u : Int) :
    ∃ l ws n, (valueAt kvs u).getD (.ref e) = .ref l ∧ (l, listOf ws.toArray n) ∈ (e, listOf ([] : List Value).toArray ne) :: p1 :: p2 :: tl ∧ DatAll ((e, listOf ([] : List Value).toArray ne) :: nw) ws ((psOf u G).map fun p => rowDat (p.1, p.2, u)) := by
  refine cps fun gG kG => ?_
  subst htl
  refine kG ?_
  clear kG gG
  cases hx : valueAt kvs u with
  | none => rw [g.none hx]; exact ⟨e, [], ne, rfl, .head _, .nil⟩
  | some v =>
    refine cps fun gG kG => ?_
    obtain ⟨l, ws, n, rfl, hm, hr⟩ := datIn_list (g.get hx)
    refine kG ?_
    clear kG gG
    exact ⟨l, ws, n, rfl, .tail _ (.tail _ (.tail _ (List.mem_append_left _ hm))), hr.mono fun p hp => .tail _ hp⟩
theorem led_ls {α : Type} {D S T E I d : α} {nw news : List α} : ∀ p ∈ I :: d :: ((D :: S :: T :: E :: nw) ++ news), p ∈ D :: S :: T :: E :: I :: d :: (nw ++ news) :=
  SegT.sub (segs := [[I], [d], [D], [S], [T], [E], nw, news]) (.a (.l 0) (.a (.l 1) (.a (.a (.l 2) (.a (.l 3) (.a (.l 4) (.a (.l 5) (.l 6))))) (.l 7)))) (.a (.l 2) (.a (.l 3) (.a (.l 4) (.a (.l 5) (.a (.l 0) (.a (.l 1) (.a (.l 6) (.l 7)))))))) rfl
theorem psOf_small (u : Int) {n : Nat} : ∀ {G : Grps}, (∀ q ∈ G, q.2.length ≤ n) → (psOf u G).length ≤ n
  | [], _ => Nat.zero_le _
  | (k, ps) :: r, h => by
    unfold psOf
    split
    · exact h _ (.head _)
    · exact psOf_small u fun q hq => h q (.tail _ hq)
noncomputable def lsM (vr vg : Value) (m₂ : Str → Option Value) : Str → Option Value :=
  fun z => if z = Str.ofString "rows" then some vr else if z = Str.ofString "gained" then some vg else m₂ z
theorem lsM_cut {vr vg : Value} {m : Str → Option Value} (h1 : m (Str.ofString "rows") = some vr) (h2 : m (Str.ofString "gained") = some vg) : lsM vr vg m = m := by
  funext z
  simp only [lsM]
  split
  · rename_i e; rw [e, h1]
  split
  · rename_i e; rw [e, h2]
  · rfl
structure LsJ (prog : Program) (w : World) (news : List (Addr × Obj)) (vr : Value) (G : Grps) (m' : Str → Option Value) (nx : List (Addr × Obj)) (d : Addr) (od : Obj) (kvs : List (Int × Value)) (nw : List (Addr × Obj)) : Prop where
  led : nx = (d, od) :: (nw ++ news)
  dict : od.IsDictOf (intKind prog w) kvs
  grp : GrD nw G kvs
  low : (d == sysModules) = false
  off : ∀ p ∈ nw ++ news, p.1 ≠ d
  apart : ∀ p ∈ nw, ∀ q ∈ news, p.1 ≠ q.1
  loc : lsM vr (.ref d) m' = m'
noncomputable def LsE (prog : Program) (w : World) (news : List (Addr × Obj)) (vr : Value) (G : Grps) (m' : Str → Option Value) (nx : List (Addr × Obj)) : Prop := ∃ d od kvs nw, LsJ prog w news vr G m' nx d od kvs nw
theorem LsE.mk {prog : Program} {w : World} {news : List (Addr × Obj)} {vr : Value} {G : Grps} {m' : Str → Option Value} {nx : List (Addr × Obj)} {d : Addr} {od : Obj} {kvs : List (Int × Value)} {nw : List (Addr × Obj)} (J : LsJ prog w news vr G m' nx d od kvs nw) : LsE prog w news vr G m' nx := ⟨_, _, _, _, J⟩
theorem LsE.out {prog : Program} {w : World} {news : List (Addr × Obj)} {vr : Value} {G : Grps} {m' : Str → Option Value} {nx : List (Addr × Obj)} {gG : Prop} (hh : LsE prog w news vr G m' nx) (kk : ∀ d od kvs nw, LsJ prog w news vr G m' nx d od kvs nw → gG) : gG := by
  obtain ⟨d, od, kvs, nw, J⟩ := hh
  exact kk d od kvs nw J
theorem LsJ.next {prog : Program} {w : World} {news : List (Addr × Obj)} {vr : Value} {rows : List Row} {i : Nat} {m' : Str → Option Value} {nx : List (Addr × Obj)} {d : Addr} {od od' : Obj} {kvs : List (Int × Value)} {nw : List (Addr × Obj)}
    (J : LsJ prog w news vr (groups (rows.take i)) m' nx d od kvs nw) {r : Row} (hr : rows[i]? = some r) {D S T E : Addr} {ne nS nT nD : Nat} {ws : List Value} {t1 t2 t3 : Tok} {I : Addr} {o : Obj} {h₀ h : Heap} {L : Addr} {tl : List (Addr × Obj)}
    (N : News h₀ L h ((D, listOf (ws ++ [Value.ref T]).toArray nD) :: (S, listOf [Value.ref T].toArray nS) :: (T, ({ cls := .type "tuple", data := .seq #[.int r.1 t1, .int r.2.1 t2, .int r.2.2 t3] nT } : Obj)) :: (E, listOf ([] : List Value).toArray ne) :: (I, o) :: (d, od') :: tl))
    (htl : nw ++ news = tl) (hws : DatAll ((E, listOf ([] : List Value).toArray ne) :: nw) ws ((psOf r.2.2 (groups (rows.take i))).map fun p => rowDat (p.1, p.2, r.2.2)))
    (hd : od'.IsDictOf (intKind prog w) (stored kvs r.2.2 (Value.ref D))) (hT : ∀ p ∈ (E, listOf ([] : List Value).toArray ne) :: (I, o) :: (d, od) :: tl, p.1 < T) (hTS : @LT.lt Nat _ T S) (hSD : @LT.lt Nat _ S D) (hE : @LT.lt Nat _ I E ∧ @LT.lt Nat _ d E ∧ AllLt E tl) (hI : ∀ p ∈ (d, od) :: tl, p.1 ≠ I) :
    ∃ nx', News h₀ L h ((I, o) :: nx') ∧ (∀ p ∈ nx', p.1 ≠ I) ∧ ∀ m₃, lsM vr (.ref d) m₃ = m₃ → ∃ d od kvs nw, LsJ prog w news vr (groups (rows.take (i + 1))) m₃ nx' d od kvs nw := by
  refine cps fun gG kG => ?_
  subst htl
  obtain ⟨es, ep, hes⟩ := J.dict
  refine kG ?_
  clear kG gG
  have hnod : (kvs.map (·.1)).Nodup := hes.2.2.2.2
  have sub : ∀ q ∈ nw ++ news, q ∈ (E, listOf ([] : List Value).toArray ne) :: (I, o) :: (d, od) :: (nw ++ news) := fun q hq => .tail _ (.tail _ (.tail _ hq))
  have hD : ∀ p ∈ (E, listOf ([] : List Value).toArray ne) :: (I, o) :: (d, od) :: (nw ++ news), p.1 < S ∧ p.1 < T ∧ p.1 < D := fun p hp => ⟨Nat.lt_trans (hT p hp) hTS, hT p hp, Nat.lt_trans (hT p hp) (Nat.lt_trans hTS hSD)⟩
  have hE : ∀ p ∈ (I, o) :: (d, od) :: (nw ++ news), p.1 < E := List.forall_mem_cons.mpr ⟨hE.1, List.forall_mem_cons.mpr ⟨hE.2.1, kst_ltOf hE.2.2⟩⟩
  have hI1 := hD (I, o) (.tail _ (.head _))
  have hI4 : I < S ∧ I < T ∧ I < D ∧ I < E := ⟨hI1.1, hI1.2.1, hI1.2.2, hE (I, o) (.head _)⟩
  have newne : ∀ q ∈ nw ++ news, D ≠ q.1 ∧ S ≠ q.1 ∧ T ≠ q.1 ∧ E ≠ q.1 := fun q hq => by
    have h := hD q (sub q hq)
    exact ⟨Nat.ne_of_gt h.2.2, Nat.ne_of_gt h.1, Nat.ne_of_gt h.2.1, Nat.ne_of_gt (hE q (.tail _ (.tail _ hq)))⟩
  have hd3 := hD (d, od) (.tail _ (.tail _ (.head _)))
  have hd4 := hE (d, od) (.tail _ (.head _))
  refine ⟨(d, od') :: ((_ :: _ :: _ :: _ :: nw) ++ news), fun p hp => N p (led_ls p hp), ?_, fun m₃ hm => ⟨d, od', _, _, ⟨rfl, hd, ?_, J.low, ?_, ?_, hm⟩⟩⟩
  · intro p hp
    rcases List.mem_cons.mp hp with rfl | hp
    · exact hI (d, od) (.head _)
    simp only [List.cons_append] at hp
    rcases List.mem_cons.mp hp with rfl | hp
    · exact Nat.ne_of_gt hI4.2.2.1
    rcases List.mem_cons.mp hp with rfl | hp
    · exact Nat.ne_of_gt hI4.1
    rcases List.mem_cons.mp hp with rfl | hp
    · exact Nat.ne_of_gt hI4.2.1
    rcases List.mem_cons.mp hp with rfl | hp
    · exact Nat.ne_of_gt hI4.2.2.2
    · exact hI p (.tail _ hp)
  · rw [groups_snoc rows hr]
    refine J.grp.step (fun p hp => .tail _ (.tail _ (.tail _ (.tail _ hp)))) hnod ?_
    unfold grpDat
    rw [List.map_append]
    refine .list (.head _) (DatAll.append (hws.mono fun p hp => ?_) (.one (.tuple (vs := [_, _, _]) (.tail _ (.tail _ (.head _))) (.cons (.int _ _) (.cons (.int _ _) (.cons (.int _ _) .nil))))))
    exact .tail _ (.tail _ (.tail _ hp))
  · intro p hp
    simp only [List.cons_append] at hp
    rcases List.mem_cons.mp hp with rfl | hp
    · exact Nat.ne_of_gt hd3.2.2
    rcases List.mem_cons.mp hp with rfl | hp
    · exact Nat.ne_of_gt hd3.1
    rcases List.mem_cons.mp hp with rfl | hp
    · exact Nat.ne_of_gt hd3.2.1
    rcases List.mem_cons.mp hp with rfl | hp
    · exact Nat.ne_of_gt hd4
    · exact J.off p hp
  · intro p hp q hq
    have hn := newne q (List.mem_append_right _ hq)
    rcases List.mem_cons.mp hp with rfl | hp
    · exact hn.1
    rcases List.mem_cons.mp hp with rfl | hp
    · exact hn.2.1
    rcases List.mem_cons.mp hp with rfl | hp
    · exact hn.2.2.1
    rcases List.mem_cons.mp hp with rfl | hp
    · exact hn.2.2.2
    · exact J.apart p hp q hq
section
variable {prog : Program} {w : World} {A : Around} {E : Value → Shared → Prop} {s : Shared} {h₀ : Heap} {L : Addr} {m : Str → Option Value} {news : List (Addr × Obj)} {Q : Value → Shared → Prop}
theorem add_any {a b : Addr} {vs us : List Value} {n1 n2 : Nat} (F : Fr h₀ L s.heap m) (N : News h₀ L s.heap news) (ha : (a, listOf vs.toArray n1) ∈ news) (hb : (b, listOf us.toArray n2) ∈ news) (hz : vs.length + us.length ≤ sizeLine)
    (h : ∀ D h', Fr h₀ L h' m → News h₀ L h' ((D, listOf (vs ++ us).toArray 0) :: news) → (∀ p ∈ news, p.1 < D) → Q (.ref D) { s with heap := h' }) :
    wpAny (model prog w) A (binaryOp .Add (.ref a) (.ref b)) Q E s :=
  add_lists F N ⟨_, (N _ ha).1, rfl, n1, rfl⟩ ⟨_, (N _ hb).1, rfl, n2, rfl⟩ (fun h' F' N' => h _ h' F' N' fun p hp => Heap.lt_size (N p hp).1) hz
end
end
section
noncomputable def flatB (ps : List (Int × Int)) : List Int := ps.flatMap fun p => leB p.1 4 ++ leB p.2 4
noncomputable def octW (u : Int) (ps : List (Int × Int)) : List Int := leB (12 + (flatB (ps ++ [(0, 0)])).length) 4 ++ [2, 0] ++ leB u 4 ++ [4, 0, 0, 0, 0, 0] ++ flatB (ps ++ [(0, 0)])
noncomputable def octsW (G : Grps) : List Int := G.flatMap fun g => octW g.1 g.2
theorem leB_len (x : Int) (n : Nat) : (leB x n).length = n := by simp [leB]
theorem flatB_len (ps : List (Int × Int)) : (flatB ps).length = 8 * ps.length := by
  induction ps with
  | nil => rfl
  | cons p ps ih =>
    show (leB p.1 4 ++ leB p.2 4 ++ flatB ps).length = _
    simp only [List.length_append, leB_len, ih, List.length_cons]
    lia
theorem octW_len (u : Int) (ps : List (Int × Int)) : (octW u ps).length = 24 + 8 * ps.length := by
  simp only [octW, List.length_append, leB_len, flatB_len, List.length_cons, List.length_nil]
  lia
theorem octsW_len {G : Grps} (h : ∀ g ∈ G, g.2.length ≤ 5) : (octsW G).length ≤ 64 * G.length := by
  induction G with
  | nil => exact Nat.le_refl _
  | cons g G ih =>
    have h1 := ih fun q hq => h q (.tail _ hq)
    have h2 := h g (.head _)
    show (octW g.1 g.2 ++ octsW G).length ≤ _
    simp only [List.length_append, octW_len, List.length_cons]
    lia
theorem flatB_snoc (ps : List (Int × Int)) {i : Nat} {p : Int × Int} (h : ps[i]? = some p) : flatB (ps.take (i + 1)) = flatB (ps.take i) ++ leB p.1 4 ++ leB p.2 4 := by
  rw [List.take_succ, h]
  simp [flatB, List.flatMap_append]
theorem octsW_snoc (G : Grps) {i : Nat} {u : Int} {ps : List (Int × Int)} (h : G[i]? = some (u, ps)) : octsW (G.take (i + 1)) = octsW (G.take i) ++ octW u ps := by
  rw [List.take_succ, h]
  simp [octsW, List.flatMap_append]
theorem GrD.item {nw : List (Addr × Obj)} {G : Grps} {kvs : List (Int × Value)} (g : GrD nw G kvs) (hn : (kvs.map (·.1)).Nodup) {i : Nat} {k : Int} {x : Value} (h : kvs[i]? = some (k, x)) :
    ∃ ps l vs n, G[i]? = some (k, ps) ∧ valueAt kvs k = some (.ref l) ∧ x = .ref l ∧ (l, listOf vs.toArray n) ∈ nw ∧ DatAll nw vs (ps.map fun p => rowDat (p.1, p.2, k)) := by
  induction g generalizing i with
  | nil => simp at h
  | @cons G kvs u ps v hv g ih =>
    simp only [List.map_cons, List.nodup_cons] at hn
    cases i with
    | zero =>
      simp only [List.getElem?_cons_zero, Option.some.injEq, Prod.mk.injEq] at h
      refine cps fun gG kG => ?_
      obtain ⟨rfl, rfl⟩ := h
      obtain ⟨l, vs, n, rfl, hm, hr⟩ := datIn_list hv
      refine kG ?_
      clear kG gG
      exact ⟨ps, l, vs, n, rfl, by simp [valueAt], rfl, hm, hr⟩
    | succ i =>
      simp only [List.getElem?_cons_succ] at h
      refine cps fun gG kG => ?_
      obtain ⟨ps', l, vs, n, q1, q2, q3, q4, q5⟩ := ih hn.2 h
      refine kG ?_
      clear kG gG
      have hne : ¬ u = k := fun e => hn.1 (by rw [e]; exact List.mem_map_of_mem (f := (·.1)) (List.mem_of_getElem? h))
      refine ⟨ps', l, vs, n, by simpa using q1, ?_, q3, q4, q5⟩
      simp only [valueAt, List.find?_cons, decide_eq_false hne]
      exact q2
noncomputable def goodCell (c : Int × Int) : Prop := 0 ≤ c.1 ∧ c.1 < 2 ^ 20 ∧ (c.2 = 1 ∨ c.2 = 2 ∨ c.2 = 4)
noncomputable def lwM (vr vg vc vt : Value) (m₂ : Str → Option Value) : Str → Option Value :=
  fun z => if z = Str.ofString "rows" then some vr else if z = Str.ofString "gained" then some vg else if z = Str.ofString "cells_at" then some vc else if z = Str.ofString "told_by" then some vt else m₂ z
theorem lwM_cut {vr vg vc vt : Value} {m : Str → Option Value} (h1 : m (Str.ofString "rows") = some vr) (h2 : m (Str.ofString "gained") = some vg) (h3 : m (Str.ofString "cells_at") = some vc) (h4 : m (Str.ofString "told_by") = some vt) : lwM vr vg vc vt m = m := by
  funext z
  simp only [lwM]
  split
  · rename_i e; rw [e, h1]
  split
  · rename_i e; rw [e, h2]
  split
  · rename_i e; rw [e, h3]
  split
  · rename_i e; rw [e, h4]
  · rfl
noncomputable def lw2M (vu vs vb vg vc vt vr : Value) (m₂ : Str → Option Value) : Str → Option Value :=
  fun z => if z = Str.ofString "unit" then some vu else if z = Str.ofString "start" then some vs else if z = Str.ofString "body" then some vb else lwM vr vg vc vt m₂ z
theorem lw2M_cut {vu vs vb vg vc vt vr : Value} {m : Str → Option Value} (h5 : m (Str.ofString "unit") = some vu) (h6 : m (Str.ofString "start") = some vs) (h7 : m (Str.ofString "body") = some vb) (h1 : m (Str.ofString "rows") = some vr) (h2 : m (Str.ofString "gained") = some vg) (h3 : m (Str.ofString "cells_at") = some vc) (h4 : m (Str.ofString "told_by") = some vt) : lw2M vu vs vb vg vc vt vr m = m := by
  funext z
  simp only [lw2M]
  split
  · rename_i e; rw [e, h5]
  split
  · rename_i e; rw [e, h6]
  split
  · rename_i e; rw [e, h7]
  · exact congrFun (lwM_cut h1 h2 h3 h4) z
noncomputable def Apt (c I : Addr) (r : List (Addr × Obj)) (a : Addr) : Prop := a ≠ c ∧ a ≠ I ∧ ∀ q ∈ r, a ≠ q.1
structure LwJ (tl : List (Addr × Obj)) (vr vt : Value) (G : Grps) (i : Nat) (m' : Str → Option Value) (nx : List (Addr × Obj)) (g : Addr) (gvs : List Value) (gn : Nat) (c : Addr) (cvs : List Value) (cn : Nat) (cw : List (Addr × Obj)) (cells : List (Int × Int)) : Prop where
  led : nx = (g, listOf gvs.toArray gn) :: (c, listOf cvs.toArray cn) :: (cw ++ tl)
  oct : IntsAre gvs (octsW (G.take i))
  dat : DatAll cw cvs (cells.map pairDat)
  good : ∀ x ∈ cells, goodCell x
  few : cells.length ≤ 100 * i
  off : ∀ p ∈ cw ++ tl, p.1 ≠ c
  gc : g ≠ c
  apart : ∀ p ∈ cw, ∀ q ∈ tl, p.1 ≠ q.1
  gap : ∀ q ∈ tl, g ≠ q.1
  loc : lwM vr (.ref g) (.ref c) vt m' = m'
noncomputable def LwE (tl : List (Addr × Obj)) (vr : Value) (vt : Value) (G : Grps) (i : Nat) (m' : Str → Option Value) (nx : List (Addr × Obj)) : Prop := ∃ g gvs gn c cvs cn cw cells, LwJ tl vr vt G i m' nx g gvs gn c cvs cn cw cells
theorem LwE.mk {tl : List (Addr × Obj)} {vr : Value} {vt : Value} {G : Grps} {i : Nat} {m' : Str → Option Value} {nx : List (Addr × Obj)} {g : Addr} {gvs : List Value} {gn : Nat} {c : Addr} {cvs : List Value} {cn : Nat} {cw : List (Addr × Obj)} {cells : List (Int × Int)} (J : LwJ tl vr vt G i m' nx g gvs gn c cvs cn cw cells) : LwE tl vr vt G i m' nx := ⟨_, _, _, _, _, _, _, _, J⟩
theorem LwE.out {tl : List (Addr × Obj)} {vr : Value} {vt : Value} {G : Grps} {i : Nat} {m' : Str → Option Value} {nx : List (Addr × Obj)} {gG : Prop} (hh : LwE tl vr vt G i m' nx) (kk : ∀ g gvs gn c cvs cn cw cells, LwJ tl vr vt G i m' nx g gvs gn c cvs cn cw cells → gG) : gG := by
  obtain ⟨g, gvs, gn, c, cvs, cn, cw, cells, J⟩ := hh
  exact kk g gvs gn c cvs cn cw cells J
theorem lw_led {α : Type} {D g c d : α} {nw news : List α} : ∀ p ∈ g :: c :: ([] ++ (d :: (nw ++ news))), p ∈ D :: d :: (nw ++ c :: g :: news) :=
  SegT.sub (segs := [[g], [c], [], [d], nw, news, [D]]) (.a (.l 0) (.a (.l 1) (.a (.l 3) (.a (.l 4) (.l 5))))) (.a (.l 6) (.a (.l 3) (.a (.l 4) (.a (.l 1) (.a (.l 0) (.l 5)))))) rfl
theorem lw_off {g c d : Addr} {og oc od : Obj} {nw news : List (Addr × Obj)} (hof : ∀ p ∈ nw ++ (c, oc) :: (g, og) :: news, p.1 ≠ d) (hap : ∀ p ∈ nw, ∀ q ∈ (c, oc) :: (g, og) :: news, p.1 ≠ q.1) (hl : @LT.lt Nat _ g c ∧ AllLt c news) :
    ∀ p ∈ [] ++ ((d, od) :: (nw ++ news)), p.1 ≠ c := by
  intro p hp
  rw [List.nil_append] at hp
  rcases List.mem_cons.mp hp with rfl | hp
  · exact Ne.symm (hof (c, oc) (List.mem_append_right _ (.head _)))
  rcases List.mem_append.mp hp with hp | hp
  · exact hap p hp (c, oc) (.head _)
  · exact Nat.ne_of_lt (kst_ltOf hl.2 p hp)
theorem lw_led2 {α : Type} {B X S T U : α} {r : List α} : ∀ p ∈ B :: X :: T :: r, p ∈ X :: S :: T :: U :: B :: r :=
  SegT.sub (segs := [[B], [X], [T], r, [S], [U]]) (.a (.l 0) (.a (.l 1) (.a (.l 2) (.l 3)))) (.a (.l 1) (.a (.l 4) (.a (.l 2) (.a (.l 5) (.a (.l 0) (.l 3)))))) rfl
theorem lw_rows {nw : List (Addr × Obj)} {T : Addr} {n : Nat} {t1 t2 t3 : Tok} {k : Int} {ws : List Value} {ps : List (Int × Int)} (h : DatAll nw ws (ps.map fun p => rowDat (p.1, p.2, k))) :
    DatAll ((T, ({ cls := .type "tuple", data := .seq #[.int 0 t1, .int 0 t2, .int k t3] n } : Obj)) :: nw) (ws ++ [Value.ref T]) (((ps ++ [((0 : Int), (0 : Int))]).map fun p : Int × Int => ((p.1, p.2, k) : Row)).map rowDat) := by
  rw [List.map_append, List.map_append, List.map_map]
  exact DatAll.append (h.mono fun p hp => .tail _ hp) (.one (.tuple (vs := [_, _, _]) (.head _) (.cons (.int _ _) (.cons (.int _ _) (.cons (.int _ _) .nil)))))
theorem lw_at {ps : List (Int × Int)} {k : Int} {j : Nat} {r : Row} (h : (ps.map fun p : Int × Int => ((p.1, p.2, k) : Row))[j]? = some r) : ps[j]? = some (r.1, r.2.1) ∧ r.2.2 = k := by
  rw [List.getElem?_map] at h
  cases hp : ps[j]? with
  | none => rw [hp] at h; cases h
  | some p =>
    rw [hp] at h
    cases h
    exact ⟨rfl, rfl⟩
theorem lw_setup {h₀ h : Heap} {L : Addr} {nw r : List (Addr × Obj)} {X T : Addr} {oX : Obj} {S U B : Addr × Obj} {n : Nat} {t1 t2 t3 : Tok} {k : Int} {ws : List Value} {ps : List (Int × Int)}
    (N : News h₀ L h ((X, oX) :: S :: (T, ({ cls := .type "tuple", data := .seq #[.int 0 t1, .int 0 t2, .int k t3] n } : Obj)) :: U :: B :: r)) (hws : DatAll nw ws (ps.map fun p => rowDat (p.1, p.2, k))) (hnr : ∀ p ∈ nw, p ∈ r) :
    ∃ r3, News h₀ L h (B :: r3) ∧ (X, oX) ∈ r3 ∧ DatAll r3 (ws ++ [Value.ref T]) (((ps ++ [((0 : Int), (0 : Int))]).map fun p : Int × Int => ((p.1, p.2, k) : Row)).map rowDat) ∧ ∀ p ∈ r, p ∈ r3 :=
  ⟨_, cb_drop N lw_led2, .head _, (lw_rows hws).mono fun p hp => (List.mem_cons.mp hp).elim (fun e => e ▸ .tail _ (.head _)) fun h => .tail _ (.tail _ (hnr p h)), fun p hp => .tail _ (.tail _ hp)⟩
theorem lw_led3 {α : Type} {D R D1 R1 I b : α} {r : List α} : ∀ p ∈ I :: D :: r, p ∈ D :: R :: D1 :: R1 :: I :: b :: r :=
  SegT.sub (segs := [[I], [D], r, [R], [D1], [R1], [b]]) (.a (.l 0) (.a (.l 1) (.l 2))) (.a (.l 1) (.a (.l 3) (.a (.l 4) (.a (.l 5) (.a (.l 0) (.a (.l 6) (.l 2))))))) rfl
theorem lw_off2 {D b I : Addr} {oD ob : Obj} {r : List (Addr × Obj)} (h : ∀ p ∈ (b, ob) :: r, p.1 ≠ I) (hI : @LT.lt Nat _ I D) : ∀ p ∈ (D, oD) :: r, p.1 ≠ I := List.forall_mem_cons.mpr ⟨Nat.ne_of_gt hI, fun p hp => h p (.tail _ hp)⟩
theorem lw_cut {α : Type} {G x1 x2 x3 x4 x5 x6 x7 x8 x9 I g c : α} {r : List α} : ∀ p ∈ c :: G :: I :: r, p ∈ G :: x1 :: x2 :: x3 :: x4 :: x5 :: x6 :: x7 :: x8 :: x9 :: I :: g :: c :: r :=
  SegT.sub (segs := [[c], [G], [I], r, [x1], [x2], [x3], [x4], [x5], [x6], [x7], [x8], [x9], [g]]) (.a (.l 0) (.a (.l 1) (.a (.l 2) (.l 3)))) (.a (.l 1) (.a (.l 4) (.a (.l 5) (.a (.l 6) (.a (.l 7) (.a (.l 8) (.a (.l 9) (.a (.l 10) (.a (.l 11) (.a (.l 12) (.a (.l 2) (.a (.l 13) (.a (.l 0) (.l 3)))))))))))))) rfl
theorem lw_oct {G : Grps} {i : Nat} {k : Int} {ps : List (Int × Int)} {us : List Value} (h : G[i]? = some (k, ps)) (hI : IntsAre us (octsW (G.take i) ++ leB (12 + ((flatB (ps ++ [((0 : Int), (0 : Int))])).length : Int)) 4 ++ [2, 0] ++ leB k 4 ++ [4, 0, 0, 0, 0, 0] ++ flatB (ps ++ [((0 : Int), (0 : Int))]))) : IntsAre us (octsW (G.take (i + 1))) := by
  rw [octsW_snoc G h]
  unfold octW
  simpa only [List.append_assoc] using hI
theorem lw_hc {h₀ h : Heap} {L c G I : Addr} {oc oG oI : Obj} {r : List (Addr × Obj)} (N : News h₀ L h ((c, oc) :: (G, oG) :: (I, oI) :: r)) (h1 : @Ne Nat G c) (h2 : @Ne Nat I c) (h3 : ∀ p ∈ r, p.1 ≠ c) : ∀ p ∈ (G, oG) :: (I, oI) :: r, p.1 ≠ c :=
  List.forall_mem_cons.mpr ⟨h1, List.forall_mem_cons.mpr ⟨h2, h3⟩⟩
noncomputable def cells6 (st : Int) : List (Int × Int) := [(st, 4), (st + 4, 2), (st + 6, 4), (st + 10, 1), (st + 11, 1), (st + 12, 4)]
theorem lw_perm {α : Type} {l x6 x5 x4 x3 x2 x1 c y1 y2 : α} {r : List α} : ∀ p ∈ c :: l :: y1 :: y2 :: ([x6, x5, x4, x3, x2, x1] ++ r), p ∈ l :: x6 :: x5 :: x4 :: x3 :: x2 :: x1 :: c :: y1 :: y2 :: r :=
  SegT.sub (segs := [[c], [l], [y1], [y2], [x1], [x2], [x3], [x4], [x5], [x6], r]) (.a (.l 0) (.a (.l 1) (.a (.l 2) (.a (.l 3) (.a (.a (.l 9) (.a (.l 8) (.a (.l 7) (.a (.l 6) (.a (.l 5) (.l 4)))))) (.l 10)))))) (.a (.l 1) (.a (.l 9) (.a (.l 8) (.a (.l 7) (.a (.l 6) (.a (.l 5) (.a (.l 4) (.a (.l 0) (.a (.l 2) (.a (.l 3) (.l 10))))))))))) rfl
theorem lw_six {h₀ h : Heap} {L l6 t1 t2 t3 t4 t5 t6 c I : Addr} {oc : Obj} {y1 y2 : Addr × Obj} {r : List (Addr × Obj)} {st : Int} {n0 n1 n2 n3 n4 n5 n6 : Nat} {a1 a2 a3 a4 a5 a6 b1 b2 b3 b4 b5 b6 : Tok}
    (N : News h₀ L h ((l6, listOf #[.ref t1, .ref t2, .ref t3, .ref t4, .ref t5, .ref t6] n0) :: (t6, ({ cls := .type "tuple", data := .seq #[.int (st + 12) a6, .int 4 b6] n6 } : Obj)) :: (t5, ({ cls := .type "tuple", data := .seq #[.int (st + 11) a5, .int 1 b5] n5 } : Obj)) :: (t4, ({ cls := .type "tuple", data := .seq #[.int (st + 10) a4, .int 1 b4] n4 } : Obj)) :: (t3, ({ cls := .type "tuple", data := .seq #[.int (st + 6) a3, .int 4 b3] n3 } : Obj)) :: (t2, ({ cls := .type "tuple", data := .seq #[.int (st + 4) a2, .int 2 b2] n2 } : Obj)) :: (t1, ({ cls := .type "tuple", data := .seq #[.int st a1, .int 4 b1] n1 } : Obj)) :: (c, oc) :: y1 :: y2 :: r)) (hr : ∀ p ∈ y1 :: y2 :: r, p.1 ≠ c)
    (h1 : @LT.lt Nat _ c t1) (i1 : @LT.lt Nat _ I t1) (r1 : AllLt t1 r) (h0 : @LT.lt Nat _ t1 l6) (h2 : @LT.lt Nat _ t1 t2) (h3 : @LT.lt Nat _ t1 t3) (h4 : @LT.lt Nat _ t1 t4) (h5 : @LT.lt Nat _ t1 t5) (h6 : @LT.lt Nat _ t1 t6) :
    ∃ six, News h₀ L h ((c, oc) :: (l6, listOf [Value.ref t1, .ref t2, .ref t3, .ref t4, .ref t5, .ref t6].toArray n0) :: y1 :: y2 :: (six ++ r)) ∧ DatAll six [.ref t1, .ref t2, .ref t3, .ref t4, .ref t5, .ref t6] ((cells6 st).map pairDat) ∧ (∀ p ∈ (l6, listOf [Value.ref t1, .ref t2, .ref t3, .ref t4, .ref t5, .ref t6].toArray n0) :: y1 :: y2 :: (six ++ r), p.1 ≠ c) ∧ (∀ p ∈ six, Apt c I r p.1) := by
  have ap : ∀ t : Addr, @LE.le Nat _ t1 t → Apt c I r t := fun t ht => ⟨Nat.ne_of_gt (Nat.lt_of_lt_of_le h1 ht), Nat.ne_of_gt (Nat.lt_of_lt_of_le i1 ht), fun q hq => Nat.ne_of_gt (Nat.lt_of_lt_of_le (kst_ltOf r1 q hq) ht)⟩
  have hs : ∀ p ∈ ([(t6, ({ cls := .type "tuple", data := .seq #[.int (st + 12) a6, .int 4 b6] n6 } : Obj)), (t5, ({ cls := .type "tuple", data := .seq #[.int (st + 11) a5, .int 1 b5] n5 } : Obj)), (t4, ({ cls := .type "tuple", data := .seq #[.int (st + 10) a4, .int 1 b4] n4 } : Obj)), (t3, ({ cls := .type "tuple", data := .seq #[.int (st + 6) a3, .int 4 b3] n3 } : Obj)), (t2, ({ cls := .type "tuple", data := .seq #[.int (st + 4) a2, .int 2 b2] n2 } : Obj)), (t1, ({ cls := .type "tuple", data := .seq #[.int st a1, .int 4 b1] n1 } : Obj))] : List (Addr × Obj)), Apt c I r p.1 := by
    intro p hp
    simp only [List.mem_cons, List.not_mem_nil, or_false] at hp
    rcases hp with rfl | rfl | rfl | rfl | rfl | rfl
    · exact ap _ (Nat.le_of_lt h6)
    · exact ap _ (Nat.le_of_lt h5)
    · exact ap _ (Nat.le_of_lt h4)
    · exact ap _ (Nat.le_of_lt h3)
    · exact ap _ (Nat.le_of_lt h2)
    · exact ap _ (Nat.le_refl _)
  refine ⟨[(t6, ({ cls := .type "tuple", data := .seq #[.int (st + 12) a6, .int 4 b6] n6 } : Obj)), (t5, ({ cls := .type "tuple", data := .seq #[.int (st + 11) a5, .int 1 b5] n5 } : Obj)), (t4, ({ cls := .type "tuple", data := .seq #[.int (st + 10) a4, .int 1 b4] n4 } : Obj)), (t3, ({ cls := .type "tuple", data := .seq #[.int (st + 6) a3, .int 4 b3] n3 } : Obj)), (t2, ({ cls := .type "tuple", data := .seq #[.int (st + 4) a2, .int 2 b2] n2 } : Obj)), (t1, ({ cls := .type "tuple", data := .seq #[.int st a1, .int 4 b1] n1 } : Obj))], fun p hp => N p (lw_perm p hp), ?_, ?_, hs⟩
  · exact .cons (.tuple (vs := [.int st a1, .int 4 b1]) (n := n1) (.tail _ (.tail _ (.tail _ (.tail _ (.tail _ (.head _)))))) (.cons (.int _ _) (.cons (.int _ _) .nil))) (.cons (.tuple (vs := [.int (st + 4) a2, .int 2 b2]) (n := n2) (.tail _ (.tail _ (.tail _ (.tail _ (.head _))))) (.cons (.int _ _) (.cons (.int _ _) .nil))) (.cons (.tuple (vs := [.int (st + 6) a3, .int 4 b3]) (n := n3) (.tail _ (.tail _ (.tail _ (.head _)))) (.cons (.int _ _) (.cons (.int _ _) .nil))) (.cons (.tuple (vs := [.int (st + 10) a4, .int 1 b4]) (n := n4) (.tail _ (.tail _ (.head _))) (.cons (.int _ _) (.cons (.int _ _) .nil))) (.cons (.tuple (vs := [.int (st + 11) a5, .int 1 b5]) (n := n5) (.tail _ (.head _)) (.cons (.int _ _) (.cons (.int _ _) .nil))) (.cons (.tuple (vs := [.int (st + 12) a6, .int 4 b6]) (n := n6) (.head _) (.cons (.int _ _) (.cons (.int _ _) .nil))) .nil)))))
  · intro p hp
    rcases List.mem_cons.mp hp with rfl | hp
    · exact (ap l6 (Nat.le_of_lt h0)).1
    rcases List.mem_cons.mp hp with rfl | hp
    · exact hr _ (.head _)
    rcases List.mem_cons.mp hp with rfl | hp
    · exact hr _ (.tail _ (.head _))
    rcases List.mem_append.mp hp with hp | hp
    · exact (hs p hp).1
    · exact hr p (.tail _ (.tail _ hp))
theorem cells6_good {st : Int} (h0 : 0 ≤ st) (h1 : st < 1000) : ∀ x ∈ cells6 st, goodCell x := by
  intro x hx
  simp only [cells6, List.mem_cons, List.not_mem_nil, or_false] at hx
  unfold goodCell
  rcases hx with rfl | rfl | rfl | rfl | rfl | rfl <;> dsimp only <;> lia
theorem rng_d {a b : Int} (h : a < b) : ∃ d : Nat, b - a - 1 = d := Int.eq_ofNat_of_zero_le (by lia)
theorem rng4 {a b : Int} (h0 : 16 ≤ a) (hb : b ≤ 384) : ∃ n : Nat, Builtin.Range.rangeSize a b 4 = (n : Int) ∧ n ≤ 93 ∧ ∀ i : Nat, i < n → 0 ≤ a + i * 4 ∧ a + i * 4 < 2 ^ 20 := by
  unfold Builtin.Range.rangeSize
  rw [if_pos (by decide)]
  by_cases h : a < b
  · rw [if_pos h]
    obtain ⟨d, hd⟩ := rng_d h
    rw [hd]
    have h1 : (d : Int) ≤ 368 := by lia
    refine ⟨d / 4 + 1, rfl, Nat.succ_le_succ (Nat.div_le_div_right (c := 4) (Int.ofNat_le.mp h1)), ?_⟩
    intro i hi
    have h3 : (i : Int) * 4 ≤ d := Int.ofNat_le.mpr (Nat.le_trans (Nat.mul_le_mul_right 4 (Nat.le_of_lt_succ hi)) (Nat.div_mul_le_self d 4))
    exact ⟨Int.add_nonneg (Int.le_trans (by decide) h0) (Int.mul_nonneg (Int.natCast_nonneg i) (by decide)), by lia⟩
  · rw [if_neg h]
    exact ⟨0, rfl, Nat.zero_le _, fun i hi => absurd hi (Nat.not_lt_zero _)⟩
structure LcJ (base : List (Addr × Obj)) (c I : Addr) (r : List (Addr × Obj)) (i : Nat) (ys : List Value) (nx pw : List (Addr × Obj)) (cs : List (Int × Int)) : Prop where
  led : nx = pw ++ base
  dat : DatAll pw ys (cs.map pairDat)
  good : ∀ x ∈ cs, goodCell x
  len : ys.length = i
  off : ∀ p ∈ pw, Apt c I r p.1
noncomputable def LcE (base : List (Addr × Obj)) (c : Addr) (I : Addr) (r : List (Addr × Obj)) (i : Nat) (ys : List Value) (nx : List (Addr × Obj)) : Prop := ∃ pw cs, LcJ base c I r i ys nx pw cs
theorem LcE.mk {base : List (Addr × Obj)} {c : Addr} {I : Addr} {r : List (Addr × Obj)} {i : Nat} {ys : List Value} {nx : List (Addr × Obj)} {pw : List (Addr × Obj)} {cs : List (Int × Int)} (J : LcJ base c I r i ys nx pw cs) : LcE base c I r i ys nx := ⟨_, _, J⟩
theorem LcE.out {base : List (Addr × Obj)} {c : Addr} {I : Addr} {r : List (Addr × Obj)} {i : Nat} {ys : List Value} {nx : List (Addr × Obj)} {gG : Prop} (hh : LcE base c I r i ys nx) (kk : ∀ pw cs, LcJ base c I r i ys nx pw cs → gG) : gG := by
  obtain ⟨pw, cs, J⟩ := hh
  exact kk pw cs J
theorem lw_lc {base r : List (Addr × Obj)} {c I : Addr} {i : Nat} {ys : List Value} {pw : List (Addr × Obj)} {cs : List (Int × Int)} (J : LcJ base c I r i ys (pw ++ base) pw cs) {T : Addr} {n : Nat} {a b : Int} {ta tb : Tok} (hg : goodCell (a, b)) (hT : Apt c I r T) :
    LcJ base c I r (i + 1) (ys ++ [Value.ref T]) ((T, ({ cls := .type "tuple", data := .seq #[.int a ta, .int b tb] n } : Obj)) :: (pw ++ base)) ((T, ({ cls := .type "tuple", data := .seq #[.int a ta, .int b tb] n } : Obj)) :: pw) (cs ++ [(a, b)]) := by
  refine ⟨rfl, ?_, ?_, by rw [List.length_append, J.len]; rfl, List.forall_mem_cons.mpr ⟨hT, J.off⟩⟩
  · rw [List.map_append]
    exact DatAll.append (J.dat.mono fun p hp => .tail _ hp) (.one (.tuple (vs := [.int a ta, .int b tb]) (n := n) (.head _) (.cons (.int _ _) (.cons (.int _ _) .nil))))
  · intro x hx
    rcases List.mem_append.mp hx with hx | hx
    · exact J.good x hx
    · rw [List.mem_singleton.mp hx]; exact hg
theorem lw_led4 {α : Type} {T I C D : α} {r : List α} : ∀ p ∈ I :: C :: D :: (T :: r), p ∈ T :: I :: C :: D :: r :=
  SegT.sub (segs := [[I], [C], [D], [T], r]) (.a (.l 0) (.a (.l 1) (.a (.l 2) (.a (.l 3) (.l 4))))) (.a (.l 3) (.a (.l 0) (.a (.l 1) (.a (.l 2) (.l 4))))) rfl
theorem lw_off4 {T I C D : Addr} {oT : Obj} {r : List (Addr × Obj)} (h : ∀ p ∈ r, p.1 ≠ I ∧ p.1 ≠ C ∧ p.1 ≠ D) (hT : @LT.lt Nat _ I T ∧ @LT.lt Nat _ C T ∧ @LT.lt Nat _ D T ∧ AllLt T r) : ∀ p ∈ (T, oT) :: r, p.1 ≠ I ∧ p.1 ≠ C ∧ p.1 ≠ D :=
  List.forall_mem_cons.mpr ⟨⟨Nat.ne_of_gt hT.1, Nat.ne_of_gt hT.2.1, Nat.ne_of_gt hT.2.2.1⟩, h⟩
theorem rng_small {a b : Int} (h0 : 0 ≤ a) (h1 : a < 2 ^ 20) (h2 : 0 ≤ b) (h3 : b < 2 ^ 20) : Builtin.Range.small a b 4 = true := by
  have e : ∀ x : Int, 0 ≤ x → x < 2 ^ 30 → Builtin.Range.rangeFitsLong x = true := fun x h h' => by
    simp only [Builtin.Range.rangeFitsLong, Bool.and_eq_true, decide_eq_true_eq]
    lia
  have hs : 0 ≤ Builtin.Range.rangeSize a b 4 ∧ Builtin.Range.rangeSize a b 4 < 2 ^ 30 := by
    unfold Builtin.Range.rangeSize
    rw [if_pos (by decide)]
    split
    · rename_i h
      obtain ⟨d, hd⟩ := rng_d h
      rw [hd]
      exact ⟨Int.natCast_nonneg (d / 4 + 1), Int.lt_of_le_of_lt (Int.ofNat_le.mpr (Nat.succ_le_succ (Nat.div_le_self d 4)) : ((d / 4 + 1 : Nat) : Int) ≤ ((d + 1 : Nat) : Int)) (by lia)⟩
    · decide
  unfold Builtin.Range.small
  simp only [e a h0 (by lia), e b h2 (by lia), e 4 (by decide) (by decide), e _ hs.1 hs.2, e (b + (4 - 1)) (by lia) (by lia), Bool.and_true, Bool.true_and]
  simp
theorem lw_led5 {α : Type} {D c l G I : α} {pw six tl : List α} : ∀ p ∈ c :: D :: G :: I :: (pw ++ (six ++ tl)), p ∈ D :: (pw ++ (c :: l :: G :: I :: (six ++ tl))) :=
  SegT.sub (segs := [[c], [D], [G], [I], pw, six, tl, [l]]) (.a (.l 0) (.a (.l 1) (.a (.l 2) (.a (.l 3) (.a (.l 4) (.a (.l 5) (.l 6))))))) (.a (.l 1) (.a (.l 4) (.a (.l 0) (.a (.l 7) (.a (.l 2) (.a (.l 3) (.a (.l 5) (.l 6)))))))) rfl
theorem lw_led6 {α : Type} {D c G I : α} {pw six cw tl : List α} : ∀ p ∈ I :: (G :: c :: ((pw ++ (six ++ cw)) ++ tl)), p ∈ c :: D :: G :: I :: (pw ++ (six ++ (cw ++ tl))) :=
  SegT.sub (segs := [[I], [G], [c], pw, six, cw, tl, [D]]) (.a (.l 0) (.a (.l 1) (.a (.l 2) (.a (.a (.l 3) (.a (.l 4) (.l 5))) (.l 6))))) (.a (.l 2) (.a (.l 7) (.a (.l 1) (.a (.l 0) (.a (.l 3) (.a (.l 4) (.a (.l 5) (.l 6)))))))) rfl
theorem LwJ.next {tl : List (Addr × Obj)} {vr vt : Value} {G : Grps} {i : Nat} {m' m₃ : Str → Option Value} {nx : List (Addr × Obj)} {g : Addr} {gvs : List Value} {gn : Nat} {c : Addr} {cvs : List Value} {cn : Nat} {cw : List (Addr × Obj)} {cells : List (Int × Int)}
    (J : LwJ tl vr vt G i m' nx g gvs gn c cvs cn cw cells) {I : Addr} {six pw base : List (Addr × Obj)} {v6 : List Value} {st : Int} (h0 : 0 ≤ st) (h1 : st < 1000) (hd6 : DatAll six v6 ((cells6 st).map pairDat)) (hs6 : ∀ p ∈ six, Apt c I (cw ++ tl) p.1) {nr : Nat} {ys : List Value} {cs : List (Int × Int)}
    (J3 : LcJ base c I (cw ++ tl) nr ys (pw ++ base) pw cs) (hn : nr ≤ 93) {g' : Addr} {gvs' : List Value} {gn' cn' : Nat} (hI : IntsAre gvs' (octsW (G.take (i + 1)))) (hg : g' ≠ c) (hga : ∀ q ∈ tl, g' ≠ q.1) (hm : lwM vr (.ref g') (.ref c) vt m₃ = m₃) :
    LwJ tl vr vt G (i + 1) m₃ ((g', listOf gvs'.toArray gn') :: (c, listOf ((cvs ++ v6) ++ ys).toArray cn') :: ((pw ++ (six ++ cw)) ++ tl)) g' gvs' gn' c ((cvs ++ v6) ++ ys) cn' (pw ++ (six ++ cw)) ((cells ++ cells6 st) ++ cs) := by
  refine ⟨rfl, hI, ?_, ?_, ?_, ?_, hg, ?_, hga, hm⟩
  · rw [List.map_append, List.map_append]
    refine DatAll.append (DatAll.append (J.dat.mono fun p hp => ?_) (hd6.mono fun p hp => ?_)) (J3.dat.mono fun p hp => ?_)
    · exact List.mem_append_right _ (List.mem_append_right _ hp)
    · exact List.mem_append_right _ (List.mem_append_left _ hp)
    · exact List.mem_append_left _ hp
  · intro x hx
    rcases List.mem_append.mp hx with hx | hx
    · rcases List.mem_append.mp hx with hx | hx
      · exact J.good x hx
      · exact cells6_good h0 h1 x hx
    · exact J3.good x hx
  · have a1 := J.few
    have a2 := datAll_len J3.dat
    have a3 := J3.len
    rw [List.length_map] at a2
    have a4 : (cells6 st).length = 6 := rfl
    rw [List.length_append, List.length_append]
    lia
  · intro p hp
    rcases List.mem_append.mp hp with hp | hp
    · rcases List.mem_append.mp hp with hp | hp
      · exact (J3.off p hp).1
      · rcases List.mem_append.mp hp with hp | hp
        · exact (hs6 p hp).1
        · exact J.off p (List.mem_append_left _ hp)
    · exact J.off p (List.mem_append_right _ hp)
  · intro p hp q hq
    rcases List.mem_append.mp hp with hp | hp
    · exact (J3.off p hp).2.2 q (List.mem_append_right _ hq)
    · rcases List.mem_append.mp hp with hp | hp
      · exact (hs6 p hp).2.2 q (List.mem_append_right _ hq)
      · exact J.apart p hp q hq
theorem lw_off5 {h₀ h : Heap} {L D c G I : Addr} {oc oD oG oI : Obj} {pw r : List (Addr × Obj)} (N : News h₀ L h ((c, oc) :: (D, oD) :: (G, oG) :: (I, oI) :: (pw ++ r))) (hD : @Ne Nat D c) (hG : @Ne Nat G c) (hI : @Ne Nat I c) (hp : ∀ p ∈ pw, p.1 ≠ c) (hr : ∀ p ∈ r, p.1 ≠ c) :
    ∀ p ∈ (D, oD) :: (G, oG) :: (I, oI) :: (pw ++ r), p.1 ≠ c :=
  List.forall_mem_cons.mpr ⟨hD, List.forall_mem_cons.mpr ⟨hG, List.forall_mem_cons.mpr ⟨hI, fun p q => (List.mem_append.mp q).elim (hp p) (hr p)⟩⟩⟩
theorem lw_base {h₀ h : Heap} {L c I : Addr} {oc oI : Obj} {y1 y2 : Addr × Obj} {r : List (Addr × Obj)} (N : News h₀ L h ((c, oc) :: y1 :: y2 :: (I, oI) :: r)) :
    ∃ base, (c, oc) :: y1 :: y2 :: (I, oI) :: r = base ∧ News h₀ L h base ∧ ∃ o, (c, o) ∈ base ∧ (∃ o, (I, o) ∈ base) ∧ ∀ p ∈ r, p ∈ base := ⟨_, rfl, N, _, .head _, ⟨_, .tail _ (.tail _ (.tail _ (.head _)))⟩, fun p hp => .tail _ (.tail _ (.tail _ (.tail _ hp)))⟩
theorem lw_off6 {I G c g : Addr} {oG oc oc' og : Obj} {pw six cw tl : List (Addr × Obj)} (hG : @LT.lt Nat _ I G) (h : ∀ p ∈ (g, og) :: (c, oc') :: (cw ++ tl), p.1 ≠ I) (hs : ∀ p ∈ six, Apt c I (cw ++ tl) p.1) (hp : ∀ p ∈ pw, Apt c I (cw ++ tl) p.1) :
    ∀ p ∈ (G, oG) :: (c, oc) :: ((pw ++ (six ++ cw)) ++ tl), p.1 ≠ I := by
  intro p hq
  rcases List.mem_cons.mp hq with rfl | hq
  · exact Nat.ne_of_gt hG
  rcases List.mem_cons.mp hq with rfl | hq
  · exact h (c, oc') (.tail _ (.head _))
  rcases List.mem_append.mp hq with hq | hq
  · rcases List.mem_append.mp hq with hq | hq
    · exact (hp p hq).2.1
    · rcases List.mem_append.mp hq with hq | hq
      · exact (hs p hq).2.1
      · exact h p (.tail _ (.tail _ (List.mem_append_left _ hq)))
  · exact h p (.tail _ (.tail _ (List.mem_append_right _ hq)))
theorem lw_gap {c g d : Addr} {og oc od : Obj} {nw news : List (Addr × Obj)} (hof : ∀ p ∈ nw ++ (c, oc) :: (g, og) :: news, p.1 ≠ d) (hap : ∀ p ∈ nw, ∀ q ∈ (c, oc) :: (g, og) :: news, p.1 ≠ q.1) (hl : ∀ p ∈ news, p.1 < g) :
    ∀ q ∈ (d, od) :: (nw ++ news), g ≠ q.1 := by
  intro q hq
  rcases List.mem_cons.mp hq with rfl | hq
  · exact hof (g, og) (List.mem_append_right _ (.tail _ (.head _)))
  rcases List.mem_append.mp hq with hq | hq
  · exact Ne.symm (hap q hq (g, og) (.tail _ (.head _)))
  · exact Nat.ne_of_gt (hl q hq)
end
section
theorem keepIt {p G : Prop} (h : p) (k : p → G) : G := k h
section
variable {w : World} {oc oc' : Value} {od od' : Option Addr} {name name' qual qual' : Str} {params params' : Arguments} {body b : List Stmt} {scope sc : Scope} {dV kV doc pm cdv ct dV' kV' doc' pm' cdv' ct' : Value} {an an' : Option Addr} {osl osl' : Array (Option Value)}
theorem seg_lit {G : List Stmt → Scope → Str → Value → Prop} (ho : (heapK w.params).lookup 372 = some ⟨oc, od, .func (fnOf name qual params body scope dV kV doc pm an cdv ct), osl⟩)
    (e : (heapK w.params).lookup 372 = some ⟨oc', od', .func (fnOf name' qual' params' b sc dV' kV' doc' pm' an' cdv' ct'), osl'⟩) (h : G b sc qual' cdv') : G body scope qual cdv := by
  have q := ho.symm.trans e
  simp only [Option.some.injEq, Obj.mk.injEq, Data.func.injEq, fnOf, FuncData.mk.injEq] at q
  have hb : body = b := by have := q.2.2; simp_all
  have hs : scope = sc := by have := q.2.2; simp_all
  have hq : qual = qual' := by have := q.2.2; simp_all
  have hc : cdv = cdv' := by have := q.2.2; simp_all
  refine cps fun gG kG => ?_
  subst hb hs hq hc
  refine kG ?_
  clear kG gG
  exact h
theorem seg_lit2 {G : List Stmt → Scope → Str → Value → Prop} (ho : (heapK w.params).lookup 372 = some ⟨oc, od, .func (fnOf name qual params body scope dV kV doc pm an cdv ct), osl⟩)
    (e : (heapK w.params).lookup 372 = some ⟨oc', od', .func (fnOf name' qual' params' b sc dV' kV' doc' pm' an' cdv' ct'), osl'⟩) (h : (heapK w.params).lookup 372 = some ⟨oc', od', .func (fnOf name' qual' params' b sc dV' kV' doc' pm' an' cdv' ct'), osl'⟩ → G b sc qual' cdv') : G body scope qual cdv := seg_lit ho e (h e)
theorem keepLit {G : Prop} (e : (heapK w.params).lookup 372 = some ⟨oc', od', .func (fnOf name' qual' params' b sc dV' kV' doc' pm' an' cdv' ct'), osl'⟩) (h : (heapK w.params).lookup 372 = some ⟨oc', od', .func (fnOf name' qual' params' b sc dV' kV' doc' pm' an' cdv' ct'), osl'⟩ → G) : G := h e
end
end
section
section
variable {prog : Program} {w : World} {A : Around} {s : Shared} {K : Frag} {R : Result → Shared → Prop} {name qual : Str} {params : Arguments} {body : List Stmt} {scope : Scope} {dV kV doc pm cdv ct oc : Value} {an od : Option Addr} {osl : Array (Option Value)} {f : Addr} {args : Args} {binds : List (Str × Value)}
/-- The entry of a def with cells from the claim's own caller. -/
theorem entryTopN (X : K.In s.heap) (hlim : s.heap.NoLimit)
    (ho : K.lookup f = some ⟨oc, od, .func (fnOf name qual params body scope dV kV doc pm an cdv ct), osl⟩) (hcd : codeIn K cdv qual = true) (hroom : A.depth < recursionLimit)
    (hbind : BindsTo s (fnOf name qual params body scope dV kV doc pm an cdv ct) args binds) (hkind : (binds.all fun y => scope.names.lookup y.1 == some .local || scope.names.lookup y.1 == some .cell) = true)
    (hnd : ((cellsFrom 0 scope.names []).map (·.1)).Nodup)
    (h : ∀ L' h₁ tk cells, Fr s.heap L' h₁ (bindL (envOfC qual scope L' f cdv).kindOf binds fun _ => none) → News s.heap L' h₁ cells →
      CellsAre (bindC (envOfC qual scope L' f cdv).kindOf binds fun _ => none) (cellsFrom (L' + 1) scope.names []) cells →
      wpN (model prog w) (A.deeper (envOfC qual scope L' f cdv)) (execs body (envOfC qual scope L' f cdv)) (fun fl s' => R (.ok (.ret (match fl with | .ret v => v | _ => .none))) s')
        (fun e s' => wpAny (model prog w) (A.deeper (envOfC qual scope L' f cdv)) (leaving (envOfC qual scope L' f cdv) e) (fun _ s'' => R (.error e) s'') (fun e' s'' => R (.error e') s'') s') { s with heap := h₁, toks := tk })
    (hco : scope.isCoroutine = false) (hgen : scope.isGenerator = false) (hk : scope.kind = .function) : codeN (model prog w) A (.call (.ref f) args) R s := by
  refine codeN_call_function hroom (X _ _ ho) rfl hco hgen rfl (codeRec_of X hcd) (hbind _ _ _ _ ?_)
  refine wpAny_newFunctionEnv_cells hk (kindsX hkind _) fun env' he s' x => ?_
  refine cps fun gG kG => ?_
  subst he
  refine kG ?_
  clear kG gG
  refine ⟨hlim.keeps x.toInCall.keep, codeN_func ?_⟩
  refine cps fun gG kG => ?_
  obtain ⟨h₁, tk, rfl, _⟩ := x.done
  obtain ⟨cells, NC, Y⟩ := Cl.news (h₀ := s.heap) (Nat.le_refl _) fun n c hm => ⟨x.cell n c (lookup_of_mem_nodup (cellsFrom_names scope.names 0 (s.heap.objs.size + 1) [] [] rfl ▸ hnd) hm), x.above n c hm⟩
  refine kG ?_
  clear kG gG
  exact h s.heap.objs.size h₁ tk cells ⟨x.toInCall.ns, fun b o e => x.toInCall.keep b o e, Nat.le_refl _⟩ NC Y
end
end
section
section
variable {prog : Program} {w : World} {A₀ A : Around} {s : Shared} {base h₀ : Heap} {outer : List Env} {L : Addr} {m : Str → Option Value} {env : Env} {news : List (Addr × Obj)} {K : Frag}
  {p : Program} {loose : List Str} {mean : ExcName → Option Value} {mg mb : Str → Option Value}
  {R : Result → Shared → Prop} {name qual : Str} {params : Arguments} {body : List Stmt} {scope : Scope} {dV kV doc pm cdv ct oc : Value} {an od : Option Addr} {osl : Array (Option Value)} {f : Addr} {args : Args} {binds : List (Str × Value)}
theorem code_defR (B : Below A₀ base outer h₀) (F : Fr h₀ L s.heap m) (X₀ : K.In h₀) (N : News h₀ L s.heap news) (T : Top p loose mean mg mb h₀) (hA : A.frames = some (env :: outer)) (hf : env.frame = some L) (hke : env.scope.kind = .function)
    (ho : K.lookup f = some ⟨oc, od, .func (fnOf name qual params body scope dV kV doc pm an cdv ct), osl⟩) (hcd : codeIn K cdv qual = true) (hroom : A.depth < recursionLimit)
    (hbind : BindsTo s (fnOf name qual params body scope dV kV doc pm an cdv ct) args binds) (hloc : ∀ y ∈ binds, scope.names.lookup y.1 = some .local)
    (h : ∀ g L' h₁, Fr h₀ L g m → h₀.StaysIn g → Fr g L' h₁ (fun y => binds.reverse.lookup y) → News g L' h₁ news → Below A base (env :: outer) g → K.In g → Top p loose mean mg mb g →
      wpAny (model prog w) (A.deeper (envOf qual scope L' f cdv)) (execs body (envOf qual scope L' f cdv))
        (fun fl s' => R (.ok (.ret (match fl with | .ret v => v | _ => .none))) s')
        (fun e s' => wpAny (model prog w) (A.deeper (envOf qual scope L' f cdv)) (leaving (envOf qual scope L' f cdv) e) (fun _ s'' => R (.error e) s'') (fun e' s'' => R (.error e') s'') s')
        { s with heap := h₁, toks := s.toks + binds.length })
    (hco : scope.isCoroutine = false) (hgen : scope.isGenerator = false) (hk : scope.kind = .function)
    (hcell : ∀ x ∈ scope.names, x.2 ≠ .cell) : codeAny (model prog w) A (.call (.ref f) args) R s := by
  refine cps fun gG kG => ?_
  obtain ⟨FG, BG, st, -⟩ := groundX (R := R) B F N hA hf hke
  refine kG ?_
  clear kG gG
  have X := X₀.keeps F.keep
  refine codeAny_call_def (fd := fnOf name qual params body scope dV kV doc pm an cdv ct) (body := body) (binds := binds) hroom (X _ _ ho) rfl (T.nolimit.keeps F.keep) (codeRec_of X hcd) rfl hbind hcell hloc (fun h₁ hns hk₁ => ?_) hco hgen hk
  exact wpAny_mono (h _ s.heap.objs.size h₁ FG st ⟨hns, fun b o e => hk₁ b o (of_hideAll _ e), Nat.le_of_eq (hideAll_size _ _)⟩
    (fun p hp => ⟨hk₁ _ _ (N p hp).1, Nat.ne_of_lt (Heap.lt_size (N p hp).1), hideAll_none _ (List.mem_map_of_mem hp)⟩) BG (X₀.keeps st) (T.keeps st)) (fun fl s' hl => hl) fun _ _ y => y
end
section
variable {prog : Program} {w : World} {A₀ : Around} {E : Value → Shared → Prop} {s' : Shared} {b1 h : Heap} {outer : List Env} {L a e C : Addr} {m : Str → Option Value} {name : Str} {scope : Scope} {cd : Value}
  {b₀ : Stmt} {suite : List Stmt} {pos np : Pos} {rest : List ExceptHandler} {Q : Flow → Shared → Prop} {news : List (Addr × Obj)} {KF : Frag}
  {p : Program} {loose : List Str} {mg mb : Str → Option Value} {x : Str}
theorem caught_own (hst : A₀.frames = some outer) (F : Fr b1 L h m) (hsm : h.UpToSlots s'.heap) (R : RaisedN b1 (envOf name scope L a cd :: outer) e (.ref C) news s'.heap)
    (X : KF.In b1) (T : TopRead p loose mg mb b1) (ex : nsIn KF mainGlobals x = some (some (.ref C))) (q : ktsIn KF C "BaseException" = true)
    (k : ∀ h', Fr b1 L h' m → (∀ q ∈ news, h'.get? q.1 = some q.2) → h.UpToSlots h' →
      wpAny (model prog w) ((A₀.deeper (envOf name scope L a cd)).mark (some (.ref e))) (execs (b₀ :: suite) (envOf name scope L a cd)) Q E { s' with heap := h' })
    (hk : scope.kind = .function := by rfl) (hx : (envOf name scope L a cd).kindOf x = some .globalImplicit := by rfl) (hd : (x == ("__debug__" : Str)) = false := by decide)
    (hE : PassesOwnAt (model prog w) ((A₀.deeper (envOf name scope L a cd)).mark (some (.ref e))) (A₀.deeper (envOf name scope L a cd)) (envOf name scope L a cd) E := by passes_own) :
    wpAny (model prog w) (A₀.deeper (envOf name scope L a cd)) (noteFrame (.ref e) (envOf name scope L a cd))
      (fun _ s₂ => wpAny (model prog w) (A₀.deeper (envOf name scope L a cd)) (setFlight (.ref e) none) (fun _ s₃ =>
        wpAny (model prog w) (A₀.deeper (envOf name scope L a cd)) (handleBy (.ref e) (envOf name scope L a cd) (.ExceptHandler (some (.Name x np)) none (b₀ :: suite) pos :: rest)) Q E s₃) E s₂) E s' := by
  refine cps fun gG kG => ?_
  obtain ⟨B, a0, hB, hl, hfl⟩ := R
  refine kG ?_
  clear kG gG
  refine wpAny_looks_onW (Around.frames_deeper hst) rfl hfl fun h₄ hheld₄ hsm₄ => ?_
  refine wpAny_landsW hheld₄ fun h₅ hheld hsm₅' => ?_
  have hsm₅ := hsm₄.trans hsm₅'
  have hheld' := flyingW_base hB hheld
  have F₅ := F.of_stays hheld'.1 (hsm.trans hsm₅)
  refine cps fun gG kG => ?_
  obtain ⟨ob, hob, hobc⟩ := hheld'.there
  refine kG ?_
  clear kG gG
  refine wpAny_handleBy_cons (codeAny_handlers_test (name_K F₅ X T ex ?_ hk hx hd)) (by intro q; cases q)
  refine cps fun gG kG => ?_
  obtain ⟨nm, qn, N, bs, bm, hdct, sn, sub, ab, col, dd, k0, k1, k2, k3, k5, newId, hC, hbase, -⟩ := kts_cls (X.keeps F₅.keep) q
  refine kG ?_
  clear kG gG
  refine wpAny_excMatches_sub_self hC hob hobc hbase (codeAny_handlers_suite ?_)
  refine lands_againW hheld fun h₆ hfl₆ hsm₆ => ?_
  have hfl₆' := flyingW_base hB hfl₆
  have F₆ := F.of_stays hfl₆'.1 ((hsm.trans hsm₅).trans hsm₆)
  exact wpAny_passesOwnAt hE (k h₆ F₆ (fun q hq => hfl₆.1 _ _ (hl q hq).1) ((hsm.trans hsm₅).trans hsm₆))
end
/-- What stands under an inner frame, all its frames left out. -/
theorem below_hide {A : Around} {base g : Heap} {l : List Env} (B : Below A base l g) : Below A (hideAll g (l.filterMap (·.frame))) l g :=
  ⟨B.stack, fun b o e => of_hideAll _ e, funFrames_hide B.frames fun env he a ha => List.mem_filterMap.mpr ⟨env, he, ha⟩⟩
theorem hide_base {A : Around} {base g : Heap} {l : List Env} (B : Below A base l g) : base.StaysIn (hideAll g (l.filterMap (·.frame))) := fun b o e =>
  hideAll_get _ (B.stays b o e) fun hb => by rw [(B.frames.mem hb).1] at e; cases e
theorem fr_hide {g h : Heap} {L : Addr} {m : Str → Option Value} {as : List Addr} (F : Fr g L h m) : Fr (hideAll g as) L h m :=
  ⟨F.ns, fun b o e => F.keep b o (of_hideAll _ e), by rw [hideAll_size]; exact F.above⟩
theorem k58 (p : Params) : ktsIn (heapK p) 58 "BaseException" = true := by kernel_rfl
theorem k70 (p : Params) : ktsIn (heapK p) 70 "BaseException" = true := by kernel_rfl
theorem fr_ground {h₀ g h' : Heap} {L L1 : Addr} {m mm : Str → Option Value} (FG : Fr h₀ L g m) (st : h₀.StaysIn g) (F2 : Fr g L1 h' mm) : Fr h₀ L h' m :=
  ⟨(Heap.UpToSlots.of_keeps F2.keep).ns FG.ns, fun b o e => F2.keep b o (st b o e), FG.above⟩
theorem news_ground {h₀ g h' : Heap} {L L1 : Addr} {m : Str → Option Value} {xs : List (Addr × Obj)} (FG : Fr h₀ L g m) (st : h₀.StaysIn g) (N : News g L1 h' xs) : News h₀ L h' xs := fun p hp => by
  refine cps fun gG kG => ?_
  obtain ⟨oL, es, ep, hL, -⟩ := FG.ns
  refine kG ?_
  clear kG gG
  refine ⟨(N p hp).1, fun q => ?_, ?_⟩
  · have := (N p hp).2.2; rw [q, hL] at this; cases this
  · cases q : h₀.get? p.1 with
    | none => rfl
    | some o => have := (N p hp).2.2; rw [st _ _ q] at this; cases this
end
section
noncomputable abbrev excObjD (C t d : Addr) : Obj := { cls := .ref C, dict := some d, data := .fields #[.ref t, .none, .none, .none, .bool false, .none] }
section
variable {prog : Program} {w : World} {A : Around} {E : Value → Shared → Prop} {s : Shared} {K : Frag} {C L : Addr} {h₀ : Heap} {m : Str → Option Value} {news : List (Addr × Obj)} {R : Result → Shared → Prop}
theorem fault_osa {x : Addr} {ox : Obj} {name : Str} {tk : Tok} {v : Value} {l : List Value} (X : K.In s.heap) (hx : s.heap.get? x = some ox) (hcl : ox.cls = .ref C)
    (hc : (clsIn K C).any (fun cd => decide (cd.mro = l)) = true) (ne : l.isEmpty = false) (ho : l.contains (.type "object") = true) (hp : ∀ self, refuseLoop self "__setattr__" l = pure ()) (ha : findIn K (.ref C) name = some none)
    (h : ∀ b, wpAny (model prog w) A.in1 (Builtin.ObjectAttr.storeInOwnDict (.ref x) (.ref C) (.str name tk) name v b)
      (fun fin s' => match fin with | .done f => R (.ok f) s' | .again c' => c'.quiet = true ∧ codeAny (model prog w) A c' R s') (fun e s' => R (.error e) s') s) :
    codeAny (model prog w) A (.call (.builtin "object.__setattr__") ⟨[.ref x, .str name tk, v], []⟩) R s := by
  have SF := PySem.F.store_object
  refine cps fun gG kG => ?_
  obtain ⟨cd, hc, hl⟩ := any_some hc
  refine kG ?_
  clear kG gG
  have hl : cd.mro = l := of_decide_eq_true hl
  have tx : Looks (model prog w) s.heap (typeOf (.ref x)) (.ref C) := hcl ▸ (Looks.ld hx).andThen .now
  have sub : Looks (model prog w) s.heap (isInstance (.ref x) (.type "object")) true := tx.andThen (looks_mroIn X (by unfold mroIn; rw [hc, Option.bind_some, hl, if_neg (by rw [ne]; decide), ho]))
  refine codeAny_call_builtin SF.slot.plain SF.entry (@check_slot (model prog w) _ _ s "object.__setattr__" "object" "__setattr__" (.ref x) [.str name tk, v] [] _ SF.kind SF.split sub (SF.args (.ref x) (.str name tk) v) ?_)
  have hm : Looks (model prog w) s.heap (mroOf (.ref C)) l := hl ▸ (looks_clsIn X hc).andThen .now
  rw [osa_eq, refuse_eq]
  refine wpAny_bind (wpAny_bind (tx.here (wpAny_bind (hm.here ?_))))
  rw [hp]
  refine wpAny_pure (wpAny_bind (tx.here (wpAny_bind ((looks_findIn X ha).here (wpAny_bind ((Looks.of_pure (r := (none : Option Value)) rfl).here ?_))))))
  exact h _

theorem fault_osa0 {e t : Addr} {name : Str} {tk : Tok} {v : Value} {l : List Value} {g : Obj → List (Addr × Obj)} (F : Fr h₀ L s.heap m) (N : News h₀ L s.heap news) (U : UpdF e (excObj C t) news g) (X₀ : K.In h₀)
    (hc : (clsIn K C).any (fun cd => decide (cd.mro = l)) = true) (hd : hasDictIn K C = true) (ne : l.isEmpty = false) (ho : l.contains (.type "object") = true) (hp : ∀ self, refuseLoop self "__setattr__" l = pure ()) (ha : findIn K (.ref C) name = some none)
    (h : ∀ d h', Fr h₀ L h' m → News h₀ L h' ((d, dictOf [⟨PyData.keyHash w.params name, .str name s.toks, v⟩] 1) :: g (excObjD C t d)) → (∀ p ∈ news, p.1 < d) → R (.ok (.ret .none)) { s with heap := h', toks := s.toks + 1 }) :
    codeAny (model prog w) A (.call (.builtin "object.__setattr__") ⟨[.ref e, .str name tk, v], []⟩) R s := by
  have X := X₀.keeps F.keep
  have he := (N _ (updF_mem U)).1
  refine fault_osa X he rfl hc ne ho hp ha fun b => ?_
  refine cps fun gG kG => ?_
  obtain ⟨cd, hc', hd'⟩ := any_some hd
  have N1 := N.push F emptyDict
  have F1 := F.push emptyDict
  have U1 : UpdF e (excObj C t) ((s.heap.objs.size, emptyDict) :: news) (fun o' => (s.heap.objs.size, emptyDict) :: g o') := .tail (Nat.ne_of_gt (Heap.lt_size he)) U
  obtain ⟨F2, N2⟩ := updF_ledger (f := fun o => { o with dict := some s.heap.objs.size }) (o' := excObjD C t s.heap.objs.size) U1 F1 N1 rfl rfl
  have hd2 : ∀ p ∈ g (excObjD C t s.heap.objs.size), p.1 ≠ s.heap.objs.size := by
    obtain ⟨pre, post, rfl, hg, h1, h2⟩ := U.split
    rw [hg]
    intro p hp
    rcases List.mem_append.mp hp with q | q
    · exact Nat.ne_of_lt (Heap.lt_size (N p (List.mem_append.mpr (.inl q))).1)
    · rcases List.mem_cons.mp q with rfl | q
      · exact Nat.ne_of_lt (Heap.lt_size he)
      · exact Nat.ne_of_lt (Heap.lt_size (N p (List.mem_append.mpr (.inr (.tail _ q)))).1)
  obtain ⟨F3, N3⟩ := news_upd (pre := []) (f := Obj.putName name (PyData.keyHash w.params name) (.str name s.toks) v) (o' := dictOf [⟨PyData.keyHash w.params name, .str name s.toks, v⟩] 1) F2 N2 (fun _ h => nomatch h) hd2 (putName_dict name _ _ v [] 0) rfl
  refine kG ?_
  clear kG gG
  refine wpAny_bind (wpAny_pure (wpAny_bind (wpAny_bind (wpAny_loadPart he (wpAny_bind ((looks_clsIn X hc').here ?_))))))
  rw [hd']
  refine wpAny_bind (wpAny_alloc (wpAny_bind (wpAny_update (Heap.get?_push_of_some _ he) ?_)))
  refine wpAny_pure (a := some s.heap.objs.size) (wpAny_bind (wpAny_pure (wpAny_bind ?_)))
  have D := (N2 _ (.head _)).1
  have D' := (N3 _ (.head _)).1
  unfold nsSet
  refine wpAny_bind (wpAny_bind (wpAny_askSetting (wpAny_pure (wpAny_bind (wpAny_mkText (wpAny_bind (wpAny_loadPart D ?_)))))))
  dsimp only
  have c : (!(#[] : Array DictEntry).any (·.key.isStr name) && (#[] : Array DictEntry).any (·.refKey)) = false := by simp
  rw [aRefKeyMayBeTheName_at, c]
  refine wpAny_updatePart D ?_
  refine wpAny_bind (wpAny_lookBehind D' (pastItsLine_dict (by rw [List.size_toArray, sizeLine_eq]; exact Nat.le_of_ble_eq_true rfl)) ?_)
  exact wpAny_pure (h _ _ F3 N3 fun p hp => Heap.lt_size (N p hp).1)

theorem fault_osa1 {e t d : Addr} {name : Str} {tk : Tok} {v : Value} {l : List Value} {es es' : List DictEntry} {n n' : Nat} {g : Obj → List (Addr × Obj)} (F : Fr h₀ L s.heap m) (N : News h₀ L s.heap news) (hm : (e, excObjD C t d) ∈ news) (U : UpdF d (dictOf es n) news g) (X₀ : K.In h₀)
    (hc : (clsIn K C).any (fun cd => decide (cd.mro = l)) = true) (hd : hasDictIn K C = true) (ne : l.isEmpty = false) (ho : l.contains (.type "object") = true) (hp : ∀ self, refuseLoop self "__setattr__" l = pure ()) (ha : findIn K (.ref C) name = some none)
    (hk : es.any (·.refKey) = false) (e1 : putL name (PyData.keyHash w.params name) (.str name s.toks) v es = es') (e2 : putN name es n = n') (hz : es'.length ≤ 1000)
    (h : ∀ h', Fr h₀ L h' m → News h₀ L h' (g (dictOf es' n')) → R (.ok (.ret .none)) { s with heap := h', toks := s.toks + 1 }) :
    codeAny (model prog w) A (.call (.builtin "object.__setattr__") ⟨[.ref e, .str name tk, v], []⟩) R s := by
  have X := X₀.keeps F.keep
  have he := (N _ hm).1
  refine fault_osa X he rfl hc ne ho hp ha fun b => ?_
  refine cps fun gG kG => ?_
  obtain ⟨cd, hc', hd'⟩ := any_some hd
  obtain ⟨F3, N3⟩ := updF_ledger (f := Obj.putName name (PyData.keyHash w.params name) (.str name s.toks) v) (o' := dictOf es' n') U F N ((putName_dict name _ _ v es n).trans (by rw [e1, e2])) rfl
  refine kG ?_
  clear kG gG
  have D := (N _ (updF_mem U)).1
  have D' : (s.heap.update d (Obj.putName name (PyData.keyHash w.params name) (.str name s.toks) v)).get? d = some (dictOf es' n') := by
    obtain ⟨pre, post, rfl, hg, h1, h2⟩ := U.split
    rw [hg] at N3
    exact (N3 (d, dictOf es' n') (List.mem_append.mpr (.inr (.head _)))).1
  refine wpAny_bind (wpAny_pure (wpAny_bind (wpAny_bind (wpAny_loadPart he (wpAny_bind ((looks_clsIn X hc').here ?_))))))
  rw [hd']
  refine wpAny_pure (a := some d) (wpAny_bind (wpAny_pure (wpAny_bind ?_)))
  unfold nsSet
  refine wpAny_bind (wpAny_bind (wpAny_askSetting (wpAny_pure (wpAny_bind (wpAny_mkText (wpAny_bind (wpAny_loadPart D ?_)))))))
  dsimp only
  have c : (!es.toArray.any (·.key.isStr name) && es.toArray.any (·.refKey)) = false := by rw [List.any_toArray, List.any_toArray, hk, Bool.and_false]
  rw [aRefKeyMayBeTheName_at, c]
  refine wpAny_updatePart D ?_
  refine wpAny_bind (wpAny_lookBehind D' (pastItsLine_dict (by rw [List.size_toArray, sizeLine_eq]; lia)) ?_)
  exact wpAny_pure (h _ F3 N3)
end
section
variable {prog : Program} {w : World} {A : Around} {E : Value → Shared → Prop} {s : Shared} {K : Frag} {C L : Addr} {h₀ : Heap} {m : Str → Option Value} {news : List (Addr × Obj)} {Q : Unit → Shared → Prop}
theorem fault_set0 {e t : Addr} {name : Str} {v : Value} {l : List Value} {g : Obj → List (Addr × Obj)} (F : Fr h₀ L s.heap m) (N : News h₀ L s.heap news) (U : UpdF e (excObj C t) news g) (X₀ : K.In h₀)
    (hs : findIn K (.ref C) "__setattr__" = some (some (.builtin "object.__setattr__")))
    (hc : (clsIn K C).any (fun cd => decide (cd.mro = l)) = true) (hd : hasDictIn K C = true) (ne : l.isEmpty = false) (ho : l.contains (.type "object") = true) (hp : ∀ self, refuseLoop self "__setattr__" l = pure ()) (ha : findIn K (.ref C) name = some none)
    (h : ∀ d tk h', Fr h₀ L h' m → News h₀ L h' ((d, dictOf [⟨PyData.keyHash w.params name, .str name tk, v⟩] 1) :: g (excObjD C t d)) → (∀ p ∈ news, p.1 < d) → Q () { s with heap := h', toks := s.toks + 2 }) :
    wpAny (model prog w) A (setAttr (.ref e) name v) Q E s := by
  have he := (N _ (updF_mem U)).1
  have I : InstAt s.heap e (excObj C t) C none := ⟨he, rfl, rfl, trivial⟩
  exact set_plain (X₀.keeps F.keep) I hs (fault_osa0 (s := { s with toks := s.toks + 1 }) F N U X₀ hc hd ne ho hp ha fun d h' F' N' l => h d _ h' F' N' l)
theorem fault_set1 {e t d : Addr} {name : Str} {v : Value} {l : List Value} {es es' : List DictEntry} {n n' : Nat} {g : Obj → List (Addr × Obj)} (F : Fr h₀ L s.heap m) (N : News h₀ L s.heap news) (hm : (e, excObjD C t d) ∈ news) (U : UpdF d (dictOf es n) news g) (X₀ : K.In h₀)
    (hs : findIn K (.ref C) "__setattr__" = some (some (.builtin "object.__setattr__")))
    (hc : (clsIn K C).any (fun cd => decide (cd.mro = l)) = true) (hd : hasDictIn K C = true) (ne : l.isEmpty = false) (ho : l.contains (.type "object") = true) (hp : ∀ self, refuseLoop self "__setattr__" l = pure ()) (ha : findIn K (.ref C) name = some none)
    (hk : es.any (·.refKey) = false) (e1 : (putL name (PyData.keyHash w.params name) (.str name (s.toks + 1)) v es, putN name es n) = (es', n')) (hz : es'.length ≤ 1000)
    (h : ∀ h', Fr h₀ L h' m → News h₀ L h' (g (dictOf es' n')) → Q () { s with heap := h', toks := s.toks + 2 }) :
    wpAny (model prog w) A (setAttr (.ref e) name v) Q E s := by
  have he := (N _ hm).1
  have I : InstAt s.heap e (excObjD C t d) C (some (dictOf es n)) := ⟨he, rfl, rfl, (N _ (updF_mem U)).1⟩
  exact set_plain (X₀.keeps F.keep) I hs (fault_osa1 (s := { s with toks := s.toks + 1 }) F N hm U X₀ hc hd ne ho hp ha hk (Prod.mk.inj e1).1 (Prod.mk.inj e1).2 hz fun h' F' N' => h h' F' N')
end

noncomputable def RaisableF (M : Model) (C : Addr) (E : Value → Shared → Prop) (v : Value) (s₁ : Shared) : Prop :=
  ∃ e t d oC, v = .ref e ∧ s₁.heap.get? e = some (excObjD C t d) ∧ s₁.heap.get? C = some oC ∧ oC.cls = .type "type" ∧ Looks M s₁.heap (isSubtype (.ref C) (.type "BaseException")) true ∧ E (.ref e) s₁
section
variable {M : Model} {A : Around} {E : Value → Shared → Prop} {s : Shared} {env : Env} {C : Addr}
theorem Raise_fault {ex : PySem.Expr} {pos : Pos} {Q : Flow → Shared → Prop} (hh : A.handled = none) (h : wpAny M A (eval ex env) (RaisableF M C E) E s) : wpAny M A (exec (.Raise (some ex) none pos) env) Q E s := by
  show wpAny M A (do standAt pos; raiseStmt env (some (do let v ← eval ex env; standAt pos; pure v)) none) Q E s
  refine wpAny_bind (wpAny_standAt ?_)
  unfold raiseStmt
  dsimp only
  refine wpAny_bind (wpAny_bind (wpAny_mono h (fun v s₁ h₁ => wpAny_bind (wpAny_standAt (wpAny_pure ?_))) fun _ _ x => x))
  refine cps fun gG kG => ?_
  obtain ⟨e, t, d, oC, rfl, he, hC, hCt, hb, hE⟩ := h₁
  obtain ⟨hp, g, dr, tk, os⟩ := s₁
  refine kG ?_
  clear kG gG
  have tx : Looks M hp (typeOf (.ref e)) (.ref C) := (Looks.ld he).andThen .now
  repeat (first | lk | (with_reducible refine wpAny_loadPart_at he ?_; dsimp only) | wp_step)
  refine wpAny_handled ?_
  rw [hh]
  exact wpAny_throw hE
end
section
variable {prog : Program} {w : World} {A : Around} {E : Value → Shared → Prop} {s : Shared} {K : Frag} {C L : Addr} {h₀ : Heap} {m : Str → Option Value} {news : List (Addr × Obj)}
noncomputable def clsTypeIn (K : Frag) (C : Addr) : Bool := match K.lookup C with
  | some o => o.cls == .type "type"
  | none => false
theorem raisable_fault {e t d : Addr} (F : Fr h₀ L s.heap m) (X₀ : K.In h₀) (N : News h₀ L s.heap news) (hm : (e, excObjD C t d) ∈ news) (hf : faultIn K C = true) (hc : clsTypeIn K C = true) (h : E (.ref e) s) : RaisableF (model prog w) C E (.ref e) s := by
  have X := X₀.keeps F.keep
  unfold clsTypeIn at hc
  split at hc
  · rename_i o ho
    exact ⟨e, t, d, o, rfl, (N _ hm).1, X _ _ ho, beq_iff_eq.mp hc, (faults_of X hf).bexc, h⟩
  · cases hc
end

section
variable {M : Model} {A : Around} {E : Value → Shared → Prop} {s' : Shared} {base g : Heap} {outer : List Env} {L a e : Addr} {m : Str → Option Value} {name : Str} {scope : Scope} {cd : Value} {Q : Unit → Shared → Prop} {news : List (Addr × Obj)}
theorem leave_fault {C t d : Addr} (K : Below A base outer g) (F : Fr g L s'.heap m) (N : News g L s'.heap news) (hm : (e, excObjD C t d) ∈ news)
    (hQ : ∀ h', (∀ keep : List (Addr × Obj), (∀ p ∈ keep, p ∈ news) → (∀ p ∈ keep, p.1 ≠ e) → RaisedN base outer e (.ref C) keep h') → g.UpToSlots h' → Q () { s' with heap := h' }) (hk : scope.kind = .function := by rfl) :
    wpAny M (A.deeper (envOf name scope L a cd)) (leaving (envOf name scope L a cd) (.ref e)) Q E s' := by
  have K' := K.push (name := name) (a := a) (cd := cd) F hk
  have he := (N _ hm).1
  have hfr : ∀ env ∈ (envOf name scope L a cd :: outer), ∀ b, env.frame = some b → b ∈ e :: (envOf name scope L a cd :: outer).filterMap (·.frame) := fun env hev b hb => .tail _ (List.mem_filterMap.mpr ⟨env, hev, hb⟩)
  have hframe : ∀ b ∈ (envOf name scope L a cd :: outer).filterMap (·.frame), base.get? b = none := fun b hb => (K'.frames.mem hb).1
  have heb : base.get? e = none := fresh_of_stays K.stays (N _ hm).2.2
  have st : base.StaysIn (hideAll s'.heap (e :: (envOf name scope L a cd :: outer).filterMap (·.frame))) := fun b o q => hideAll_get _ (K'.stays b o q) fun hb => by
    rcases List.mem_cons.mp hb with rfl | hb
    · rw [heb] at q; cases q
    · rw [hframe b hb] at q; cases q
  have hen : (hideAll s'.heap (e :: (envOf name scope L a cd :: outer).filterMap (·.frame))).get? e = none := hideAll_none _ (.head _)
  refine wpAny_leaving_firstW (a0 := .ref t) K'.stack (funFrames_hide K'.frames hfr) rfl he (fun b o hb => of_hideAll _ hb) hen rfl rfl rfl fun h' hL => ?_
  refine cps fun gG kG => ?_
  obtain ⟨k1, ⟨_, _, k2⟩, k3, k4⟩ := hL
  refine kG ?_
  clear kG gG
  refine hQ h' (fun keep hs ho => ⟨_, .ref t, st, fun q hq => ⟨hideAll_get _ (N q (hs q hq)).1 fun hb => ?_, fresh_of_stays K.stays (N q (hs q hq)).2.2⟩, k1, hen, k2, k3⟩) ((Heap.UpToSlots.of_keeps F.keep).trans k4)
  rcases List.mem_cons.mp hb with hb | hb
  · exact ho q hq hb
  · obtain ⟨env, hev, hf⟩ := List.mem_filterMap.mp hb
    rcases List.mem_cons.mp hev with rfl | hev
    · exact (N q (hs q hq)).2.1 (Option.some.inj hf).symm
    · obtain ⟨o, ho', _⟩ := (K.frames.mem (List.mem_filterMap.mpr ⟨env, hev, hf⟩)).2
      rw [(N q (hs q hq)).2.2] at ho'; cases ho'
end
end
section
/-- A travelling exception of which the context is known to be None: its traceback's place at `fl`. -/
noncomputable def TrX (h base : Heap) (e : Addr) (cls fl : Value) : Prop :=
  ∃ oe vs T oT ts, h.get? e = some oe ∧ oe.cls = cls ∧ oe.data = .fields vs ∧ vs[1]? = some (.ref T) ∧ vs[2]? = some .none ∧ base.get? T = none ∧ T ≠ e ∧ h.get? T = some oT ∧ oT.data = .fields ts ∧ ts[3]? = some fl
noncomputable def FlX (base : Heap) (l : List Env) (e : Addr) (cls fl : Value) (h : Heap) : Prop := base.StaysIn h ∧ base.get? e = none ∧ h.FunFrames base l ∧ TrX h base e cls fl
noncomputable def RaisedX (base : Heap) (l : List Env) (e : Addr) (cls : Value) (news : List (Addr × Obj)) (h : Heap) : Prop :=
  ∃ B, base.StaysIn B ∧ (∀ q ∈ news, B.get? q.1 = some q.2 ∧ base.get? q.1 = none) ∧ FlX B l e cls .none h
theorem raisedX_sub {base h : Heap} {l : List Env} {e : Addr} {cls : Value} {keep keep' : List (Addr × Obj)} (R : RaisedX base l e cls keep h) (hs : ∀ p ∈ keep', p ∈ keep) : RaisedX base l e cls keep' h :=
  let ⟨B, hB, hl, hf⟩ := R; ⟨B, hB, fun q hq => hl q (hs q hq), hf⟩
theorem upd_none {h base : Heap} {T : Addr} {f : Obj → Obj} (hT : base.get? T = none) (k : base.StaysIn h) : base.StaysIn (h.update T f) := fun b o q =>
  (Heap.get?_update_other _ _ fun z => by rw [← z, hT] at q; cases q).trans (k b o q)
theorem upd_slots {h : Heap} {T : Addr} {o : Obj} {ts : Array Value} {f : Obj → Obj} (hT : h.get? T = some o) (hd : o.data = .fields ts) : h.UpToSlots (h.update T f) := fun b o' q hn =>
  ⟨o'.slots, (Heap.get?_update_other _ _ fun z => by rw [← z, hT] at q; cases q; exact hn ts hd).trans q⟩
theorem funFrames_up {h h' base : Heap} {l : List Env} (F : h.FunFrames base l) (k : h.UpToSlots h') : h'.FunFrames base l :=
  F.of_keeps fun b o hb hn => let ⟨sl, hs⟩ := k b o hb hn; ⟨_, hs, rfl⟩
section
variable {M : Model} {A : Around} {E : Value → Shared → Prop} {s : Shared} {base : Heap} {env : Env} {outer : List Env} {L e : Addr} {cls : Value} {Q : Unit → Shared → Prop}
theorem entryX {oe : Obj} {vs : Array Value} {head : Value} {hadNext : Bool} (hfr : A.frames = some (env :: outer)) (hl : s.heap.FunFrames base (env :: outer)) (hf : env.frame = some L)
    (he : s.heap.get? e = some oe) (hkb : base.StaysIn s.heap) (hen : base.get? e = none) (hd : oe.data = .fields vs) (hsz : 1 < vs.size) (h2 : vs[2]? = some .none)
    (h : ∀ h', FlX base (env :: outer) e oe.cls (rawInt L) h' → s.heap.UpToSlots h' → Q () { s with heap := h' }) :
    wpAny M A (do let a ← frameOf env; let pl ← entryPlaceOf L hadNext; let b ← EntryCells.newEntry head a .none (rawInt L) .none pl; setField (.ref e) 1 b) Q E s := by
  have hne : e ∉ (env :: outer).filterMap (·.frame) := fun hm => by
    obtain ⟨_, o, ho, hn⟩ := hl.mem hm
    rw [he] at ho; cases ho; exact hn vs hd
  refine wpAny_bind (wpAny_frameOf_fun hfr hl hf fun h₁ hs₁ => wpAny_bind (wpAny_entryPlaceOf fun pl hpl => ?_))
  have u1 : s.heap.UpToSlots h₁ := fun b o hb _ => hs₁.2.2 b o hb
  unfold EntryCells.newEntry newFields
  refine wpAny_bind (wpAny_newObj_type ?_ (hpl.sizeOk5 _ _ _ _ _))
  generalize hoT : ({ cls := .type "traceback", data := .fields _ } : Obj) = oT
  have hdT : ∃ ts : Array Value, oT.data = .fields ts ∧ ts[3]? = some (rawInt L) := by
    subst hoT
    exact ⟨_, rfl, by first | (simp; done) | (rcases hpl with rfl | ⟨_, _, _, _, _, _, _, rfl⟩ <;> simp)⟩
  have hfr : oT.isFreed = false := by subst hoT; rfl
  refine cps fun gG kG => ?_
  obtain ⟨ts, hdT, h3⟩ := hdT
  refine kG ?_
  clear kG gG
  have he1 : h₁.get? e = some oe := (hs₁.2.1 e hne).trans he
  have kb1 : base.StaysIn h₁ := fun b o q => (hs₁.2.1 b fun hm => by rw [(hl.mem hm).1] at q; cases q).trans (hkb b o q)
  have he2 := Heap.get?_push_of_some (h := h₁) oT he1
  have hTe : h₁.objs.size ≠ e := Nat.ne_of_gt (Heap.lt_size he1)
  have hd3 := Obj.data_mapFields hd (·.setIfInBounds 1 (Value.ref h₁.objs.size))
  have u2 : s.heap.UpToSlots ((h₁.push oT).update e (Obj.mapFields (·.setIfInBounds 1 (Value.ref h₁.objs.size)))) :=
    (u1.trans (Heap.UpToSlots.of_keeps fun b o q => Heap.get?_push_of_some _ q)).trans (upd_slots he2 hd)
  refine wpAny_setField he2 hd hsz (h _ ⟨upd_none hen fun b o q => Heap.get?_push_of_some _ (kb1 b o q), hen, funFrames_up hl u2, _, _, h₁.objs.size, oT, ts, ?_, Obj.cls_mapFields _ _, hd3, ?_, ?_, kb1.fresh, hTe, ?_, hdT, h3⟩ u2)
  · exact Heap.get?_update_self _ he2 (Obj.isFreed_of_fields hd3)
  · simp [hsz]
  · rw [Array.getElem?_setIfInBounds_ne (by decide)]; exact h2
  · exact (Heap.get?_update_other _ _ (Ne.symm hTe)).trans (Heap.get?_push_size h₁ hfr)
theorem note_firstX {oe : Obj} {vs : Array Value} (hfr : A.frames = some (env :: outer)) (hl : s.heap.FunFrames base (env :: outer)) (hf : env.frame = some L)
    (he : s.heap.get? e = some oe) (hkb : base.StaysIn s.heap) (hen : base.get? e = none) (hd : oe.data = .fields vs) (h1 : vs[1]? = some .none) (h2 : vs[2]? = some .none)
    (h : ∀ h', FlX base (env :: outer) e oe.cls (rawInt L) h' → s.heap.UpToSlots h' → Q () { s with heap := h' }) : wpAny M A (noteFrame (.ref e) env) Q E s := by
  unfold noteFrame
  simp only [hf]
  refine wpAny_bind (wpAny_field he hd h1 ?_)
  rw [if_neg (by decide)]
  exact entryX hfr hl hf he hkb hen hd (Array.getElem?_eq_some_iff.mp h1).1 h2 h
theorem note_nextX (hfr : A.frames = some (env :: outer)) (hf : env.frame = some L) (x : FlX base (env :: outer) e cls .none s.heap)
    (h : ∀ h', FlX base (env :: outer) e cls (rawInt L) h' → s.heap.UpToSlots h' → Q () { s with heap := h' }) : wpAny M A (noteFrame (.ref e) env) Q E s := by
  refine cps fun gG kG => ?_
  obtain ⟨hkb, hen, hl, oe, vs, T, oT, ts, he, rfl, hd, h1, h2, hnT, hTe, hT, hdT, h3⟩ := x
  refine kG ?_
  clear kG gG
  unfold noteFrame
  simp only [hf]
  refine wpAny_bind (wpAny_field he hd h1 ?_)
  rw [if_pos (show (Value.ref T != Value.none) = true from by simp)]
  refine wpAny_bind (wpAny_field hT hdT h3 ?_)
  rw [if_neg (show ¬ ((Value.none == rawInt L) = true) from by simp [rawInt])]
  refine wpAny_bind (wpAny_setField hT hdT (Array.getElem?_eq_some_iff.mp h3).1 ?_)
  have u := upd_slots (f := Obj.mapFields (·.setIfInBounds 3 Value.none)) hT hdT
  exact entryX hfr (funFrames_up hl u) hf ((Heap.get?_update_other _ _ hTe).trans he) (upd_none hnT hkb) hen hd (Array.getElem?_eq_some_iff.mp h1).1 h2 fun h' x1 x2 => h h' x1 (u.trans x2)
theorem flightX {l : List Env} {fl : Value} (x : FlX base l e cls fl s.heap) (h : ∀ h', FlX base l e cls .none h' → s.heap.UpToSlots h' → (∀ b o, b ≠ e → (∀ vs, o.data ≠ .fields vs) → s.heap.get? b = some o → h'.get? b = some o) → Q () { s with heap := h' }) :
    wpAny M A (setFlight (.ref e) none) Q E s := by
  refine cps fun gG kG => ?_
  obtain ⟨hkb, hen, hl, oe, vs, T, oT, ts, he, hc, hd, h1, h2, hnT, hTe, hT, hdT, h3⟩ := x
  refine kG ?_
  clear kG gG
  have hz : 3 < ts.size := (Array.getElem?_eq_some_iff.mp h3).1
  have u := upd_slots (f := Obj.mapFields (·.setIfInBounds 3 ((none : Option Addr).elim Value.none fun f => rawInt f))) hT hdT
  unfold setFlight
  refine wpAny_bind (wpAny_field he hd h1 ?_)
  rw [if_pos (show (Value.ref T != Value.none) = true from by simp)]
  refine wpAny_setField hT hdT hz (h _ ⟨upd_none hnT hkb, hen, funFrames_up hl u, oe, vs, T, _, _, (Heap.get?_update_other _ _ hTe).trans he, hc, hd, h1, h2, hnT, hTe, Heap.get?_update_self _ hT (Obj.isFreed_of_fields (Obj.data_mapFields hdT _)), Obj.data_mapFields hdT _, by simp [hz]⟩ u fun b o _ hn q => ?_)
  exact (Heap.get?_update_other _ _ fun z => by rw [← z, hT] at q; cases q; exact hn ts hdT).trans q
end
section
variable {M : Model} {A : Around} {E : Value → Shared → Prop} {s' : Shared} {base g g₂ : Heap} {outer : List Env} {L a e : Addr} {m : Str → Option Value} {name : Str} {scope : Scope} {cd : Value} {Q : Unit → Shared → Prop} {news : List (Addr × Obj)}
theorem leave_faultX {C t d : Addr} (K : Below A base outer g) (F : Fr g L s'.heap m) (N : News g L s'.heap news) (hm : (e, excObjD C t d) ∈ news)
    (hQ : ∀ h', (∀ keep : List (Addr × Obj), (∀ p ∈ keep, p ∈ news) → (∀ p ∈ keep, p.1 ≠ e) → RaisedX base outer e (.ref C) keep h') → g.UpToSlots h' → Q () { s' with heap := h' }) (hk : scope.kind = .function := by rfl) :
    wpAny M (A.deeper (envOf name scope L a cd)) (leaving (envOf name scope L a cd) (.ref e)) Q E s' := by
  have K' := K.push (name := name) (a := a) (cd := cd) F hk
  have he := (N _ hm).1
  have hfr : ∀ env ∈ (envOf name scope L a cd :: outer), ∀ b, env.frame = some b → b ∈ e :: (envOf name scope L a cd :: outer).filterMap (·.frame) := fun env hev b hb => .tail _ (List.mem_filterMap.mpr ⟨env, hev, hb⟩)
  have hframe : ∀ b ∈ (envOf name scope L a cd :: outer).filterMap (·.frame), base.get? b = none := fun b hb => (K'.frames.mem hb).1
  have heb : base.get? e = none := fresh_of_stays K.stays (N _ hm).2.2
  have st : base.StaysIn (hideAll s'.heap (e :: (envOf name scope L a cd :: outer).filterMap (·.frame))) := fun b o q => hideAll_get _ (K'.stays b o q) fun hb => by
    rcases List.mem_cons.mp hb with rfl | hb
    · rw [heb] at q; cases q
    · rw [hframe b hb] at q; cases q
  have hen : (hideAll s'.heap (e :: (envOf name scope L a cd :: outer).filterMap (·.frame))).get? e = none := hideAll_none _ (.head _)
  unfold leaving
  refine wpAny_bind (note_firstX K'.stack (funFrames_hide K'.frames hfr) rfl he (fun b o hb => of_hideAll _ hb) hen rfl rfl rfl fun h' x1 x2 => ?_)
  refine flightX x1 fun h2 y1 y2 _ => ?_
  refine cps fun gG kG => ?_
  obtain ⟨k1, k2, ⟨_, _, k3⟩, k4⟩ := y1
  refine kG ?_
  clear kG gG
  refine hQ h2 (fun keep hs ho => ⟨_, st, fun q hq => ⟨hideAll_get _ (N q (hs q hq)).1 fun hb => ?_, fresh_of_stays K.stays (N q (hs q hq)).2.2⟩, k1, k2, k3, k4⟩) ((Heap.UpToSlots.of_keeps F.keep).trans (x2.trans y2))
  rcases List.mem_cons.mp hb with hb | hb
  · exact ho q hq hb
  · obtain ⟨env, hev, hf⟩ := List.mem_filterMap.mp hb
    rcases List.mem_cons.mp hev with rfl | hev
    · exact (N q (hs q hq)).2.1 (Option.some.inj hf).symm
    · obtain ⟨o, ho', _⟩ := (K.frames.mem (List.mem_filterMap.mpr ⟨env, hev, hf⟩)).2
      rw [(N q (hs q hq)).2.2] at ho'; cases ho'
theorem leave_onX {cls : Value} (K : Below A base outer g) (F : Fr g L g₂ m) (R : RaisedX base (envOf name scope L a cd :: outer) e cls news s'.heap) (hsm : g₂.UpToSlots s'.heap)
    (hQ : ∀ h', RaisedX base outer e cls news h' → g.UpToSlots h' → Q () { s' with heap := h' }) :
    wpAny M (A.deeper (envOf name scope L a cd)) (leaving (envOf name scope L a cd) (.ref e)) Q E s' := by
  refine cps fun gG kG => ?_
  obtain ⟨B, hB, hl, hfl⟩ := R
  refine kG ?_
  clear kG gG
  unfold leaving
  refine wpAny_bind (note_nextX (Around.frames_deeper K.stack) rfl hfl fun h' x1 x2 => flightX x1 fun h2 y1 y2 _ => ?_)
  refine cps fun gG kG => ?_
  obtain ⟨k1, k2, ⟨_, _, k3⟩, k4⟩ := y1
  refine kG ?_
  clear kG gG
  exact hQ h2 ⟨B, hB, hl, k1, k2, k3, k4⟩ ((Heap.UpToSlots.of_keeps F.keep).trans (hsm.trans (x2.trans y2)))
end
section
variable {prog : Program} {w : World} {dp un : Nat} {gd : Option (List Code)} {cn : Str} {cs : Scope} {ccd : Value} {cl : List (Str × Addr)} {E : Value → Shared → Prop} {s' : Shared} {b1 h : Heap} {outer : List Env} {L a e C : Addr} {m : Str → Option Value}
  {b₀ : Stmt} {suite : List Stmt} {pos np : Pos} {rest : List ExceptHandler} {Q : Flow → Shared → Prop} {news : List (Addr × Obj)} {KF : Frag}
  {p : Program} {loose : List Str} {mg mb : Str → Option Value} {x : Str}
theorem caught_ownX (F : Fr b1 L h m) (hsm : h.UpToSlots s'.heap) (R : RaisedX b1 (envX cn cs L a ccd cl :: outer) e (.ref C) news s'.heap)
    (X : KF.In b1) (T : TopRead p loose mg mb b1) (ex : nsIn KF mainGlobals x = some (some (.ref C))) (q : ktsIn KF C "BaseException" = true)
    (k : ∀ h' oe ve, Fr b1 L h' m → News b1 L h' ((e, oe) :: news) → oe.data = .fields ve → ve[2]? = some .none → (∀ q ∈ news, q.1 ≠ e) →
      wpAny (model prog w) ((ktrTop dp un gd cn cs L a ccd cl outer).mark (some (.ref e))) (execs (b₀ :: suite) (envX cn cs L a ccd cl)) Q E { s' with heap := h' })
    (hk : cs.kind = .function) (hx : (envX cn cs L a ccd cl).kindOf x = some .globalImplicit) (hd : (x == ("__debug__" : Str)) = false)
    (hE : PassesOwnAt (model prog w) ((ktrTop dp un gd cn cs L a ccd cl outer).mark (some (.ref e))) (ktrTop dp un gd cn cs L a ccd cl outer) (envX cn cs L a ccd cl) E) :
    wpAny (model prog w) (ktrTop dp un gd cn cs L a ccd cl outer) (noteFrame (.ref e) (envX cn cs L a ccd cl))
      (fun _ s₂ => wpAny (model prog w) (ktrTop dp un gd cn cs L a ccd cl outer) (setFlight (.ref e) none) (fun _ s₃ =>
        wpAny (model prog w) (ktrTop dp un gd cn cs L a ccd cl outer) (handleBy (.ref e) (envX cn cs L a ccd cl) (.ExceptHandler (some (.Name x np)) none (b₀ :: suite) pos :: rest)) Q E s₃) E s₂) E s' := by
  refine cps fun gG kG => ?_
  obtain ⟨B, hB, hl, hfl⟩ := R
  refine kG ?_
  clear kG gG
  refine note_nextX rfl rfl hfl fun h4 x1 u1 => ?_
  refine flightX x1 fun h5 x2 u2 _ => ?_
  have F5 := F.of_stays (fun b o q => x2.1 b o (hB b o q)) (hsm.trans (u1.trans u2))
  refine cps fun gG kG => ?_
  obtain ⟨ob, hob, hobc⟩ : ∃ ob, h5.get? e = some ob ∧ ob.cls = .ref C := by obtain ⟨_, _, _, oe, _, _, _, _, z1, z2, _⟩ := x2; exact ⟨oe, z1, z2⟩
  refine kG ?_
  clear kG gG
  refine wpAny_handleBy_cons (codeAny_handlers_test (nameG_K F5 X T ex ?_ rfl hk hx hd)) (by intro q; cases q)
  refine cps fun gG kG => ?_
  obtain ⟨nm, qn, N, bs, bm, hdct, sn, sub, ab, col, dd, k0, k1, k2, k3, k5, newId, hC, hbase, -⟩ := kts_cls (X.keeps F5.keep) q
  refine kG ?_
  clear kG gG
  refine wpAny_excMatches_sub_self hC hob hobc hbase (codeAny_handlers_suite ?_)
  refine flightX x2 fun h6 x3 u3 _ => ?_
  have F6 := F.of_stays (fun b o q => x3.1 b o (hB b o q)) (hsm.trans (u1.trans (u2.trans u3)))
  refine cps fun gG kG => ?_
  obtain ⟨kb, hen, ⟨_, ⟨L', oL, hL, hLB, hLo, hLd⟩, _⟩, oe, ve, _, _, _, z1, _, z2, _, z3, _⟩ := x3
  obtain rfl : L = L' := Option.some.inj hL
  refine kG ?_
  clear kG gG
  have heL : e ≠ L := fun z => by rw [← z, z1] at hLo; cases hLo; exact hLd _ z2
  have hnL : ∀ q ∈ news, q.1 ≠ L := fun q hq z => by have := (hl q hq).1; rw [z, hLB] at this; cases this
  have hnew : b1.get? e = none := fresh_of_stays hB hen
  refine wpAny_passesOwnAt hE (k h6 oe ve F6 (List.forall_mem_cons.mpr ⟨⟨z1, heL, hnew⟩, fun q hq => ⟨kb _ _ (hl q hq).1, hnL q hq, (hl q hq).2⟩⟩) z2 z3 fun q hq z => ?_)
  have := (hl q hq).1
  rw [z, hen] at this
  cases this
end
end
section
/-- The end of one turn of a loop whose state is J. -/
noncomputable def TurnA (h₀ : Heap) (L : Addr) (I : Addr) (oI : Obj) (s : Shared) (Jn : (Str → Option Value) → List (Addr × Obj) → Prop) (Q : Flow → Shared → Prop) (f : Flow) (s₄ : Shared) : Prop :=
  match f with
  | .ret v => Q (.ret v) s₄
  | .brk => Q .next s₄
  | _ => ∃ h' tk m' nw', s₄ = { s with heap := h', toks := tk } ∧ Fr h₀ L h' m' ∧ News h₀ L h' ((I, oI) :: nw') ∧ (∀ p ∈ nw', p.1 ≠ I) ∧ Jn m' nw'
theorem turnA_next {h₀ h' : Heap} {L I : Addr} {oI : Obj} {s : Shared} {Jn : (Str → Option Value) → List (Addr × Obj) → Prop} {Q : Flow → Shared → Prop} {m' : Str → Option Value} {nx nw' : List (Addr × Obj)} {tk : Nat}
    (F : Fr h₀ L h' m') (N : News h₀ L h' nx) (hs : ∀ p ∈ (I, oI) :: nw', p ∈ nx) (off : ∀ p ∈ nw', p.1 ≠ I) (hJ : Jn m' nw') : TurnA h₀ L I oI s Jn Q .next { s with heap := h', toks := tk } :=
  ⟨h', tk, m', nw', rfl, F, fun p hp => N p (hs p hp), off, hJ⟩
section
variable {prog : Program} {w : World} {A : Around} {E : Value → Shared → Prop} {s : Shared} {env : Env} {h₀ : Heap} {target : Expr} {body : List Stmt} {Q : Flow → Shared → Prop}
theorem turnsG {I : Addr} {fp : List Addr} {n : Nat} {P : Nat → Value → Prop} {St : Nat → Heap → Prop} {keep : List (Addr × Obj)} {m₀ : Str → Option Value} {news : List (Addr × Obj)}
    (J : Nat → (Str → Option Value) → List (Addr × Obj) → Prop) (W : Walks prog w A I fp [I] n P St)
    (hgo : ∀ i v (s : Shared) (Q : Unit → Shared → Prop) (E : Value → Shared → Prop), St i s.heap → Q () s → wpAny (model prog w) A (letOwnedTupleGo target (.ref I) v) Q E s)
    (hIs : ∀ i h, St i h → ∃ o, h.get? I = some o) (hfp : ∀ b ∈ fp, b = I ∨ ∃ o, (b, o) ∈ keep) (hJk : ∀ i m nw, J i m nw → ∀ p ∈ keep, p ∈ nw)
    (hLf : env.locals ∉ fp) (hI : h₀.get? I = none) (hst : St 0 s.heap) (F : Fr h₀ env.locals s.heap m₀) (N : News h₀ env.locals s.heap news) (off : ∀ p ∈ news, p.1 ≠ I) (h0 : J 0 m₀ news)
    (turn : ∀ i v m₁ nw h₁ tk₁ o, i < n → P i v → J i m₁ nw → (∀ p ∈ nw, p.1 ≠ I) → Fr h₀ env.locals h₁ m₁ → News h₀ env.locals h₁ ((I, o) :: nw) →
      wpAny (model prog w) A (assign target env v) (fun _ s₃ => wpAny (model prog w) A (execs body env) (TurnA h₀ env.locals I o s (J (i + 1)) Q) E s₃) E { s with heap := h₁, toks := tk₁ })
    (fin : ∀ h' tk m' nw, J n m' nw → Fr h₀ env.locals h' m' → News h₀ env.locals h' nw → Q .next { s with heap := h', toks := tk }) :
    TurnsAt prog w A h₀ env target body Q E (.ref I) s := by
  refine ⟨I, fp, [I], n, _, _, St, m₀, news, J, rfl, KTurns.ofWalks W hgo, hLf, fun b hb => by rw [List.mem_singleton.mp hb]; exact hI, fun p hp hb => off p hp (List.mem_singleton.mp hb), hst, F, N, h0, ?_, fun h' tk m' nw F' N' _ hJ => fin h' tk m' nw hJ F' N'⟩
  intro i v m₁ nw h₁ tk₁ own hi hP hJ hnw hown hget hin hst₁ F₁ N₁
  refine cps fun gG kG => ?_
  obtain ⟨o, ho⟩ := hIs _ _ hst₁
  refine kG ?_
  clear kG gG
  have hIf : I ∈ fp := W.sub I (List.mem_singleton.mpr rfl)
  have hmI : (I, o) ∈ own := hin I hIf hI o ho
  have hoff : ∀ p ∈ nw, p.1 ≠ I := fun p hp e => hnw p hp (List.mem_singleton.mpr e)
  have N₂ : News h₀ env.locals h₁ ((I, o) :: nw) := fun p hp => by
    rcases List.mem_cons.mp hp with rfl | hp
    · exact N₁ _ (List.mem_append_left _ hmI)
    · exact N₁ _ (List.mem_append_right _ hp)
  refine wpAny_mono (turn i v m₁ nw h₁ tk₁ o hi hP hJ hoff F₁ N₂) (fun _ s₃ h₃ => wpAny_mono h₃ (fun f s₄ h₄ => ?_) fun _ _ x => x) fun _ _ x => x
  have key : (∃ h' tk m' nw', s₄ = { s with heap := h', toks := tk } ∧ Fr h₀ env.locals h' m' ∧ News h₀ env.locals h' ((I, o) :: nw') ∧ (∀ p ∈ nw', p.1 ≠ I) ∧ J (i + 1) m' nw') → LoopStepU h₀ env.locals [I] own (J (i + 1)) { s with heap := h₁, toks := tk₁ } .next s₄ := by
    rintro ⟨h', tk, m', nw', rfl, F', N', off', hJ'⟩
    refine ⟨rfl, h', tk, m', nw', rfl, F', fun p hp => ?_, fun p hp hb => off' p hp (List.mem_singleton.mp hb), hJ'⟩
    rcases List.mem_append.mp hp with hp | hp
    · have hg := hget p hp
      rcases hfp _ (hown p hp) with e | ⟨o', hk⟩
      · have e2 : p = (I, o) := Prod.ext e (by rw [e, ho] at hg; exact (Option.some.inj hg).symm)
        rw [e2]; exact N' _ (.head _)
      · have h1 := (N₁ _ (List.mem_append_right _ (hJk _ _ _ hJ _ hk))).1
        dsimp only at h1
        rw [hg] at h1
        have e2 : p = (p.1, o') := Prod.ext rfl (Option.some.inj h1)
        rw [e2]; exact N' _ (.tail _ (hJk _ _ _ hJ' _ hk))
    · exact N' _ (.tail _ hp)
  cases f with
  | ret v => exact h₄
  | brk => exact h₄
  | next => exact key h₄
  | cont => exact key h₄
theorem iterListA {ax : Addr} {lo : Obj} {vs : List Value} {nn : Nat} {m₀ : Str → Option Value} {news : List (Addr × Obj)}
    (J : Nat → (Str → Option Value) → List (Addr × Obj) → Prop) (hh : A.handled = none) (F : Fr h₀ env.locals s.heap m₀) (N : News h₀ env.locals s.heap news) (hm : (ax, lo) ∈ news) (hc : lo.cls = .type "list") (hd : lo.data = .seq vs.toArray nn)
    (h0 : J 0 m₀ news) (hJl : ∀ i m nw, J i m nw → (ax, lo) ∈ nw)
    (turn : ∀ I i v m₁ nw h₁ tk₁ o, vs[i]? = some v → J i m₁ nw → (∀ p ∈ nw, p.1 ≠ I) → Fr h₀ env.locals h₁ m₁ → News h₀ env.locals h₁ ((I, o) :: nw) →
      wpAny (model prog w) A (assign target env v) (fun _ s₃ => wpAny (model prog w) A (execs body env) (TurnA h₀ env.locals I o s (J (i + 1)) Q) E s₃) E { s with heap := h₁, toks := tk₁ })
    (fin : ∀ h' tk m' nw, J vs.length m' nw → Fr h₀ env.locals h' m' → News h₀ env.locals h' nw → Q .next { s with heap := h', toks := tk }) :
    wpAny (model prog w) A (pyIter (.ref ax)) (fun it s₂ => TurnsAt prog w A h₀ env target body Q E it s₂) E s := by
  have hax := N _ hm
  have hl : s.heap.IsList ax vs.toArray := ⟨lo, hax.1, hc, nn, hd⟩
  have hlt : ax < s.heap.objs.size := Heap.lt_size hax.1
  have hne : ax ≠ s.heap.objs.size := Nat.ne_of_lt hlt
  refine wpAny_pyIter_list hl ?_
  refine turnsG (keep := [(ax, lo)]) J (Walks.list hh s.heap.objs.size ax hne vs.toArray) (fun i v s Q E st q => letGo_listiter st.1 q) (fun i h st => by obtain ⟨it, hit, _⟩ := st.1; exact ⟨it, hit⟩) (fun b hb => ?_) (fun i m nw hJ p hp => by rw [List.mem_singleton.mp hp]; exact hJl _ _ _ hJ) (fun hI => ?_) (ktu_new F (Nat.le_refl _)) ?_ (F.push _) (fun p hp => ⟨Heap.get?_push_of_some _ (N p hp).1, (N p hp).2⟩) (fun p hp => Nat.ne_of_lt (Heap.lt_size (N p hp).1)) h0 ?_ ?_
  · have hb' : b = s.heap.objs.size ∨ b = ax := by simpa using hb
    rcases hb' with e | e
    · exact .inl e
    · exact .inr ⟨lo, by simp [e]⟩
  · rcases List.mem_cons.mp hI with e | hI
    · exact absurd F.ns.lt (e ▸ Nat.lt_irrefl _)
    · exact hax.2.1 (List.mem_singleton.mp hI).symm
  · exact ⟨⟨_, Heap.get?_push_size _ rfl, rfl, rfl⟩, hl.at fun o e => Heap.get?_push_of_some _ e⟩
  · intro i v m₁ nw h₁ tk₁ o hi hP hJ hoff F₁ N₁
    exact turn _ i v m₁ nw h₁ tk₁ o (by simpa using hP) hJ hoff F₁ N₁
  · intro h' tk m' nw hJ F' N'
    exact fin h' tk m' nw (by simpa using hJ) F' N'
end
end
section
open PySem PySem.W PyProof.Rows PySem.Calls PySem.Spec LCg
noncomputable def CompNext (h₀ : Heap) (L : Addr) (m : Str → Option Value) (s : Shared) (I : Addr) (oI : Obj) (C : Addr) (oC : Obj) (D : Addr) (ys : List Value) (Jn : List (Addr × Obj) → Prop) (s₄ : Shared) : Prop :=
  ∃ h' tk nw', s₄ = { s with heap := h', toks := tk } ∧ Fr h₀ L h' m ∧ News h₀ L h' ((I, oI) :: (C, oC) :: (D, lst ys) :: nw') ∧ (∀ p ∈ nw', p.1 ≠ I ∧ p.1 ≠ C ∧ p.1 ≠ D) ∧ Jn nw'
theorem compNext_intro {h₀ h' : Heap} {L I C D : Addr} {m : Str → Option Value} {s : Shared} {oI oC : Obj} {ys : List Value} {Jn : List (Addr × Obj) → Prop} {nw' : List (Addr × Obj)} {tk : Nat}
    (F : Fr h₀ L h' m) (N : News h₀ L h' ((I, oI) :: (C, oC) :: (D, lst ys) :: nw')) (off : ∀ p ∈ nw', p.1 ≠ I ∧ p.1 ≠ C ∧ p.1 ≠ D) (hJ : Jn nw') : CompNext h₀ L m s I oI C oC D ys Jn { s with heap := h', toks := tk } :=
  ⟨h', tk, nw', rfl, F, N, off, hJ⟩
noncomputable abbrev testsOf (ifs : List Expr) (env : Env) : Sem Bool := forIn ifs true fun c r => if r = true then do let ok ← isTrue c env (eval c env); pure (ForInStep.yield ok) else pure (ForInStep.yield r)
section
variable {prog : Program} {w : World} {A : Around} {E : Value → Shared → Prop} {s : Shared} {h₀ : Heap} {L : Addr} {m : Str → Option Value} {env : Env}
theorem codeAny_compLoop_G {elt iter target : Expr} {ifs : List Expr} {scope : Scope} {pos : Pos} {it acc : Value} {env : Env} {R : Result → Shared → Prop} (I : Nat → Shared → Prop)
    (turn : ∀ n s, I n s → wpAny (model prog w) A (pyNext it) (fun r s₁ => match r with
      | none => R (.ok .next) s₁
      | some v => wpAny (model prog w) A (letOwnedTupleGo target it v) (fun _ s₁' => wpAny (model prog w) A (assign target env v) (fun _ s₂ =>
          wpAny (model prog w) A (testsOf ifs env) (fun ok s₃ => if ok = true then wpAny (model prog w) A (eval elt env) (fun x s₄ =>
              wpAny (model prog w) A (call (.builtin "list.append") [acc, x]) (fun _ s₅ => ∃ m, m < n ∧ I m s₅) (notedBy (model prog w) A env fun e s' => R (.error e) s') s₄) (notedBy (model prog w) A env fun e s' => R (.error e) s') s₃
            else ∃ m, m < n ∧ I m s₃) (notedBy (model prog w) A env fun e s' => R (.error e) s') s₂)
          (notedBy (model prog w) A env fun e s' => R (.error e) s') s₁') (notedBy (model prog w) A env fun e s' => R (.error e) s') s₁) (notedBy (model prog w) A env fun e s' => R (.error e) s') s)
    (n : Nat) (h : I n s) : codeAny (model prog w) A (.compLoop (.ListComp elt [⟨target, iter, ifs, 0⟩] scope pos) 0 it acc env) R s := by
  refine codeAny_loop rfl I (fun n s hI => ?_) n h
  show wpAny _ A ((compTurn (.ListComp elt [⟨target, iter, ifs, 0⟩] scope pos) 0 it acc env).onRaise (fun x => do noteFrame x env; theTreesLotGoes x)) _ _ s
  refine wpAny_noted ?_
  rw [compTurn_list]
  refine wpAny_bind (wpAny_standAt (wpAny_bind (wpAny_mono (turn n s hI) (fun r s₁ h₁ => ?_) fun _ _ h' => h')))
  cases r with
  | none => exact wpAny_pure h₁
  | some v =>
    refine wpAny_bind (wpAny_mono h₁ (fun _ s₁' h₁' => ?_) fun _ _ h' => h')
    refine wpAny_bind (wpAny_mono h₁' (fun _ s₂ h₂ => wpAny_bind (wpAny_mono h₂ (fun ok s₃ h₃ => ?_) fun _ _ h' => h')) fun _ _ h' => h')
    cases ok with
    | false => exact wpAny_pure ⟨rfl, h₃⟩
    | true => exact wpAny_bind (wpAny_bind (wpAny_mono h₃ (fun x s₄ h₄ => wpAny_bind (wpAny_mono h₄ (fun _ s₅ h₅ => wpAny_pure (wpAny_pure ⟨rfl, h₅⟩)) fun _ _ h' => h')) fun _ _ h' => h'))

structure CompAt (prog : Program) (w : World) (A : Around) (h₀ : Heap) (L : Addr) (m : Str → Option Value) (env : Env) (elt target : Expr) (ifs : List Expr) (scope : Scope) (cl : List (Str × Addr)) (Fin : List Value → List (Addr × Obj) → Prop)
    (Tgt : Nat → Value → (Str → Option Value) → Prop) (J : Nat → List Value → List (Addr × Obj) → Prop) (s₂ : Shared) (I : Addr) (fp : List Addr) (n : Nat) (P : Nat → Value → Prop) (St : Nat → Heap → Prop) (keep news : List (Addr × Obj)) : Prop where
  W : Walks prog w A I fp [I] n P St
  hsz : n ≤ sizeLine
  go : ∀ i v (s : Shared) (Q : Unit → Shared → Prop) (E : Value → Shared → Prop), St i s.heap → Q () s → wpAny (model prog w) A (letOwnedTupleGo target (.ref I) v) Q E s
  hIs : ∀ i h, St i h → ∃ o, h.get? I = some o
  hfp : ∀ b ∈ fp, b = I ∨ ∃ o, (b, o) ∈ keep
  hfs : ∀ b ∈ fp, b < s₂.heap.objs.size
  hJk : ∀ i ys nw, J i ys nw → ∀ p ∈ keep, p ∈ nw
  hLf : L ≠ I
  hI : h₀.get? I = none
  st : St 0 s₂.heap
  F : Fr h₀ L s₂.heap m
  N : News h₀ L s₂.heap news
  off : ∀ p ∈ news, p.1 ≠ I
  h0 : J 0 [] news
  asg : ∀ i v ys nw C h tk m₁ (Q' : Unit → Shared → Prop) (E' : Value → Shared → Prop), i < n → P i v → J i ys nw → News h₀ L h nw → h.Ns C m₁ →
    (∀ h₃ tk₃ m₃, Tgt i v m₃ → h₃.Ns C m₃ → (∀ b o, b ≠ C → h.get? b = some o → h₃.get? b = some o) → Q' () { s₂ with heap := h₃, toks := tk₃ }) →
    wpAny (model prog w) A (assign target (compEnvC scope cl C env) v) Q' E' { s₂ with heap := h, toks := tk }
  turn : ∀ i v ys nw oI C oC D m₂ h tk (E' : Value → Shared → Prop), i < n → P i v → J i ys nw → Tgt i v m₂ → NsObj oC m₂ → Fr h₀ L h m → News h₀ L h ((I, oI) :: (C, oC) :: (D, lst ys) :: nw) → (∀ p ∈ nw, p.1 ≠ I ∧ p.1 ≠ C ∧ p.1 ≠ D) →
    ((@Ne Nat I C) ∧ (@Ne Nat I D) ∧ (@Ne Nat C D)) →
    wpAny (model prog w) A (testsOf ifs (compEnvC scope cl C env)) (fun ok s₃ => if ok = true then wpAny (model prog w) A (eval elt (compEnvC scope cl C env)) (fun y s₄ => CompNext h₀ L m s₂ I oI C oC D ys (J (i + 1) (ys ++ [y])) s₄) E' s₃
      else CompNext h₀ L m s₂ I oI C oC D ys (J (i + 1) ys) s₃) E' { s₂ with heap := h, toks := tk }
  fin : ∀ ys nw, J n ys nw → Fin ys nw

theorem block_G {elt iter target : Expr} {ifs : List Expr} {scope : Scope} {cl : List (Str × Addr)} {pos : Pos} {s₂ : Shared} {Fin : List Value → List (Addr × Obj) → Prop} {Tgt : Nat → Value → (Str → Option Value) → Prop} {J : Nat → List Value → List (Addr × Obj) → Prop}
    {I : Addr} {fp : List Addr} {n : Nat} {P : Nat → Value → Prop} {St : Nat → Heap → Prop} {keep news : List (Addr × Obj)} {RR : Value → Addr → Result → Shared → Prop}
    (K : CompAt prog w A h₀ L m env elt target ifs scope cl Fin Tgt J s₂ I fp n P St keep news)
    (hcell : ∀ y ∈ scope.names, y.2 ≠ .cell) (hkind : scope.kind = .function) (hlen : ∀ i ys nw, J i ys nw → ys.length ≤ i)
    (hRR : ∀ D C h tk m' ys nw, Fr h₀ L h m → News h₀ L h ((D, lst ys) :: nw) → (∀ p ∈ nw, p.1 ≠ D) → h.Ns C m' → h₀.get? C = none → C ≠ L → C ≠ D → (∀ p ∈ nw, p.1 ≠ C) → J n ys nw → RR (.ref D) C (.ok .next) { s₂ with heap := h, toks := tk }) :
    wpAny (model prog w) A (newList []) (fun acc s₃ => wpAny (model prog w) A (newFunctionEnv scope env.globals cl [] env.qual none .none (some env)) (fun cenv s₄ =>
      codeAny (model prog w) A (.compStart (.ListComp elt [⟨target, iter, ifs, 0⟩] scope pos) 0 (.ref I) acc { cenv with scope := relabel scope env }) (RR acc cenv.locals) s₄) E s₃) E s₂ := by
  refine cps fun gG kG => ?_
  obtain ⟨W, hsz, hgo, hIs, hfpk, hfp, hJk, hIL, hI₀, hst, F, N, off, h0, asg, turn, -⟩ := K
  refine kG ?_
  clear kG gG
  refine wpAny_newObj_type (wpAny_newFunctionEnv hcell (by intro y hy; simp at hy) (fun h₁ hns₁ hsb₁ => ?_) hkind)
  dsimp only at hns₁ hsb₁ ⊢
  generalize hH2 : s₂.heap.push { cls := .type "list", dict := none, data := .seq ([] : List Value).toArray } = H2 at hns₁ hsb₁ ⊢
  have hC : H2.objs.size = s₂.heap.objs.size + 1 := by rw [← hH2, Heap.size_push]
  have hDC : s₂.heap.objs.size ≠ H2.objs.size := by rw [hC]; exact Nat.ne_of_lt (Nat.lt_succ_self _)
  have below : ∀ b, b < s₂.heap.objs.size → b ≠ H2.objs.size ∧ b ≠ s₂.heap.objs.size := fun b hb => ⟨by rw [hC]; exact Nat.ne_of_lt (Nat.lt_succ_of_lt hb), Nat.ne_of_lt hb⟩
  have hDf : s₂.heap.objs.size ∉ fp := fun hm => Nat.lt_irrefl _ (hfp _ hm)
  have hCf : H2.objs.size ∉ fp := fun hm => by have := hfp _ hm; rw [hC] at this; exact Nat.lt_irrefl _ (Nat.lt_of_succ_lt this)
  have hIf : I ∈ fp := W.sub I (List.mem_singleton.mpr rfl)
  have hIlt : I < s₂.heap.objs.size := hfp I hIf
  have old : ∀ b o, s₂.heap.get? b = some o → h₁.get? b = some o := fun b o e => hsb₁.extBut b o (below b (Heap.lt_size e)).1 (Heap.get?_push_of_some _ (hH2 ▸ Heap.get?_push_of_some _ e))
  have hacc : h₁.get? s₂.heap.objs.size = some (lst []) := hsb₁.extBut _ _ hDC (Heap.get?_push_of_some _ (hH2 ▸ Heap.get?_push_size _ rfl))
  have hst₁ : St 0 h₁ := W.frame _ _ _ hst fun b _ o e => old b o e
  have fresh : ∀ a, s₂.heap.objs.size ≤ a → s₂.heap.get? a = none := fun a ha => by
    cases e : s₂.heap.get? a with
    | none => rfl
    | some o' => exact absurd (Heap.lt_size e) (Nat.not_lt.mpr ha)
  have fresh₀ : ∀ a, s₂.heap.objs.size ≤ a → h₀.get? a = none := fun a ha => by
    cases e : h₀.get? a with
    | none => rfl
    | some o' => have := F.keep a o' e; rw [fresh a ha] at this; cases this
  have hD₀ : h₀.get? s₂.heap.objs.size = none := fresh₀ _ (Nat.le_refl _)
  have hC₀ : h₀.get? H2.objs.size = none := fresh₀ _ (by rw [hC]; exact Nat.le_succ _)
  have hLlt : L < s₂.heap.objs.size := F.ns.lt
  have hDL : s₂.heap.objs.size ≠ L := Ne.symm (below L hLlt).2
  have hCL : H2.objs.size ≠ L := Ne.symm (below L hLlt).1
  have hCI : I ≠ H2.objs.size := (below I hIlt).1
  have hDI : I ≠ s₂.heap.objs.size := (below I hIlt).2
  have off₀ : ∀ p ∈ news, p.1 ≠ I ∧ p.1 ≠ H2.objs.size ∧ p.1 ≠ s₂.heap.objs.size := fun p hp => ⟨off p hp, (below _ (Heap.lt_size (N p hp).1)).1, (below _ (Heap.lt_size (N p hp).1)).2⟩
  have loop : ∀ s₃ : Shared, s₃ = { s₂ with heap := h₁, toks := s₂.toks + ([] : List (Str × Value)).length } →
      codeAny (model prog w) A (.compLoop (.ListComp elt [⟨target, iter, ifs, 0⟩] scope pos) 0 (.ref I) (.ref s₂.heap.objs.size) (compEnvC scope cl H2.objs.size env))
        (RR (.ref s₂.heap.objs.size) H2.objs.size) s₃ := by
    rintro s₃ rfl
    refine codeAny_compLoop_G
      (fun k s' => ∃ h' tk i ys m' news', s' = { s₂ with heap := h', toks := tk } ∧ i ≤ n ∧ k = n + 1 - i ∧ St i h' ∧ Fr h₀ L h' m ∧ h'.Ns H2.objs.size m' ∧ News h₀ L h' ((s₂.heap.objs.size, lst ys) :: news') ∧
        (∀ p ∈ news', p.1 ≠ I ∧ p.1 ≠ H2.objs.size ∧ p.1 ≠ s₂.heap.objs.size) ∧ J i ys news') ?_ (n + 1)
      ⟨h₁, _, 0, [], _, news, rfl, Nat.zero_le _, rfl, hst₁, F.keeps old, hns₁, fun p hp => ?_, off₀, h0⟩
    · rintro k s' ⟨h', tk, i, ys, m', news', rfl, hi, rfl, hst', F', hn', N', off3, hJ'⟩
      by_cases hlt : i < n
      · refine W.item i _ _ _ hlt hst' fun v h₂ tk₂ hPv hst₂ hk₂ => ?_
        have N₂ : News h₀ L h₂ ((s₂.heap.objs.size, lst ys) :: news') := news_but N' hk₂ fun p hp => by
          rcases List.mem_cons.mp hp with rfl | hp
          · exact Ne.symm hDI
          · exact (off3 p hp).1
        refine hgo _ _ _ _ _ hst₂ ?_
        refine asg i v ys news' H2.objs.size h₂ tk₂ _ _ _ hlt hPv hJ' (fun p hp => N₂ p (List.mem_cons_of_mem _ hp)) (hn'.at' fun o e => hk₂ _ o (by simpa using Ne.symm hCI) e) fun h₃ tk₃ m₃ hT hn₃ old3 => ?_
        have hst₃ : St (i + 1) h₃ := W.frame _ _ _ hst₂ fun b hb o e => old3 b o (fun q => hCf (by rw [← q]; exact hb)) e
        obtain ⟨oI, heI⟩ := hIs _ _ hst₃
        obtain ⟨oC, heC, hoC⟩ := ns_obj hn₃
        have F₂ := fr_but F' hk₂ hIL hI₀
        have F₃ : Fr h₀ L h₃ m := ⟨F₂.ns.at' fun o e => old3 _ o (Ne.symm hCL) e, fun b o e => old3 b o (fun q => by rw [q, hC₀] at e; cases e) (F₂.keep b o e), F₂.above⟩
        have N₃ : News h₀ L h₃ ((I, oI) :: (H2.objs.size, oC) :: (s₂.heap.objs.size, lst ys) :: news') := fun p hp => by
          rcases List.mem_cons.mp hp with rfl | hp
          · exact ⟨heI, Ne.symm hIL, hI₀⟩
          · rcases List.mem_cons.mp hp with rfl | hp
            · exact ⟨heC, hCL, hC₀⟩
            · have z := N₂ p hp
              refine ⟨old3 _ _ ?_ z.1, z.2⟩
              rcases List.mem_cons.mp hp with rfl | hp
              · exact hDC
              · exact (off3 p hp).2.1
        have keepSt : ∀ h₄ nw₄, News h₀ L h₄ ((I, oI) :: (H2.objs.size, oC) :: (s₂.heap.objs.size, lst ys) :: nw₄) → (∀ p ∈ keep, p ∈ nw₄) → St (i + 1) h₄ := fun h₄ nw₄ N₄ hk => W.frame _ _ _ hst₃ fun b hb o e => by
          rcases hfpk b hb with rfl | ⟨o', ho'⟩
          · rw [heI] at e; cases e
            exact (N₄ _ (.head _)).1
          · have h1 := (N₃ (b, o') (.tail _ (.tail _ (.tail _ (hJk _ _ _ hJ' _ ho'))))).1
            dsimp only at h1
            rw [e] at h1; cases h1
            exact (N₄ (b, o) (.tail _ (.tail _ (.tail _ (hk _ ho'))))).1
        refine wpAny_mono (turn i v ys news' oI H2.objs.size oC s₂.heap.objs.size m₃ h₃ tk₃ _ hlt hPv hJ' hT hoC F₃ N₃ off3 ⟨hCI, hDI, Ne.symm hDC⟩) (fun ok s₃ h₃' => ?_) fun _ _ e => e
        cases ok with
        | false =>
          obtain ⟨h₄, tk₄, news₄, rfl, F₄, N₄, off₄, J₄⟩ := h₃'
          exact ⟨n + 1 - (i + 1), Nat.sub_lt_sub_left (Nat.lt_succ_of_lt hlt) (Nat.lt_succ_self i), h₄, tk₄, i + 1, ys, _, news₄, rfl, hlt, rfl, keepSt _ _ N₄ (hJk _ _ _ J₄), F₄, hoC.ns (N₄ _ (.tail _ (.head _))).1, fun p hp => N₄ p (.tail _ (.tail _ hp)), off₄, J₄⟩
        | true =>
          refine wpAny_mono h₃' (fun y s₄ h₄ => ?_) fun _ _ e => e
          obtain ⟨h₄, tk₄, news₄, rfl, F₄, N₄, off₄, J₄⟩ := h₄
          have zC := (N₄ (H2.objs.size, oC) (List.mem_cons_of_mem _ List.mem_cons_self)).1
          have zD := (N₄ (s₂.heap.objs.size, lst ys) (List.mem_cons_of_mem _ (List.mem_cons_of_mem _ List.mem_cons_self))).1
          have N₄' : News h₀ L h₄ news₄ := fun p hp => N₄ p (List.mem_cons_of_mem _ (List.mem_cons_of_mem _ (List.mem_cons_of_mem _ hp)))
          have hst₄ : St (i + 1) h₄ := keepSt _ _ N₄ (hJk _ _ _ J₄)
          refine append_at (hsz := by show ys.toArray.size ≤ sizeLine; rw [List.size_toArray]; exact Nat.le_trans (hlen _ _ _ hJ') (Nat.le_trans hi hsz)) zD fun h₅ hs₅ hD₅ => ?_
          refine ⟨n + 1 - (i + 1), Nat.sub_lt_sub_left (Nat.lt_succ_of_lt hlt) (Nat.lt_succ_self i), h₅, tk₄, i + 1, ys ++ [y], _, news₄, rfl, hlt, rfl, W.frame _ _ _ hst₄ fun b hb o e => hs₅.extBut b o (fun q => hDf (q ▸ hb)) e, F₄.change hs₅ hDL hD₀,
            (hoC.ns zC).sameBut hs₅ (Ne.symm hDC), fun p hp => ?_, off₄, J₄⟩
          rcases List.mem_cons.mp hp with rfl | hp
          · exact ⟨hD₅.trans (congrArg some (lst_snoc ys y)), hDL, hD₀⟩
          · exact ⟨hs₅.extBut _ _ (off₄ p hp).2.2 (N₄' p hp).1, (N₄' p hp).2⟩
      · obtain rfl : i = n := Nat.le_antisymm hi (Nat.not_lt.mp hlt)
        refine W.done _ _ _ hst' fun h₂ tk₂ hk₂ => ?_
        exact hRR _ _ h₂ tk₂ _ ys news' (fr_but F' hk₂ hIL hI₀) (news_but N' hk₂ fun p hp => by
          rcases List.mem_cons.mp hp with rfl | hp
          · exact Ne.symm hDI
          · exact (off3 p hp).1) (fun p hp => (off3 p hp).2.2) (hn'.at' fun o e => hk₂ _ o (by simpa using Ne.symm hCI) e) hC₀ hCL (Ne.symm hDC) (fun p hp => (off3 p hp).2.1) hJ'
    · rcases List.mem_cons.mp hp with rfl | hp
      · exact ⟨hacc, hDL, hD₀⟩
      · exact ⟨old _ _ (N p hp).1, (N p hp).2⟩
  exact codeAny_compStart_list (loop _ rfl) (W.self 0 _ _ _ hst₁ (loop _ rfl))

theorem off1_of {D : Addr} : ∀ {l : List (Addr × Obj)}, (∀ p ∈ l, p.1 ≠ D) → Off1 D l
  | [], _ => trivial
  | _ :: _, h => ⟨h _ List.mem_cons_self, off1_of fun p hp => h p (List.mem_cons_of_mem _ hp)⟩
/-- The state in which a comprehension's own loop begins. -/
noncomputable def CompIt (prog : Program) (w : World) (A : Around) (h₀ : Heap) (L : Addr) (m : Str → Option Value) (env : Env) (elt target : Expr) (ifs : List Expr) (scope : Scope) (cl : List (Str × Addr)) (Fin : Shared → List Value → List (Addr × Obj) → Prop) (it : Value) (s₂ : Shared) : Prop :=
  ∃ Tgt J I fp n P St keep news, it = .ref I ∧ (∀ i ys nw, J i ys nw → ys.length ≤ i) ∧ CompAt prog w A h₀ L m env elt target ifs scope cl (Fin s₂) Tgt J s₂ I fp n P St keep news
theorem ListComp_G {elt iter target : Expr} {ifs : List Expr} {scope : Scope} {cl : List (Str × Addr)} {pos : Pos} {Q : Value → Shared → Prop} (F₀ : Fr h₀ L s.heap m)
    (hclos : closureFor scope env = pure cl) (hcell : ∀ y ∈ scope.names, y.2 ≠ .cell) (hkind : scope.kind = .function)
    (hnames : ∀ y ∈ scope.names, y.2 = .local → scope.names.lookup y.1 = some .local)
    (h : wpAny (model prog w) A (eval iter env) (fun xv s₁ => wpAny (model prog w) A (pyIter xv) (fun it s₂ => CompIt prog w A h₀ L m env elt target ifs scope cl (fun s₂ => FinE h₀ L m s₂ Q) it s₂) E s₁) E s)
    (hs : ∀ x, foldedSetIterable iter env x = pure x := by intro _; rfl) :
    wpAny (model prog w) A (eval (.ListComp elt [⟨target, iter, ifs, 0⟩] scope pos) env) Q E s := by
  rw [eval_ListComp]
  refine wpAny_comprehension_free (use := none) rfl hs hclos hkind hnames (wpAny_mono h (fun xv s₁ h₁ => wpAny_mono h₁ (fun it s₂ h₂ => ?_) fun _ _ e => e) fun _ _ e => e)
  refine cps fun gG kG => ?_
  obtain ⟨Tgt, J, I, fp, n, P, St, keep, news, rfl, hlen, K⟩ := h₂
  refine kG ?_
  clear kG gG
  refine block_G K hcell hkind hlen ?_
  intro D C h tk m' ys nw F' N' o1 hn hC₀ hCL hCD offC hJ
  refine ⟨m', hn, fun h'' hs'' => K.fin ys nw hJ D h'' tk (F'.change hs'' hCL hC₀) (fun p hp => ?_) (off1_of o1)⟩
  refine ⟨hs''.extBut _ _ ?_ (N' p hp).1, (N' p hp).2⟩
  rcases List.mem_cons.mp hp with rfl | hp
  · exact Ne.symm hCD
  · exact offC p hp
theorem Assign_ListComp_G {elt iter target : Expr} {ifs : List Expr} {y : Str} {py : Pos} {scope : Scope} {cl : List (Str × Addr)} {pos spos : Pos} {Q : Flow → Shared → Prop} (F₀ : Fr h₀ L s.heap m) (hLe : env.locals = L)
    (hsw : swapsWith (.ListComp elt [⟨target, iter, ifs, 0⟩] scope pos) (some (.Name y py)) spos.line env = pure true)
    (hclos : closureFor scope env = pure cl) (hcell : ∀ z ∈ scope.names, z.2 ≠ .cell) (hkind : scope.kind = .function)
    (hnames : ∀ z ∈ scope.names, z.2 = .local → scope.names.lookup z.1 = some .local)
    (hy : env.kindOf y = some .local) (hp : (env.scope.kind == .class || (env.scope.kind == .module && env.locals != env.globals)) = false)
    (h : wpAny (model prog w) A (eval iter env) (fun xv s₁ => wpAny (model prog w) A (pyIter xv) (fun it s₂ => CompIt prog w A h₀ L m env elt target ifs scope cl (fun s₂ => FinA h₀ L m s₂ y Q) it s₂) E s₁) E s)
    (hs : ∀ x, foldedSetIterable iter env x = pure x := by intro _; rfl) :
    wpAny (model prog w) A (exec (.Assign [.Name y py] (.ListComp elt [⟨target, iter, ifs, 0⟩] scope pos) spos) env) Q E s := by
  refine cps fun gG kG => ?_
  subst hLe
  refine kG ?_
  clear kG gG
  rw [exec_Assign_Name_used _ _ _ _ hsw]
  refine wpAny_bind (wpAny_standAt (wpAny_bind ?_))
  show wpAny _ A (do let _ ← comprehension (.ListComp elt [⟨target, iter, ifs, 0⟩] scope pos) scope env _ (newList []) false (eval iter env) (some (assign (.Name y py) env))) _ _ s
  refine wpAny_bind (wpAny_mono (wpAny_comprehension_free (use := some (assign (.Name y py) env)) (Q := fun _ s' => Q .next s') rfl hs hclos hkind hnames
    (wpAny_mono h (fun xv s₁ h₁ => wpAny_mono h₁ (fun it s₂ h₂ => ?_) fun _ _ e => e) fun _ _ e => e)) (fun _ s' hq => wpAny_pure (wpAny_pure hq)) fun _ _ e => e)
  refine cps fun gG kG => ?_
  obtain ⟨Tgt, J, I, fp, n, P, St, keep, news, rfl, hlen, K⟩ := h₂
  refine kG ?_
  clear kG gG
  refine block_G K hcell hkind hlen ?_
  intro D C h' tk m' ys nw F' N' o1 hn hC₀ hCL hCD offC hJ
  show wpAny _ A (assign (.Name y py) env (.ref D)) _ _ _
  refine wpAny_assign_Name (wpAny_storeName_local hy F'.ns (fun h₂ hn₂ hs₂ => ?_) hp)
  have hL₀ : h₀.get? env.locals = none := Heap.get?_none_of_le F'.above
  have F₂ : Fr h₀ env.locals h₂ (fun z => if z = y then some (.ref D) else m z) := ⟨hn₂, fun b o e => hs₂.extBut b o (fun q => by rw [q, hL₀] at e; cases e) (F'.keep b o e), F'.above⟩
  refine ⟨m', hn.sameBut hs₂ hCL, fun h'' hs'' => K.fin ys nw hJ D h'' _ (F₂.change hs'' hCL hC₀) (fun p hp => ?_) (off1_of o1)⟩
  have z : h₂.get? p.1 = some p.2 := hs₂.extBut _ _ (N' p hp).2.1 (N' p hp).1
  refine ⟨hs''.extBut _ _ ?_ z, (N' p hp).2⟩
  rcases List.mem_cons.mp hp with rfl | hp
  · exact Ne.symm hCD
  · exact offC p hp
/-- A comprehension over a list of the ledger. -/
theorem compListA {elt target : Expr} {ifs : List Expr} {scope : Scope} {cl : List (Str × Addr)} {Fin : Shared → List Value → List (Addr × Obj) → Prop} {ax : Addr} {lo : Obj} {vs : List Value} {nn : Nat} {news : List (Addr × Obj)}
    (Tgt : Nat → Value → (Str → Option Value) → Prop) (J : Nat → List Value → List (Addr × Obj) → Prop) (hh : A.handled = none) (F : Fr h₀ L s.heap m) (N : News h₀ L s.heap news) (hm : (ax, lo) ∈ news) (hc : lo.cls = .type "list") (hd : lo.data = .seq vs.toArray nn) (hsz : vs.length ≤ sizeLine)
    (h0 : J 0 [] news) (hJl : ∀ i ys nw, J i ys nw → (ax, lo) ∈ nw) (hlen : ∀ i ys nw, J i ys nw → ys.length ≤ i)
    (asg : ∀ s₂ : Shared, ∀ i v ys nw C h tk m₁ (Q' : Unit → Shared → Prop) (E' : Value → Shared → Prop), vs[i]? = some v → J i ys nw → News h₀ L h nw → h.Ns C m₁ →
      (∀ h₃ tk₃ m₃, Tgt i v m₃ → h₃.Ns C m₃ → (∀ b o, b ≠ C → h.get? b = some o → h₃.get? b = some o) → Q' () { s₂ with heap := h₃, toks := tk₃ }) →
      wpAny (model prog w) A (assign target (compEnvC scope cl C env) v) Q' E' { s₂ with heap := h, toks := tk })
    (turn : ∀ s₂ : Shared, (∃ g, s₂ = { s with heap := g }) → ∀ I i v ys nw oI C oC D m₂ h tk (E' : Value → Shared → Prop), vs[i]? = some v → J i ys nw → Tgt i v m₂ → NsObj oC m₂ → Fr h₀ L h m → News h₀ L h ((I, oI) :: (C, oC) :: (D, lst ys) :: nw) → (∀ p ∈ nw, p.1 ≠ I ∧ p.1 ≠ C ∧ p.1 ≠ D) →
      ((@Ne Nat I C) ∧ (@Ne Nat I D) ∧ (@Ne Nat C D)) →
      wpAny (model prog w) A (testsOf ifs (compEnvC scope cl C env)) (fun ok s₃ => if ok = true then wpAny (model prog w) A (eval elt (compEnvC scope cl C env)) (fun y s₄ => CompNext h₀ L m s₂ I oI C oC D ys (J (i + 1) (ys ++ [y])) s₄) E' s₃
        else CompNext h₀ L m s₂ I oI C oC D ys (J (i + 1) ys) s₃) E' { s₂ with heap := h, toks := tk })
    (fin : ∀ s₂ : Shared, (∃ g, s₂ = { s with heap := g }) → ∀ ys nw, J vs.length ys nw → Fin s₂ ys nw) :
    wpAny (model prog w) A (pyIter (.ref ax)) (fun it s₂ => CompIt prog w A h₀ L m env elt target ifs scope cl Fin it s₂) E s := by
  have hax := N _ hm
  have hl : s.heap.IsList ax vs.toArray := ⟨lo, hax.1, hc, nn, hd⟩
  have hlt : ax < s.heap.objs.size := Heap.lt_size hax.1
  have hne : ax ≠ s.heap.objs.size := Nat.ne_of_lt hlt
  refine wpAny_pyIter_list hl ?_
  refine ⟨Tgt, J, s.heap.objs.size, [s.heap.objs.size, ax], vs.toArray.size, (fun i v => vs.toArray[i]? = some v), (fun i h => h.IsListIter s.heap.objs.size ax i ∧ h.IsList ax vs.toArray), [(ax, lo)], news, rfl, hlen, ?_⟩
  refine ⟨Walks.list hh s.heap.objs.size ax hne vs.toArray, by rw [List.size_toArray]; exact hsz, fun i v s Q E st q => letGo_listiter st.1 q, fun i h st => by obtain ⟨it, hit, _⟩ := st.1; exact ⟨it, hit⟩, fun b hb => ?_, fun b hb => ?_, fun i ys nw hJ p hp => by rw [List.mem_singleton.mp hp]; exact hJl _ _ _ hJ, Nat.ne_of_lt F.ns.lt, next_is_new F, ?_, F.push _, fun p hp => ⟨Heap.get?_push_of_some _ (N p hp).1, (N p hp).2⟩, fun p hp => Nat.ne_of_lt (Heap.lt_size (N p hp).1), h0, ?_, ?_, ?_⟩
  · have hb' : b = s.heap.objs.size ∨ b = ax := by simpa using hb
    rcases hb' with e | e
    · exact .inl e
    · exact .inr ⟨lo, by simp [e]⟩
  · have hb' : b = s.heap.objs.size ∨ b = ax := by simpa using hb
    show b < (s.heap.push _).objs.size
    rw [Heap.size_push]
    rcases hb' with e | e
    · rw [e]; exact Nat.lt_succ_self _
    · rw [e]; exact Nat.lt_succ_of_lt hlt
  · exact ⟨⟨_, Heap.get?_push_size _ rfl, rfl, rfl⟩, hl.at fun o e => Heap.get?_push_of_some _ e⟩
  · intro i v ys nw C h tk m₁ Q' E' _ hP hJ N' hn k
    exact asg _ i v ys nw C h tk m₁ Q' E' (by simpa using hP) hJ N' hn k
  · intro i v ys nw oI C oC D m₂ h tk E' _ hP hJ hT hoC F' N' off ne
    exact turn _ ⟨_, rfl⟩ _ i v ys nw oI C oC D m₂ h tk E' (by simpa using hP) hJ hT hoC F' N' off ne
  · intro ys nw hJ
    exact fin _ ⟨_, rfl⟩ ys nw (by simpa using hJ)
theorem asg_name {cenv : Env} {x : Str} {px : Pos} {v : Value} {C : Addr} {h : Heap} {tk : Nat} {m₁ : Str → Option Value} {Q' : Unit → Shared → Prop} {E' : Value → Shared → Prop} (hC : cenv.locals = C) (hx : cenv.kindOf x = some .local) (hp : (cenv.scope.kind == .class || (cenv.scope.kind == .module && cenv.locals != cenv.globals)) = false)
    (hn : h.Ns C m₁) (k : ∀ h₃ tk₃, h₃.Ns C (fun z => if z = x then some v else m₁ z) → (∀ b o, b ≠ C → h.get? b = some o → h₃.get? b = some o) → Q' () { s with heap := h₃, toks := tk₃ }) :
    wpAny (model prog w) A (assign (.Name x px) cenv v) Q' E' { s with heap := h, toks := tk } := by
  refine cps fun gG kG => ?_
  subst hC
  refine kG ?_
  clear kG gG
  exact wpAny_assign_Name (wpAny_storeName_local hx hn (fun h₃ hn₃ hs₃ => k h₃ _ hn₃ fun b o hb e => hs₃.extBut b o hb e) hp)
theorem asg_tup2 {cenv : Env} {x y : Str} {px py tp : Pos} {tk0} {t C : Addr} {o : Obj} {a b : Value} {nt : Nat} {h : Heap} {tk : Nat} {m₁ : Str → Option Value} {Q' : Unit → Shared → Prop} {E' : Value → Shared → Prop} (hh : A.handled = none) (hC : cenv.locals = C) (hx : cenv.kindOf x = some .local) (hy : cenv.kindOf y = some .local) (hp : (cenv.scope.kind == .class || (cenv.scope.kind == .module && cenv.locals != cenv.globals)) = false)
    (ht : h.get? t = some o) (hc : o.cls = .type "tuple") (hd : o.data = .seq #[a, b] nt)
    (hn : h.Ns C m₁) (k : ∀ h₃ tk₃, h₃.Ns C (fun z => if z = y then some b else if z = x then some a else m₁ z) → (∀ b o, b ≠ C → h.get? b = some o → h₃.get? b = some o) → Q' () { s with heap := h₃, toks := tk₃ }) :
    wpAny (model prog w) A (assign (.Tuple [.Name x px, .Name y py] tk0 tp) cenv (.ref t)) Q' E' { s with heap := h, toks := tk } := by
  refine cps fun gG kG => ?_
  subst hC
  refine kG ?_
  clear kG gG
  refine assign_Tuple_tuple (items := #[a, b]) hh ⟨o, ht, hc, nt, hd⟩ rfl rfl fun h₅ he => ?_
  have he' : ∀ b o, h.get? b = some o → h₅.get? b = some o := fun b o e => he b o (Nat.ne_of_lt (Heap.lt_size e)) e
  refine assignInOrder_cons (wpAny_assign_Name (wpAny_storeName_local hx (hn.at' fun o e => he' _ o e) (fun h₆ hn₆ hs₆ => ?_) hp))
  refine assignInOrder_cons (wpAny_assign_Name (wpAny_storeName_local hy hn₆ (fun h₃ hn₃ hs₃ => ?_) hp))
  refine assignInOrder_nil ?_
  exact k h₃ _ hn₃ fun b o hb e => hs₃.extBut b o hb (hs₆.extBut b o hb (he' b o e))
theorem asg_tup3 {cenv : Env} {x y z : Str} {px py pz tp : Pos} {tk0} {t C : Addr} {o : Obj} {a b c : Value} {nt : Nat} {h : Heap} {tk : Nat} {m₁ : Str → Option Value} {Q' : Unit → Shared → Prop} {E' : Value → Shared → Prop} (hh : A.handled = none) (hC : cenv.locals = C) (hx : cenv.kindOf x = some .local) (hy : cenv.kindOf y = some .local) (hz : cenv.kindOf z = some .local) (hp : (cenv.scope.kind == .class || (cenv.scope.kind == .module && cenv.locals != cenv.globals)) = false)
    (ht : h.get? t = some o) (hc : o.cls = .type "tuple") (hd : o.data = .seq #[a, b, c] nt)
    (hn : h.Ns C m₁) (k : ∀ h₃ tk₃, h₃.Ns C (fun q => if q = z then some c else if q = y then some b else if q = x then some a else m₁ q) → (∀ b o, b ≠ C → h.get? b = some o → h₃.get? b = some o) → Q' () { s with heap := h₃, toks := tk₃ }) :
    wpAny (model prog w) A (assign (.Tuple [.Name x px, .Name y py, .Name z pz] tk0 tp) cenv (.ref t)) Q' E' { s with heap := h, toks := tk } := by
  refine cps fun gG kG => ?_
  subst hC
  refine kG ?_
  clear kG gG
  refine assign_Tuple_tuple (items := #[a, b, c]) hh ⟨o, ht, hc, nt, hd⟩ rfl rfl fun h₅ he => ?_
  have he' : ∀ b o, h.get? b = some o → h₅.get? b = some o := fun b o e => he b o (Nat.ne_of_lt (Heap.lt_size e)) e
  refine assignInOrder_cons (wpAny_assign_Name (wpAny_storeName_local hx (hn.at' fun o e => he' _ o e) (fun h₆ hn₆ hs₆ => ?_) hp))
  refine assignInOrder_cons (wpAny_assign_Name (wpAny_storeName_local hy hn₆ (fun h₇ hn₇ hs₇ => ?_) hp))
  refine assignInOrder_cons (wpAny_assign_Name (wpAny_storeName_local hz hn₇ (fun h₃ hn₃ hs₃ => ?_) hp))
  refine assignInOrder_nil ?_
  exact k h₃ _ hn₃ fun b o hb e => hs₃.extBut b o hb (hs₇.extBut b o hb (hs₆.extBut b o hb (he' b o e)))
end
end
section
open PySem PySem.W PyProof.Rows PyProof.V PySem.Calls PySem.Spec LCg
theorem entry_unchain : entryFor table "proto.unchain" = some Builtin.«proto.unchain» := entryFor_of_fast (by kernel_rfl)
theorem plain_unchain : plainId "proto.unchain" = true := by decide +kernel
section
variable {prog : Program} {w : World} {A : Around} {E : Value → Shared → Prop} {s : Shared}
/-- A new StopIteration is raised while another exception, of which the context is None, is handled. -/
theorem stopH {α : Type} {Q : α → Shared → Prop} {e : Addr} {oe : Obj} {ve : Array Value} (hh : A.handled = some (.ref e)) (he : s.heap.get? e = some oe) (hd : oe.data = .fields ve) (h2 : ve[2]? = some .none)
    (h : ∀ x h', (∃ o, h'.get? x = some o ∧ o.cls = .type "StopIteration") → (∀ b o, s.heap.get? b = some o → h'.get? b = some o) → E (.ref x) { s with heap := h' }) :
    wpAny (model prog w) A (newExc (.type "StopIteration") [] >>= fun x => (raiseNew x : Sem α)) Q E s := by
  refine wpAny_bind ?_
  simp only [newExc, newTuple]
  refine wpAny_bind (wpAny_newObj_type ?_ (by size_fits))
  refine wpAny_bind (m := firstArgMember _ _) (wpAny_of_eq (a := Value.none) (by first | rfl | (simp only [firstArgMember]; rfl)) ?_)
  refine wpAny_newObj_type ?_ (by size_fits)
  generalize hh1 : s.heap.push _ = h1
  generalize hon : ({ cls := .type "StopIteration", data := .fields _ } : Obj) = on
  have hod : ∃ vs : Array Value, on.data = .fields vs ∧ 2 < vs.size := by subst hon; exact ⟨_, rfl, by simp [ownMembersOf]⟩
  have hfr : on.isFreed = false := by subst hon; rfl
  have hcl : on.cls = .type "StopIteration" := by subst hon; rfl
  refine cps fun gG kG => ?_
  obtain ⟨vs, hod, hsz⟩ := hod
  refine kG ?_
  clear kG gG
  have k1 : ∀ b o, s.heap.get? b = some o → h1.get? b = some o := fun b o q => hh1 ▸ Heap.get?_push_of_some _ q
  have hn : (h1.push on).get? h1.objs.size = some on := Heap.get?_push_size _ hfr
  have he2 : (h1.push on).get? e = some oe := Heap.get?_push_of_some _ (k1 _ _ he)
  have hne : e ≠ h1.objs.size := Nat.ne_of_lt (Heap.lt_size (k1 _ _ he))
  simp only [raiseNew]
  refine wpAny_bind (wpAny_handled ?_)
  rw [hh]
  dsimp only
  rw [if_pos (by simpa using hne)]
  refine wpAny_bind (wpAny_holding (wpAny_runValue (codeAny_builtin entry_unchain ?_)))
  unfold Builtin.«proto.unchain»
  dsimp only
  refine wpAny_bind (wpAny_field he2 hd h2 ?_)
  rw [if_pos (by decide)]
  refine wpAny_pure ?_
  dsimp only
  have hdn := Obj.data_mapFields hod (·.setIfInBounds 2 (Value.ref e))
  have hn2 := Heap.get?_update_self (Obj.mapFields (·.setIfInBounds 2 (Value.ref e))) hn (Obj.isFreed_of_fields hdn)
  show wpAny _ _ (setField (.ref h1.objs.size) 2 (.ref e) >>= _) _ _ _
  refine wpAny_bind (wpAny_setField hn hod hsz (wpAny_throw (h _ _ ⟨_, hn2, (Obj.cls_mapFields _ _).trans hcl⟩ fun b o q => ?_)))
  have q1 := k1 b o q
  exact (Heap.get?_update_other _ _ (Nat.ne_of_gt (Heap.lt_size q1))).trans (Heap.get?_push_of_some _ q1)
theorem list_endH {it l e : Addr} {i : Nat} {items : Array Value} {oe : Obj} {ve : Array Value} {Q : Option Value → Shared → Prop} (hh : A.handled = some (.ref e)) (he : s.heap.get? e = some oe) (hde : oe.data = .fields ve) (h2 : ve[2]? = some .none) (hne : e ≠ it)
    (hit : s.heap.IsListIter it l i) (hl : s.heap.IsList l items) (hx : items[i]? = none)
    (hQ : ∀ h', Heap.ExtBut it s.heap h' → Q none { s with heap := h' }) : wpAny (model prog w) A (pyNext (.ref it)) Q E s := by
  refine cps fun gG kG => ?_
  obtain ⟨o, ho, hc, hd⟩ := id hit
  obtain ⟨ol, hol, _, nl, hdl⟩ := hl
  refine kG ?_
  clear kG gG
  unfold pyNext
  refine wpAny_bind (wpAny_attempt (wpAny_callSpecial?_slot (name := Str.ofString "__next__") hit.typeIs slot_listiter_next
    (wpAny_call_entry slot_listiter_next hit.typeIs entry_listiter_next ?_ (args_listiter_next _))))
  show wpAny _ _ (field (.ref it) 0 >>= _) _ _ s
  refine wpAny_bind (wpAny_field ho hd (x := .ref l) rfl ?_)
  show wpAny _ _ (if (Value.ref l == Value.none) = true then _ else _) _ _ s
  rw [if_neg (show ¬ ((Value.ref l == Value.none) = true) from Bool.false_ne_true)]
  show wpAny _ _ (field (.ref it) 1 >>= _) _ _ s
  refine wpAny_bind (wpAny_field ho hd (x := .int i 0) rfl (wpAny_bind (wpAny_seqItems hol hdl ?_)))
  simp only [Int.toNat_natCast, hx]
  refine wpAny_bind (wpAny_rule (wpAny_bind (wpAny_setField ho hd (by simp) ?_)))
  show wpAny _ _ (newExc (.type "StopIteration") [] >>= fun x => raiseNew x) _ _ _
  refine stopH hh ((Heap.get?_update_other _ _ (Ne.symm hne)).trans he) hde h2 fun x h' hx' hk => ?_
  exact wpAny_bind (wpAny_isInstance (T := "StopIteration") (b := true) hx' isSubtype_stop (wpAny_pure (hQ _ fun b o hb q => hk b o ((Heap.get?_update_other _ _ (Ne.symm hb)).trans q))))
theorem tuple_endH {it l e : Addr} {i : Nat} {items : Array Value} {oe : Obj} {ve : Array Value} {Q : Option Value → Shared → Prop} (hh : A.handled = some (.ref e)) (he : s.heap.get? e = some oe) (hde : oe.data = .fields ve) (h2 : ve[2]? = some .none) (hne : e ≠ it)
    (hit : s.heap.IsTupleIter it l i) (hl : s.heap.IsTuple l items) (hx : items[i]? = none)
    (hQ : ∀ h', Heap.ExtBut it s.heap h' → Q none { s with heap := h' }) : wpAny (model prog w) A (pyNext (.ref it)) Q E s := by
  refine cps fun gG kG => ?_
  obtain ⟨o, ho, hc, hd⟩ := id hit
  obtain ⟨ol, hol, _, nl, hdl⟩ := hl
  refine kG ?_
  clear kG gG
  unfold pyNext
  refine wpAny_bind (wpAny_attempt (wpAny_callSpecial?_slot (name := Str.ofString "__next__") hit.typeIs F.slot_tuple_iterator_next
    (wpAny_call_entry F.slot_tuple_iterator_next hit.typeIs F.entry_tuple_iterator_next ?_ (F.args_tuple_iterator_next_1 _))))
  show wpAny _ _ (field (.ref it) 0 >>= _) _ _ s
  refine wpAny_bind (wpAny_field ho hd (x := .ref l) rfl ?_)
  show wpAny _ _ (if (Value.ref l == Value.none) = true then _ else _) _ _ s
  rw [if_neg (show ¬ ((Value.ref l == Value.none) = true) from Bool.false_ne_true)]
  show wpAny _ _ (field (.ref it) 1 >>= _) _ _ s
  refine wpAny_bind (wpAny_field ho hd (x := .int i 0) rfl (wpAny_bind (wpAny_seqItems hol hdl ?_)))
  simp only [Int.toNat_natCast, hx]
  refine wpAny_bind (wpAny_rule (wpAny_bind (wpAny_setField ho hd (by simp) ?_)))
  show wpAny _ _ (newExc (.type "StopIteration") [] >>= fun x => raiseNew x) _ _ _
  refine stopH hh ((Heap.get?_update_other _ _ (Ne.symm hne)).trans he) hde h2 fun x h' hx' hk => ?_
  exact wpAny_bind (wpAny_isInstance (T := "StopIteration") (b := true) hx' isSubtype_stop (wpAny_pure (hQ _ fun b o hb q => hk b o ((Heap.get?_update_other _ _ (Ne.symm hb)).trans q))))
theorem unpackH {t e : Addr} {items : Array Value} {oe : Obj} {ve : Array Value} {Q : List Value → Shared → Prop} (hh : A.handled = some (.ref e)) (he : s.heap.get? e = some oe) (hde : oe.data = .fields ve) (h2 : ve[2]? = some .none) (ht : s.heap.IsTuple t items)
    (hQ : ∀ h', Heap.ExtBut s.heap.objs.size s.heap h' → Q items.toList { s with heap := h' }) : wpAny (model prog w) A (unpackItems (.ref t) items.size none) Q E s := by
  have hlt : t ≠ s.heap.objs.size := by obtain ⟨o, ho, _⟩ := ht; exact Nat.ne_of_lt (Heap.lt_size ho)
  have hel : e ≠ s.heap.objs.size := Nat.ne_of_lt (Heap.lt_size he)
  unfold unpackItems notIterableAtAll
  refine wpAny_bind (wpAny_bind (wpAny_specialOf ht.typeIs F.slot_tuple_iter.lookup (wpAny_pure ?_)))
  simp only [Bool.false_eq_true, if_false]
  refine wpAny_bind (wpAny_holding (wpAny_pyIter_tuple ht ?_))
  refine wpAny_bind (wpAny_holding (wpAny_draw_tuple hlt items.size 0 _ _ ⟨_, Heap.get?_push_size _ rfl, rfl, rfl⟩ (ht.push _) (by omega) fun h₁ hit₁ hs₁ => ?_))
  rw [show List.take items.size (List.drop 0 items.toList) = items.toList by rw [List.drop_zero]; exact List.take_of_length_le (by simp), if_neg (by simp)]
  refine wpAny_bind (wpAny_holding (tuple_endH hh (hs₁.extBut e oe hel (Heap.get?_push_of_some _ he)) hde h2 hel hit₁ ((ht.push _).extBut hs₁.extBut hlt) (by simp) fun h₂ he₂ => ?_))
  simp only [Option.isSome_none, Bool.false_eq_true, if_false]
  exact wpAny_pure (hQ h₂ fun b o hb q => he₂ b o hb (hs₁.extBut b o hb (Heap.get?_push_of_some _ q)))
theorem asg_tup2H {cenv : Env} {x y : Str} {px py tp : Pos} {tk0} {t C e : Addr} {o oe : Obj} {ve : Array Value} {a b : Value} {nt : Nat} {h : Heap} {tk : Nat} {m₁ : Str → Option Value} {Q' : Unit → Shared → Prop} {E' : Value → Shared → Prop} (hh : A.handled = some (.ref e)) (he : h.get? e = some oe) (hde : oe.data = .fields ve) (h2 : ve[2]? = some .none)
    (hC : cenv.locals = C) (hx : cenv.kindOf x = some .local) (hy : cenv.kindOf y = some .local) (hp : (cenv.scope.kind == .class || (cenv.scope.kind == .module && cenv.locals != cenv.globals)) = false)
    (ht : h.get? t = some o) (hc : o.cls = .type "tuple") (hd : o.data = .seq #[a, b] nt)
    (hn : h.Ns C m₁) (k : ∀ h₃ tk₃, h₃.Ns C (fun z => if z = y then some b else if z = x then some a else m₁ z) → (∀ b o, b ≠ C → h.get? b = some o → h₃.get? b = some o) → Q' () { s with heap := h₃, toks := tk₃ }) :
    wpAny (model prog w) A (assign (.Tuple [.Name x px, .Name y py] tk0 tp) cenv (.ref t)) Q' E' { s with heap := h, toks := tk } := by
  refine cps fun gG kG => ?_
  subst hC
  refine kG ?_
  clear kG gG
  rw [arm_assign_Tuple]
  refine wpAny_bind (wpAny_standAt ?_)
  unfold unpack
  rw [show (assignEach [Expr.Name x px, Expr.Name y py] cenv).length = (#[a, b] : Array Value).size from rfl, show (assignEach [Expr.Name x px, Expr.Name y py] cenv).findIdx? (·.1) = none from rfl]
  refine wpAny_bind (wpAny_holding (unpackH hh he hde h2 ⟨o, ht, hc, nt, hd⟩ fun h5 hk => ?_))
  have he' : ∀ b o, h.get? b = some o → h5.get? b = some o := fun b o q => hk b o (Nat.ne_of_lt (Heap.lt_size q)) q
  refine assignInOrder_cons (wpAny_assign_Name (wpAny_storeName_local hx (hn.at' fun o q => he' _ o q) (fun h6 hn6 hs6 => ?_) hp))
  refine assignInOrder_cons (wpAny_assign_Name (wpAny_storeName_local hy hn6 (fun h7 hn7 hs7 => ?_) hp))
  exact assignInOrder_nil (k h7 _ hn7 fun b o hb q => hs7.extBut b o hb (hs6.extBut b o hb (he' b o q)))
theorem walksH {I ax e : Addr} {oe : Obj} {ve : Array Value} (hh : A.handled = some (.ref e)) (hde : oe.data = .fields ve) (h2 : ve[2]? = some .none) (hne : ax ≠ I) (hei : e ≠ I) (items : Array Value) :
    Walks prog w A I [I, ax, e] [I] items.size (fun i v => items[i]? = some v) (fun i h => h.IsListIter I ax i ∧ h.IsList ax items ∧ h.get? e = some oe) where
  sub := fun b hb => by simp at hb; simp [hb]
  frame := fun _ _ _ st hk => ⟨st.1.at fun o q => hk I (by simp) o q, st.2.1.at fun o q => hk ax (by simp) o q, hk e (by simp) oe st.2.2⟩
  item := fun i s Q E hi st hQ => by
    refine wpAny_pyNext_list_item st.1 st.2.1 (x := items[i]) (by simp [hi]) fun h' hit' hs' => ?_
    exact hQ _ h' s.toks (by simp [hi]) ⟨hit', st.2.1.extBut hs'.extBut hne, hs'.extBut e oe hei st.2.2⟩ fun b o hb q => hs'.extBut b o (fun h => hb (by simp [h])) q
  done := fun s Q E st hQ => list_endH hh st.2.2 hde h2 hei st.1 st.2.1 (by simp) fun h' he' => hQ h' s.toks fun b o hb q => he' b o (fun h => hb (by simp [h])) q
  self := fun _ _ _ _ st hQ => wpAny_pyIter_listiter st.1 hQ
end
section
variable {prog : Program} {w : World} {A : Around} {E : Value → Shared → Prop} {s : Shared} {h₀ : Heap} {L : Addr} {m : Str → Option Value} {env : Env}
/-- compListA while an exception of the ledger is handled. -/
theorem compListH {elt target : Expr} {ifs : List Expr} {scope : Scope} {cl : List (Str × Addr)} {Fin : Shared → List Value → List (Addr × Obj) → Prop} {ax e : Addr} {lo oe : Obj} {ve : Array Value} {vs : List Value} {nn : Nat} {news : List (Addr × Obj)}
    (Tgt : Nat → Value → (Str → Option Value) → Prop) (J : Nat → List Value → List (Addr × Obj) → Prop) (hh : A.handled = some (.ref e)) (hme : (e, oe) ∈ news) (hde : oe.data = .fields ve) (h2 : ve[2]? = some .none) (F : Fr h₀ L s.heap m) (N : News h₀ L s.heap news) (hm : (ax, lo) ∈ news) (hc : lo.cls = .type "list") (hd : lo.data = .seq vs.toArray nn) (hsz : vs.length ≤ sizeLine)
    (h0 : J 0 [] news) (hJl : ∀ i ys nw, J i ys nw → (ax, lo) ∈ nw ∧ (e, oe) ∈ nw) (hlen : ∀ i ys nw, J i ys nw → ys.length ≤ i)
    (asg : ∀ s₂ : Shared, ∀ i v ys nw C h tk m₁ (Q' : Unit → Shared → Prop) (E' : Value → Shared → Prop), vs[i]? = some v → J i ys nw → News h₀ L h nw → h.Ns C m₁ →
      (∀ h₃ tk₃ m₃, Tgt i v m₃ → h₃.Ns C m₃ → (∀ b o, b ≠ C → h.get? b = some o → h₃.get? b = some o) → Q' () { s₂ with heap := h₃, toks := tk₃ }) →
      wpAny (model prog w) A (assign target (compEnvC scope cl C env) v) Q' E' { s₂ with heap := h, toks := tk })
    (turn : ∀ s₂ : Shared, (∃ g, s₂ = { s with heap := g }) → ∀ I i v ys nw oI C oC D m₂ h tk (E' : Value → Shared → Prop), vs[i]? = some v → J i ys nw → Tgt i v m₂ → NsObj oC m₂ → Fr h₀ L h m → News h₀ L h ((I, oI) :: (C, oC) :: (D, lst ys) :: nw) → (∀ p ∈ nw, p.1 ≠ I ∧ p.1 ≠ C ∧ p.1 ≠ D) →
      ((@Ne Nat I C) ∧ (@Ne Nat I D) ∧ (@Ne Nat C D)) →
      wpAny (model prog w) A (testsOf ifs (compEnvC scope cl C env)) (fun ok s₃ => if ok = true then wpAny (model prog w) A (eval elt (compEnvC scope cl C env)) (fun y s₄ => CompNext h₀ L m s₂ I oI C oC D ys (J (i + 1) (ys ++ [y])) s₄) E' s₃
        else CompNext h₀ L m s₂ I oI C oC D ys (J (i + 1) ys) s₃) E' { s₂ with heap := h, toks := tk })
    (fin : ∀ s₂ : Shared, (∃ g, s₂ = { s with heap := g }) → ∀ ys nw, J vs.length ys nw → Fin s₂ ys nw) :
    wpAny (model prog w) A (pyIter (.ref ax)) (fun it s₂ => CompIt prog w A h₀ L m env elt target ifs scope cl Fin it s₂) E s := by
  have hax := N _ hm
  have hex := N _ hme
  have hl : s.heap.IsList ax vs.toArray := ⟨lo, hax.1, hc, nn, hd⟩
  have hlt : ax < s.heap.objs.size := Heap.lt_size hax.1
  have hlte : e < s.heap.objs.size := Heap.lt_size hex.1
  refine wpAny_pyIter_list hl ?_
  refine ⟨Tgt, J, s.heap.objs.size, [s.heap.objs.size, ax, e], vs.toArray.size, (fun i v => vs.toArray[i]? = some v), (fun i h => h.IsListIter s.heap.objs.size ax i ∧ h.IsList ax vs.toArray ∧ h.get? e = some oe), [(ax, lo), (e, oe)], news, rfl, hlen, ?_⟩
  refine ⟨walksH hh hde h2 (Nat.ne_of_lt hlt) (Nat.ne_of_lt hlte) vs.toArray, by rw [List.size_toArray]; exact hsz, fun i v s Q E st q => letGo_listiter st.1 q, fun i h st => by obtain ⟨it, hit, _⟩ := st.1; exact ⟨it, hit⟩, fun b hb => ?_, fun b hb => ?_, fun i ys nw hJ p hp => ?_, Nat.ne_of_lt F.ns.lt, next_is_new F, ?_, F.push _, fun p hp => ⟨Heap.get?_push_of_some _ (N p hp).1, (N p hp).2⟩, fun p hp => Nat.ne_of_lt (Heap.lt_size (N p hp).1), h0, ?_, ?_, ?_⟩
  · have hb' : b = s.heap.objs.size ∨ b = ax ∨ b = e := by simpa using hb
    rcases hb' with q | q | q
    · exact .inl q
    · exact .inr ⟨lo, by simp [q]⟩
    · exact .inr ⟨oe, by simp [q]⟩
  · have hb' : b = s.heap.objs.size ∨ b = ax ∨ b = e := by simpa using hb
    show b < (s.heap.push _).objs.size
    rw [Heap.size_push]
    rcases hb' with q | q | q
    · rw [q]; exact Nat.lt_succ_self _
    · rw [q]; exact Nat.lt_succ_of_lt hlt
    · rw [q]; exact Nat.lt_succ_of_lt hlte
  · rcases List.mem_cons.mp hp with q | q
    · rw [q]; exact (hJl _ _ _ hJ).1
    · rw [List.mem_singleton.mp q]; exact (hJl _ _ _ hJ).2
  · exact ⟨⟨_, Heap.get?_push_size _ rfl, rfl, rfl⟩, hl.at fun o q => Heap.get?_push_of_some _ q, Heap.get?_push_of_some _ hex.1⟩
  · intro i v ys nw C h tk m₁ Q' E' _ hP hJ N' hn k
    exact asg _ i v ys nw C h tk m₁ Q' E' (by simpa using hP) hJ N' hn k
  · intro i v ys nw oI C oC D m₂ h tk E' _ hP hJ hT hoC F' N' off ne
    exact turn _ ⟨_, rfl⟩ _ i v ys nw oI C oC D m₂ h tk E' (by simpa using hP) hJ hT hoC F' N' off ne
  · intro ys nw hJ
    exact fin _ ⟨_, rfl⟩ ys nw (by simpa using hJ)
end
end
section
noncomputable def lrM (vo vg va : Value) (m₂ : Str → Option Value) : Str → Option Value :=
  fun z => if z = Str.ofString "octets" then some vo else if z = Str.ofString "gained" then some vg else if z = Str.ofString "at" then some va else m₂ z
theorem lrM_cut {vo vg va : Value} {m : Str → Option Value} (h1 : m (Str.ofString "octets") = some vo) (h2 : m (Str.ofString "gained") = some vg) (h3 : m (Str.ofString "at") = some va) : lrM vo vg va m = m := by
  funext z
  simp only [lrM]
  split
  · rename_i e; rw [e, h1]
  split
  · rename_i e; rw [e, h2]
  split
  · rename_i e; rw [e, h3]
  · rfl
noncomputable def lpM (vo vg va ve vp vr : Value) (m₂ : Str → Option Value) : Str → Option Value :=
  fun z => if z = Str.ofString "octets" then some vo else if z = Str.ofString "gained" then some vg else if z = Str.ofString "at" then some va else if z = Str.ofString "end" then some ve else if z = Str.ofString "place" then some vp else if z = Str.ofString "pair" then some vr else m₂ z
theorem lpM_cut {vo vg va ve vp vr : Value} {m : Str → Option Value} (h1 : m (Str.ofString "octets") = some vo) (h2 : m (Str.ofString "gained") = some vg) (h3 : m (Str.ofString "at") = some va) (h4 : m (Str.ofString "end") = some ve) (h5 : m (Str.ofString "place") = some vp) (h6 : m (Str.ofString "pair") = some vr) : lpM vo vg va ve vp vr m = m := by
  funext z
  simp only [lpM]
  split
  · rename_i e; rw [e, h1]
  split
  · rename_i e; rw [e, h2]
  split
  · rename_i e; rw [e, h3]
  split
  · rename_i e; rw [e, h4]
  split
  · rename_i e; rw [e, h5]
  split
  · rename_i e; rw [e, h6]
  · rfl
structure LrJ (ns : List Int) (news : List (Addr × Obj)) (fd : Addr) (vo : Value) (n : Nat) (m' : Str → Option Value) (nx : List (Addr × Obj)) (k : Nat) (vs : List Value) (nn : Nat) (rows : List Row) (nw : List (Addr × Obj)) : Prop where
  led : nx = (fd, listOf vs.toArray nn) :: (nw ++ news)
  kle : k ≤ ns.length
  all : readAll ns 0 = (readAll ns k).map (rows ++ ·)
  dat : DatAll nw vs (rows.map rowDat)
  apart : ∀ p ∈ nw, ∀ q ∈ news, p.1 ≠ q.1
  off : ∀ p ∈ nw ++ news, p.1 ≠ fd
  meas : n = ns.length - k
  few : vs.length ≤ k
  loc : ∃ t, lrM vo (.ref fd) (.int k t) m' = m'
structure LpJ (ns : List Int) (news : List (Addr × Obj)) (fd : Addr) (vo : Value) (k : Nat) (ta : Tok) (e : Nat) (te : Tok) (u : Int) (rows₀ : List Row) (n : Nat) (m' : Str → Option Value) (nx : List (Addr × Obj))
    (q : Nat) (pl : Addr) (b z : Int) (t1 t2 : Tok) (np : Nat) (vs : List Value) (nn : Nat) (rows : List Row) (nw : List (Addr × Obj)) : Prop where
  led : nx = (pl, listOf #[.int b t1, .int z t2] np) :: (fd, listOf vs.toArray nn) :: (nw ++ news)
  rel : (b = 0 ∧ z = 0 ∧ readRows ns e u (k + 16) = if q = e then some rows else none) ∨ (¬ (b = 0 ∧ z = 0) ∧ readRows ns e u (k + 16) = (readRows ns e u q).map (rows ++ ·))
  dat : DatAll nw vs ((rows₀ ++ rows).map rowDat)
  apart : ∀ p ∈ nw, ∀ q ∈ news, p.1 ≠ q.1
  off : ∀ p ∈ nw ++ news, p.1 ≠ fd
  offp : ∀ p ∈ nw ++ news, p.1 ≠ pl
  ne : pl ≠ fd
  meas : n = e - q
  few : vs.length + 16 ≤ q
  qle : q ≤ ns.length
  qlo : k + 16 ≤ q
  loc : ∃ tp, lpM vo (.ref fd) (.int k ta) (.int e te) (.int q tp) (.ref pl) m' = m'
noncomputable def LrE (ns : List Int) (news : List (Addr × Obj)) (vo : Value) (n : Nat) (m' : Str → Option Value) (nx : List (Addr × Obj)) : Prop := ∃ fd k vs nn rows nw, LrJ ns news fd vo n m' nx k vs nn rows nw
theorem LrE.mk {ns : List Int} {news : List (Addr × Obj)} {fd : Addr} {vo : Value} {n : Nat} {m' : Str → Option Value} {nx : List (Addr × Obj)} {k : Nat} {vs : List Value} {nn : Nat} {rows : List Row} {nw : List (Addr × Obj)} (J : LrJ ns news fd vo n m' nx k vs nn rows nw) : LrE ns news vo n m' nx := ⟨_, _, _, _, _, _, J⟩
theorem LrE.out {ns : List Int} {news : List (Addr × Obj)} {vo : Value} {n : Nat} {m' : Str → Option Value} {nx : List (Addr × Obj)} {G : Prop} (h : LrE ns news vo n m' nx) (k : ∀ fd k vs nn rows nw, LrJ ns news fd vo n m' nx k vs nn rows nw → G) : G := by
  obtain ⟨fd, i, vs, nn, rows, nw, J⟩ := h
  exact k _ _ _ _ _ _ J
noncomputable def LpE (ns : List Int) (news : List (Addr × Obj)) (fd : Addr) (vo : Value) (k : Nat) (ta : Tok) (e : Nat) (te : Tok) (u : Int) (rows₀ : List Row) (n : Nat) (m' : Str → Option Value) (nx : List (Addr × Obj)) : Prop :=
  ∃ q pl b z t1 t2 np vs nn rows nw, LpJ ns news fd vo k ta e te u rows₀ n m' nx q pl b z t1 t2 np vs nn rows nw
theorem LpE.mk {ns : List Int} {news : List (Addr × Obj)} {fd : Addr} {vo : Value} {k : Nat} {ta : Tok} {e : Nat} {te : Tok} {u : Int} {rows₀ : List Row} {n : Nat} {m' : Str → Option Value} {nx : List (Addr × Obj)} {q : Nat} {pl : Addr} {b z : Int} {t1 t2 : Tok} {np : Nat} {vs : List Value} {nn : Nat} {rows : List Row} {nw : List (Addr × Obj)}
    (J : LpJ ns news fd vo k ta e te u rows₀ n m' nx q pl b z t1 t2 np vs nn rows nw) : LpE ns news fd vo k ta e te u rows₀ n m' nx := ⟨_, _, _, _, _, _, _, _, _, _, _, J⟩
theorem LpE.out {ns : List Int} {news : List (Addr × Obj)} {fd : Addr} {vo : Value} {k : Nat} {ta : Tok} {e : Nat} {te : Tok} {u : Int} {rows₀ : List Row} {n : Nat} {m' : Str → Option Value} {nx : List (Addr × Obj)} {G : Prop} (h : LpE ns news fd vo k ta e te u rows₀ n m' nx)
    (kk : ∀ q pl b z t1 t2 np vs nn rows nw, LpJ ns news fd vo k ta e te u rows₀ n m' nx q pl b z t1 t2 np vs nn rows nw → G) : G := by
  obtain ⟨q, pl, b, z, t1, t2, np, vs, nn, rows, nw, J⟩ := h
  exact kk _ _ _ _ _ _ _ _ _ _ _ J
theorem led_lp {α : Type} {a b c d f : α} {tl : List α} : ∀ p ∈ a :: f :: tl, p ∈ a :: b :: c :: d :: f :: tl :=
  SegT.sub (segs := [[a], [f], tl, [b], [c], [d]]) (.a (.l 0) (.a (.l 1) (.l 2))) (.a (.l 0) (.a (.l 3) (.a (.l 4) (.a (.l 5) (.a (.l 1) (.l 2)))))) rfl
theorem led_drop2 {α : Type} {a b f : α} {nw news : List α} : ∀ p ∈ f :: (nw ++ news), p ∈ a :: b :: f :: (nw ++ news) := fun p hp => .tail _ (.tail _ hp)
theorem led_last {α : Type} {a b c d f : α} {tl : List α} : ∀ p ∈ b :: f :: tl, p ∈ a :: b :: c :: d :: f :: tl :=
  SegT.sub (segs := [[b], [f], tl, [a], [c], [d]]) (.a (.l 0) (.a (.l 1) (.l 2))) (.a (.l 3) (.a (.l 0) (.a (.l 4) (.a (.l 5) (.a (.l 1) (.l 2)))))) rfl
theorem led_more {α : Type} {a b c d f D : α} {nw news : List α} : ∀ p ∈ b :: f :: ((D :: nw) ++ news), p ∈ D :: a :: b :: c :: d :: f :: (nw ++ news) :=
  SegT.sub (segs := [[b], [f], [D], nw, news, [a], [c], [d]]) (.a (.l 0) (.a (.l 1) (.a (.a (.l 2) (.l 3)) (.l 4)))) (.a (.l 2) (.a (.l 5) (.a (.l 0) (.a (.l 6) (.a (.l 7) (.a (.l 1) (.a (.l 3) (.l 4)))))))) rfl
theorem readSet_at {ns : List Int} {k e : Nat} (h0 : k + 16 ≤ ns.length) (he : e = k + 4 + (wordOf ns k 4).toNat) (hl : e ≤ ns.length) (hh : [wordOf ns ((k : Int) + 4).toNat 2, ns.getD ((k : Int) + 10).toNat 0, ns.getD ((k : Int) + 11).toNat 0] = [2, 4, 0]) :
    readSet ns k = (readRows ns e (wordOf ns (k + 6) 4) (k + 16)).map (·, e) := by
  rw [show ((k : Int) + 4).toNat = k + 4 by lia, show ((k : Int) + 10).toNat = k + 10 by lia, show ((k : Int) + 11).toNat = k + 11 by lia] at hh
  simp only [List.cons.injEq, and_true] at hh
  refine cps fun gG kG => ?_
  subst he
  refine kG ?_
  clear kG gG
  unfold readSet
  rw [if_pos h0, if_pos ⟨hl, hh.1, hh.2.1, hh.2.2⟩]
section
variable {ns : List Int} {news : List (Addr × Obj)} {fd : Addr} {vo : Value} {k : Nat} {ta : Tok} {e : Nat} {te : Tok} {rows₀ : List Row} {n : Nat} {m' : Str → Option Value} {nx : List (Addr × Obj)}
    {q : Nat} {pl : Addr} {b z : Int} {t1 t2 : Tok} {np : Nat} {vs : List Value} {nn : Nat} {rows : List Row} {nw : List (Addr × Obj)}
theorem LpJ.stop (J : LpJ ns news fd vo k ta e te (wordOf ns (k + 6) 4) rows₀ n m' nx q pl b z t1 t2 np vs nn rows nw) (h0 : [b, z] = [0, 0]) (hs : readSet ns k = (readRows ns e (wordOf ns (k + 6) 4) (k + 16)).map (·, e)) :
    readSet ns k = if q = e then some (rows, e) else none := by
  simp only [List.cons.injEq, and_true] at h0
  rcases J.rel with h | h
  · rw [hs, h.2.2]; split <;> rfl
  · exact absurd h0 h.1
theorem LpJ.short (J : LpJ ns news fd vo k ta e te (wordOf ns (k + 6) 4) rows₀ n m' nx q pl b z t1 t2 np vs nn rows nw) (h0 : ¬ [b, z] = [0, 0]) (hq : ¬ q + 8 ≤ e) (hs : readSet ns k = (readRows ns e (wordOf ns (k + 6) 4) (k + 16)).map (·, e)) :
    readSet ns k = none := by
  simp only [List.cons.injEq, and_true] at h0
  rcases J.rel with h | h
  · exact absurd ⟨h.1, h.2.1⟩ h0
  · rw [hs, h.2, readRows_short hq]; rfl
theorem LpJ.rel' (J : LpJ ns news fd vo k ta e te (wordOf ns (k + 6) 4) rows₀ n m' nx q pl b z t1 t2 np vs nn rows nw) (h0 : ¬ [b, z] = [0, 0]) : readRows ns e (wordOf ns (k + 6) 4) (k + 16) = (readRows ns e (wordOf ns (k + 6) 4) q).map (rows ++ ·) := by
  simp only [List.cons.injEq, and_true] at h0
  rcases J.rel with h | h
  · exact absurd ⟨h.1, h.2.1⟩ h0
  · exact h.2
theorem LpJ.last {m₃ : Str → Option Value} {pl' : Addr} {t3 t4 : Tok} (J : LpJ ns news fd vo k ta e te (wordOf ns (k + 6) 4) rows₀ n m' nx q pl b z t1 t2 np vs nn rows nw) (h0 : ¬ [b, z] = [0, 0]) (hq : q + 8 ≤ e) (hel : e ≤ ns.length)
    (hw : [wordOf ns (q : Int).toNat 4, wordOf ns ((q : Int) + 4).toNat 4] = [0, 0]) (hp : ∀ p ∈ nw ++ news, p.1 ≠ pl') (hf : pl' ≠ fd) (hm : ∃ tp, lpM vo (.ref fd) (.int k ta) (.int e te) (.int ((q + 8 : Nat) : Int) tp) (.ref pl') m₃ = m₃) :
    LpJ ns news fd vo k ta e te (wordOf ns (k + 6) 4) rows₀ (e - (q + 8)) m₃ ((pl', listOf #[.int (wordOf ns (q : Int).toNat 4) t3, .int (wordOf ns ((q : Int) + 4).toNat 4) t4] 0) :: (fd, listOf vs.toArray nn) :: (nw ++ news)) (q + 8) pl' (wordOf ns (q : Int).toNat 4) (wordOf ns ((q : Int) + 4).toNat 4) t3 t4 0 vs nn rows nw := by
  have hr := J.rel' h0
  have hfew := J.few
  have hqlo := J.qlo
  have hw' := hw
  simp only [List.cons.injEq, and_true] at hw'
  refine ⟨rfl, .inl ⟨hw'.1, hw'.2, ?_⟩, J.dat, J.apart, J.off, hp, hf, rfl, by lia, by lia, by lia, hm⟩
  rw [Int.toNat_natCast, show ((q : Int) + 4).toNat = q + 4 by lia] at hw'
  rw [hr, readRows_stop hq hw'.1 hw'.2]
  split
  · rw [Option.map_some, List.append_nil]
  · rfl
theorem LpJ.more {m₃ : Str → Option Value} {pl' D : Addr} {t3 t4 : Tok} {nn' c : Nat} {u1 u2 u3 : Tok} (J : LpJ ns news fd vo k ta e te (wordOf ns (k + 6) 4) rows₀ n m' nx q pl b z t1 t2 np vs nn rows nw) (h0 : ¬ [b, z] = [0, 0]) (hq : q + 8 ≤ e) (hel : e ≤ ns.length)
    (hw : ¬ [wordOf ns (q : Int).toNat 4, wordOf ns ((q : Int) + 4).toNat 4] = [0, 0]) (hp : ∀ p ∈ nw ++ news, p.1 ≠ pl') (hf : pl' ≠ fd) (hD : ∀ p ∈ nw ++ news, p.1 ≠ D) (hDp : D ≠ pl') (hDf : D ≠ fd) (hm : ∃ tp, lpM vo (.ref fd) (.int k ta) (.int e te) (.int ((q + 8 : Nat) : Int) tp) (.ref pl') m₃ = m₃) :
    LpJ ns news fd vo k ta e te (wordOf ns (k + 6) 4) rows₀ (e - (q + 8)) m₃ ((pl', listOf #[.int (wordOf ns (q : Int).toNat 4) t3, .int (wordOf ns ((q : Int) + 4).toNat 4) t4] 0) :: (fd, listOf (vs.toArray.push (.ref D)) nn') ::
      (((D, { cls := .type "tuple", data := .seq #[.int ([wordOf ns (q : Int).toNat 4, wordOf ns ((q : Int) + 4).toNat 4].getD (Int.toNat 0) 0) u1, .int ([wordOf ns (q : Int).toNat 4, wordOf ns ((q : Int) + 4).toNat 4].getD (Int.toNat 1) 0) u2, .int (wordOf ns ((k : Int) + 6).toNat 4) u3] c }) :: nw) ++ news))
      (q + 8) pl' (wordOf ns (q : Int).toNat 4) (wordOf ns ((q : Int) + 4).toNat 4) t3 t4 0 (vs ++ [.ref D]) nn' (rows ++ [(wordOf ns q 4, wordOf ns (q + 4) 4, wordOf ns (k + 6) 4)])
      ((D, { cls := .type "tuple", data := .seq #[.int ([wordOf ns (q : Int).toNat 4, wordOf ns ((q : Int) + 4).toNat 4].getD (Int.toNat 0) 0) u1, .int ([wordOf ns (q : Int).toNat 4, wordOf ns ((q : Int) + 4).toNat 4].getD (Int.toNat 1) 0) u2, .int (wordOf ns ((k : Int) + 6).toNat 4) u3] c }) :: nw) := by
  have hr := J.rel' h0
  have hfew := J.few
  have hqlo := J.qlo
  have e1 : (q : Int).toNat = q := Int.toNat_natCast q
  have e2 : ((q : Int) + 4).toNat = q + 4 := by lia
  have e3 : ((k : Int) + 6).toNat = k + 6 := by lia
  have hw' := hw
  simp only [List.cons.injEq, and_true] at hw'
  refine ⟨by rw [List.push_toArray], .inr ⟨hw', ?_⟩, ?_, ?_, ?_, ?_, hf, rfl, by simp only [List.length_append, List.length_singleton]; lia, by lia, by lia, hm⟩
  · rw [e1, e2] at hw'
    rw [hr, readRows_more hq hw', Option.map_map]
    congr 1
    funext r
    simp
  · rw [← List.append_assoc, List.map_append]
    refine DatAll.append (J.dat.mono fun p hp => .tail _ hp) (.one (.tuple (vs := [_, _, _]) (.head _) ?_))
    rw [e1, e2, e3]
    exact .cons (.int _ _) (.cons (.int _ _) (.cons (.int _ _) .nil))
  · intro p hp' r hr'
    rcases List.mem_cons.mp hp' with rfl | hp'
    · exact Ne.symm (hD r (List.mem_append_right _ hr'))
    · exact J.apart p hp' r hr'
  · intro p hp'
    rcases List.mem_cons.mp hp' with rfl | hp'
    · exact hDf
    · exact J.off p hp'
  · intro p hp'
    rcases List.mem_cons.mp hp' with rfl | hp'
    · exact hDp
    · exact hp p hp'
theorem LpJ.next {m₃ : Str → Option Value} {n' : Nat} {m'' : Str → Option Value} {nx' : List (Addr × Obj)} {vs' : List Value} {nn' : Nat} {nw' : List (Addr × Obj)} (J : LpJ ns news fd vo k ta e te (wordOf ns (k + 6) 4) rows₀ n m' nx q pl b z t1 t2 np vs nn rows nw) (J₀ : LrJ ns news fd vo n' m'' nx' k vs' nn' rows₀ nw') (h0 : [b, z] = [0, 0]) (hq : q = e) (hk : k < ns.length)
    (hs : readSet ns k = (readRows ns e (wordOf ns (k + 6) 4) (k + 16)).map (·, e)) (hm : ∃ t, lrM vo (.ref fd) (.int e t) m₃ = m₃) :
    ns.length - e < n' ∧ LrJ ns news fd vo (ns.length - e) m₃ ((fd, listOf vs.toArray nn) :: (nw ++ news)) e vs nn (rows₀ ++ rows) nw := by
  have hr := J.stop h0 hs
  rw [if_pos hq] at hr
  have hg := readSet_gt hr
  have hm' := J₀.meas
  have hf := J.few
  refine ⟨meas_lt hm' hk hg.1, rfl, hg.2, ?_, J.dat, J.apart, J.off, rfl, by lia, hm⟩
  rw [J₀.all, readAll_some hk hr, Option.map_map]
  congr 1
  funext r
  simp
end
end
section
noncomputable def hitRow (pc : Int) (r : Row) : Bool := decide (r.1 ≤ pc ∧ pc < r.1 + r.2.1)
noncomputable def unitAt (rows : List Row) (pc : Int) : Option Int := (rows.find? (hitRow pc)).map (·.2.2)
noncomputable def optI : Option Int → Tok → Value
  | some u, t => .int u t
  | none, _ => .none
theorem unitAt_hit {rows : List Row} {pc : Int} {i : Nat} {r : Row} (hr : rows[i]? = some r) (hn : ∀ q ∈ rows.take i, hitRow pc q = false) (hh : hitRow pc r = true) : unitAt rows pc = some r.2.2 := by
  unfold unitAt
  refine cps fun gG kG => ?_
  obtain ⟨hi, he⟩ := List.getElem?_eq_some_iff.mp hr
  refine kG ?_
  clear kG gG
  have e : rows = rows.take i ++ r :: rows.drop (i + 1) := by rw [← he, ← List.drop_eq_getElem_cons hi, List.take_append_drop]
  rw [e, List.find?_append, List.find?_eq_none.mpr (fun x hx => by rw [hn x hx]; decide), List.find?_cons_of_pos hh]
  rfl
theorem unitAt_none {rows : List Row} {pc : Int} (hn : ∀ q ∈ rows, hitRow pc q = false) : unitAt rows pc = none := by
  unfold unitAt
  rw [List.find?_eq_none.mpr (fun x hx => by rw [hn x hx]; decide)]
  rfl
theorem take_all {rows : List Row} {pc : Int} {i : Nat} {r : Row} (hr : rows[i]? = some r) (hn : ∀ q ∈ rows.take i, hitRow pc q = false) (hh : hitRow pc r = false) : ∀ q ∈ rows.take (i + 1), hitRow pc q = false := by
  rw [List.take_add_one, hr]
  intro q hq
  rcases List.mem_append.mp hq with h | h
  · exact hn q h
  · simp at h; rw [h]; exact hh
noncomputable def uaM (vr vp : Value) (m₂ : Str → Option Value) : Str → Option Value :=
  fun z => if z = Str.ofString "rows" then some vr else if z = Str.ofString "pc" then some vp else m₂ z
theorem uaM_cut {vr vp : Value} {m : Str → Option Value} (h1 : m (Str.ofString "rows") = some vr) (h2 : m (Str.ofString "pc") = some vp) : uaM vr vp m = m := by
  funext z
  simp only [uaM]
  split
  · rename_i e; rw [e, h1]
  split
  · rename_i e; rw [e, h2]
  · rfl
noncomputable def hits (rows : List Row) (pc : Int) : List Int := (rows.filter (hitRow pc)).map (·.2.2)
theorem hits_yes {rows : List Row} {pc : Int} {i : Nat} {r : Row} (hr : rows[i]? = some r) (hh : hitRow pc r = true) : hits (rows.take (i + 1)) pc = hits (rows.take i) pc ++ [r.2.2] := by
  unfold hits
  rw [List.take_add_one, hr, List.filter_append, List.map_append]
  simp [hh]
theorem hits_no {rows : List Row} {pc : Int} {i : Nat} {r : Row} (hr : rows[i]? = some r) (hh : hitRow pc r = false) : hits (rows.take (i + 1)) pc = hits (rows.take i) pc := by
  unfold hits
  rw [List.take_add_one, hr, List.filter_append, List.map_append]
  simp [hh]
theorem hits_head (rows : List Row) (pc : Int) : (hits rows pc).head? = unitAt rows pc := by
  unfold hits unitAt
  rw [List.head?_map, List.head?_filter]
end
section
theorem getD_mid {A B : List Int} {X : List Int} {k : Nat} (hk : k < X.length) : (A ++ X ++ B).getD (A.length + k) 0 = X.getD k 0 := by
  rw [List.append_assoc]
  simp only [List.getD]
  rw [List.getElem?_append_right (by lia), Nat.add_sub_cancel_left, List.getElem?_append_left hk]
theorem word_mid {A B X : List Int} {k n : Nat} (hk : k + n ≤ X.length) : wordOf (A ++ X ++ B) (A.length + k) n = wordOf X k n := by
  induction n with
  | zero => rfl
  | succ n ih =>
    simp only [wordOf]
    rw [ih (by lia), Nat.add_assoc, getD_mid (by lia)]
theorem leB4 (x : Int) : leB x 4 = [x % 256, x / 256 % 256, x / 65536 % 256, x / 16777216 % 256] := by
  simp [leB, List.range_succ]
theorem word_leB {x : Int} {C : List Int} (h0 : 0 ≤ x) (h1 : x < 4294967296) : wordOf (leB x 4 ++ C) 0 4 = x := by
  rw [leB4]
  simp only [wordOf, List.getD, List.cons_append, List.nil_append]
  simp
  lia
theorem word_at {ns A B : List Int} {x : Int} (h : ns = A ++ leB x 4 ++ B) (h0 : 0 ≤ x) (h1 : x < 4294967296) : wordOf ns A.length 4 = x := by
  refine cps fun gG kG => ?_
  subst h
  refine kG ?_
  clear kG gG
  have := word_mid (A := A) (B := B) (X := leB x 4) (k := 0) (n := 4) (by rw [leB_len]; exact Nat.le_refl _)
  rw [Nat.add_zero] at this
  rw [this]
  have h := word_leB (C := []) h0 h1
  rwa [List.append_nil] at h
noncomputable def rowsOf (u : Int) (ps : List (Int × Int)) : List Row := ps.map fun p => (p.1, p.2, u)
noncomputable def gathered (G : Grps) : List Row := G.flatMap fun g => rowsOf g.1 g.2
theorem readRows_oct {u : Int} {B : List Int} : ∀ {ps : List (Int × Int)} {A ns : List Int}, ns = A ++ flatB (ps ++ [(0, 0)]) ++ B → (∀ p ∈ ps, goodPair p) → readRows ns (A.length + 8 * (ps.length + 1)) u A.length = some (rowsOf u ps)
  | [], A, ns, h, _ => by
    have e1 : ns = A ++ leB 0 4 ++ (leB 0 4 ++ B) := by rw [h]; simp [flatB]
    have e2 : ns = (A ++ leB 0 4) ++ leB 0 4 ++ B := by rw [h]; simp [flatB]
    have w1 := word_at e1 (by decide) (by decide)
    have w2 := word_at e2 (by decide) (by decide)
    rw [List.length_append, leB_len] at w2
    rw [readRows_stop (by simp) w1 w2, if_pos (by simp)]
    rfl
  | p :: ps, A, ns, h, hg => by
    have hp := hg p (.head _)
    refine cps fun gG kG => ?_
    obtain ⟨a1, a2, a3, a4⟩ := hp
    refine kG ?_
    clear kG gG
    have e1 : ns = A ++ leB p.1 4 ++ (leB p.2 4 ++ flatB (ps ++ [(0, 0)]) ++ B) := by rw [h]; simp [flatB]
    have e2 : ns = (A ++ leB p.1 4) ++ leB p.2 4 ++ (flatB (ps ++ [(0, 0)]) ++ B) := by rw [h]; simp [flatB]
    have e3 : ns = (A ++ leB p.1 4 ++ leB p.2 4) ++ flatB (ps ++ [(0, 0)]) ++ B := by rw [h]; simp [flatB]
    have w1 := word_at e1 (by lia) (by lia)
    have w2 := word_at e2 (by lia) (by lia)
    have ih := readRows_oct (u := u) e3 fun q hq => hg q (.tail _ hq)
    rw [List.length_append, leB_len] at w2
    rw [List.length_append, List.length_append, leB_len, leB_len] at ih
    rw [readRows_more (by simp; lia) (by rw [w1, w2]; lia), w1, w2]
    have e4 : A.length + 8 * ((p :: ps).length + 1) = A.length + 4 + 4 + 8 * (ps.length + 1) := by rw [List.length_cons]; lia
    rw [e4, show A.length + 8 = A.length + 4 + 4 by lia, ih]
    rfl
theorem readSet_oct {u : Int} {A B ns : List Int} {ps : List (Int × Int)} (h : ns = A ++ octW u ps ++ B) (hg : ∀ p ∈ ps, goodPair p) (hu : 0 ≤ u ∧ u < 4294967296) (hl : ps.length ≤ 5) : readSet ns A.length = some (rowsOf u ps, A.length + (24 + 8 * ps.length)) := by
  have hlen : ns.length = A.length + (24 + 8 * ps.length) + B.length := by rw [h, List.length_append, List.length_append, octW_len]
  have hX : (flatB (ps ++ [((0 : Int), (0 : Int))])).length = 8 + 8 * ps.length := by
    rw [flatB_len, List.length_append]
    simp only [List.length_cons, List.length_nil]
    lia
  have e1 : ns = A ++ leB (12 + ((flatB (ps ++ [(0, 0)])).length : Int)) 4 ++ ([2, 0] ++ leB u 4 ++ [4, 0, 0, 0, 0, 0] ++ flatB (ps ++ [(0, 0)]) ++ B) := by rw [h]; simp [octW]
  have e2 : ns = (A ++ leB (12 + ((flatB (ps ++ [(0, 0)])).length : Int)) 4 ++ [2, 0]) ++ leB u 4 ++ ([4, 0, 0, 0, 0, 0] ++ flatB (ps ++ [(0, 0)]) ++ B) := by rw [h]; simp [octW]
  have e3 : ns = (A ++ leB (12 + ((flatB (ps ++ [(0, 0)])).length : Int)) 4 ++ [2, 0] ++ leB u 4 ++ [4, 0, 0, 0, 0, 0]) ++ flatB (ps ++ [(0, 0)]) ++ B := by rw [h]; simp [octW]
  have e4 : ns = (A ++ leB (12 + ((flatB (ps ++ [(0, 0)])).length : Int)) 4) ++ [2, 0] ++ (leB u 4 ++ [4, 0, 0, 0, 0, 0] ++ flatB (ps ++ [(0, 0)]) ++ B) := by rw [h]; simp [octW]
  have e5 : ns = (A ++ leB (12 + ((flatB (ps ++ [(0, 0)])).length : Int)) 4 ++ [2, 0] ++ leB u 4) ++ [4, 0, 0, 0, 0, 0] ++ (flatB (ps ++ [(0, 0)]) ++ B) := by rw [h]; simp [octW]
  have w1 := word_at e1 (by rw [hX]; lia) (by rw [hX]; lia)
  have w2 := word_at e2 hu.1 hu.2
  have w3 := word_mid (A := A ++ leB (12 + ((flatB (ps ++ [(0, 0)])).length : Int)) 4) (B := leB u 4 ++ [4, 0, 0, 0, 0, 0] ++ flatB (ps ++ [(0, 0)]) ++ B) (X := [2, 0]) (k := 0) (n := 2) (by simp)
  have g1 := getD_mid (A := A ++ leB (12 + ((flatB (ps ++ [(0, 0)])).length : Int)) 4 ++ [2, 0] ++ leB u 4) (B := flatB (ps ++ [(0, 0)]) ++ B) (X := [4, 0, 0, 0, 0, 0]) (k := 0) (by simp)
  have g2 := getD_mid (A := A ++ leB (12 + ((flatB (ps ++ [(0, 0)])).length : Int)) 4 ++ [2, 0] ++ leB u 4) (B := flatB (ps ++ [(0, 0)]) ++ B) (X := [4, 0, 0, 0, 0, 0]) (k := 1) (by simp)
  rw [← e4] at w3
  rw [← e5] at g1 g2
  simp only [List.length_append, leB_len, List.length_cons, List.length_nil, Nat.add_zero] at w2 w3 g1 g2
  have rr := readRows_oct (u := u) e3 hg
  simp only [List.length_append, leB_len, List.length_cons, List.length_nil] at rr
  have t1 : (12 + ((flatB (ps ++ [((0 : Int), (0 : Int))])).length : Int)).toNat = 20 + 8 * ps.length := by rw [hX]; lia
  rw [readSet_rows (by rw [w1, t1]; lia) (by rw [w1, t1]; lia) w3 g1 g2]
  rw [show A.length + 6 = A.length + 4 + 2 from rfl, w2, w1, t1]
  rw [show A.length + 4 + (20 + 8 * ps.length) = A.length + 4 + 2 + 4 + 6 + 8 * (ps.length + 1) by lia, show A.length + 16 = A.length + 4 + 2 + 4 + 6 from rfl, rr]
  simp only [Option.map_some]
  rw [show A.length + 4 + 2 + 4 + 6 + 8 * (ps.length + 1) = A.length + (24 + 8 * ps.length) by lia]
theorem readAll_oct {A ns : List Int} : ∀ {G : Grps}, ns = A ++ octsW G → (∀ g ∈ G, ∀ p ∈ g.2, goodPair p) → (∀ g ∈ G, 0 ≤ g.1 ∧ g.1 < 4294967296) → (∀ g ∈ G, g.2.length ≤ 5) → readAll ns A.length = some (gathered G) := by
  intro G
  induction G generalizing A with
  | nil =>
    intro h _ _ _
    rw [readAll_end (by rw [h]; simp [octsW])]
    rfl
  | cons g G ih =>
    intro h hg hu hl
    have e1 : ns = A ++ octW g.1 g.2 ++ octsW G := by rw [h]; simp [octsW]
    have e2 : ns = (A ++ octW g.1 g.2) ++ octsW G := e1
    have rs := readSet_oct e1 (hg g (.head _)) (hu g (.head _)) (hl g (.head _))
    have i2 := ih e2 (fun q hq => hg q (.tail _ hq)) (fun q hq => hu q (.tail _ hq)) (fun q hq => hl q (.tail _ hq))
    rw [List.length_append, octW_len] at i2
    have hlt : A.length < ns.length := by rw [e1, List.length_append, List.length_append, octW_len]; lia
    rw [readAll_some hlt rs, i2]
    rfl
theorem little_leB (x : Int) (n : Nat) : KTBy.little n x = leB x n := by
  rw [KTBy.little_eq]; rfl
theorem setW_octW (u : Int) (ps : List (Int × Int)) : setW u ps = octW u ps := by
  have e : ((flatB (ps ++ [((0 : Int), (0 : Int))])).length : Int) = 8 + 8 * ps.length := by
    rw [flatB_len, List.length_append]
    simp only [List.length_cons, List.length_nil]
    lia
  have f : flatB (ps ++ [(0, 0)]) = flatW ps ++ leB 0 4 ++ leB 0 4 := by
    simp [flatB, flatW, little_leB]
  unfold setW octW
  simp only [little_leB]
  rw [show (12 + ((flatB (ps ++ [((0 : Int), (0 : Int))])).length : Int)) = 20 + 8 * ps.length by rw [e]; lia, f]
  have g : leB 2 2 = [2, 0] := by decide
  have g0 : leB 0 4 = [0, 0, 0, 0] := by decide
  rw [g, g0]
  simp
theorem octs_same (G : Grps) : G.flatMap (fun q => setW q.1 q.2) = octsW G := by
  unfold octsW
  congr 1
  funext q
  exact setW_octW q.1 q.2
theorem groupIn_mem {u : Int} {p : Int × Int} : ∀ {G : Grps} {q : Int × Int}, (∃ g ∈ groupIn u p G, q ∈ g.2) ↔ (∃ g ∈ G, q ∈ g.2) ∨ q = p
  | [], q => by simp [groupIn]
  | (k, ps) :: r, q => by
    unfold groupIn
    by_cases hk : k = u
    · rw [if_pos hk]
      simp only [List.mem_cons, exists_eq_or_imp, List.mem_append, List.not_mem_nil, or_false]
      constructor
      · rintro ((h | h) | h)
        · exact .inl (.inl h)
        · exact .inr h
        · exact .inl (.inr h)
      · rintro ((h | h) | h)
        · exact .inl (.inl h)
        · exact .inr h
        · exact .inl (.inr h)
    · rw [if_neg hk]
      have ih := groupIn_mem (u := u) (p := p) (G := r) (q := q)
      simp only [List.mem_cons, exists_eq_or_imp]
      rw [ih, or_assoc]
theorem groups_mem {rows : List Row} {q : Int × Int} : (∃ g ∈ groups rows, q ∈ g.2) ↔ ∃ r ∈ rows, q = (r.1, r.2.1) := by
  unfold groups
  have : ∀ (G : Grps), (∃ g ∈ rows.foldl (fun G (r : Row) => groupIn r.2.2 (r.1, r.2.1) G) G, q ∈ g.2) ↔ (∃ g ∈ G, q ∈ g.2) ∨ ∃ r ∈ rows, q = (r.1, r.2.1) := by
    induction rows with
    | nil => intro G; simp
    | cons r rows ih =>
      intro G
      rw [List.foldl_cons, ih, groupIn_mem]
      simp only [List.mem_cons, exists_eq_or_imp, or_assoc]
  rw [this]
  simp
theorem good_iff {rows : List Row} : (∀ q ∈ groups rows, ∀ p ∈ q.2, goodPair p) ↔ ∀ r ∈ rows, GoodRow r.1 r.2.1 := by
  constructor
  · intro h r hr
    refine cps fun gG kG => ?_
    obtain ⟨g, hg, hq⟩ := groups_mem.mpr ⟨r, hr, rfl⟩
    refine kG ?_
    clear kG gG
    exact h g hg _ hq
  · intro h q hq p hp
    refine cps fun gG kG => ?_
    obtain ⟨r, hr, e⟩ := groups_mem.mp ⟨q, hq, hp⟩
    subst e
    refine kG ?_
    clear kG gG
    exact h r hr
/-- What read_aranges tells of what write_aranges wrote. -/
theorem read_written {rows : List Row} (hun : ∀ r ∈ rows, 0 ≤ r.2.2 ∧ r.2.2 < 4294967296) (hlen : rows.length ≤ 5) (hg : ∀ q ∈ groups rows, ∀ p ∈ q.2, goodPair p) : readAll (octsW (groups rows)) 0 = some (gathered (groups rows)) :=
  readAll_oct (A := []) (by simp) hg (groups_units hun) fun g h => Nat.le_trans (groups_small rows g h) hlen
end
section
open PySem PySem.W PyProof.Rows PySem.Calls PySem.Spec LCg
section
variable {prog : Program} {w : World} {A : Around} {E : Value → Shared → Prop} {s : Shared} {env : Env} {h₀ : Heap} {target : Expr} {body : List Stmt} {Q : Flow → Shared → Prop}
/-- As turnsG, what a turn is given may speak of the heap. -/
theorem turnsK {I : Addr} {fp : List Addr} {n : Nat} {P Md : Nat → Value → Heap → Prop} {St : Nat → Heap → Prop} {keep : List (Addr × Obj)} {m₀ : Str → Option Value} {news : List (Addr × Obj)}
    (J : Nat → (Str → Option Value) → List (Addr × Obj) → Prop) (W : KTurns prog w A target I fp [I] n P Md St) (hIf : I ∈ fp)
    (hIs : ∀ i h, St i h → ∃ o, h.get? I = some o) (hfp : ∀ b ∈ fp, b = I ∨ ∃ o, (b, o) ∈ keep) (hJk : ∀ i m nw, J i m nw → ∀ p ∈ keep, p ∈ nw)
    (hLf : env.locals ∉ fp) (hI : h₀.get? I = none) (hst : St 0 s.heap) (F : Fr h₀ env.locals s.heap m₀) (N : News h₀ env.locals s.heap news) (off : ∀ p ∈ news, p.1 ≠ I) (h0 : J 0 m₀ news)
    (turn : ∀ i v m₁ nw h₁ tk₁ o, i < n → P i v h₁ → J i m₁ nw → (∀ p ∈ nw, p.1 ≠ I) → Fr h₀ env.locals h₁ m₁ → News h₀ env.locals h₁ ((I, o) :: nw) →
      wpAny (model prog w) A (assign target env v) (fun _ s₃ => wpAny (model prog w) A (execs body env) (TurnA h₀ env.locals I o s (J (i + 1)) Q) E s₃) E { s with heap := h₁, toks := tk₁ })
    (fin : ∀ h' tk m' nw, J n m' nw → Fr h₀ env.locals h' m' → News h₀ env.locals h' nw → Q .next { s with heap := h', toks := tk }) :
    TurnsAt prog w A h₀ env target body Q E (.ref I) s := by
  refine ⟨I, fp, [I], n, _, _, St, m₀, news, J, rfl, W, hLf, fun b hb => by rw [List.mem_singleton.mp hb]; exact hI, fun p hp hb => off p hp (List.mem_singleton.mp hb), hst, F, N, h0, ?_, fun h' tk m' nw F' N' _ hJ => fin h' tk m' nw hJ F' N'⟩
  intro i v m₁ nw h₁ tk₁ own hi hP hJ hnw hown hget hin hst₁ F₁ N₁
  refine cps fun gG kG => ?_
  obtain ⟨o, ho⟩ := hIs _ _ hst₁
  refine kG ?_
  clear kG gG
  have hmI : (I, o) ∈ own := hin I hIf hI o ho
  have hoff : ∀ p ∈ nw, p.1 ≠ I := fun p hp e => hnw p hp (List.mem_singleton.mpr e)
  have N₂ : News h₀ env.locals h₁ ((I, o) :: nw) := fun p hp => by
    rcases List.mem_cons.mp hp with rfl | hp
    · exact N₁ _ (List.mem_append_left _ hmI)
    · exact N₁ _ (List.mem_append_right _ hp)
  refine wpAny_mono (turn i v m₁ nw h₁ tk₁ o hi hP hJ hoff F₁ N₂) (fun _ s₃ h₃ => wpAny_mono h₃ (fun f s₄ h₄ => ?_) fun _ _ x => x) fun _ _ x => x
  have key : (∃ h' tk m' nw', s₄ = { s with heap := h', toks := tk } ∧ Fr h₀ env.locals h' m' ∧ News h₀ env.locals h' ((I, o) :: nw') ∧ (∀ p ∈ nw', p.1 ≠ I) ∧ J (i + 1) m' nw') → LoopStepU h₀ env.locals [I] own (J (i + 1)) { s with heap := h₁, toks := tk₁ } .next s₄ := by
    rintro ⟨h', tk, m', nw', rfl, F', N', off', hJ'⟩
    refine ⟨rfl, h', tk, m', nw', rfl, F', fun p hp => ?_, fun p hp hb => off' p hp (List.mem_singleton.mp hb), hJ'⟩
    rcases List.mem_append.mp hp with hp | hp
    · have hg := hget p hp
      rcases hfp _ (hown p hp) with e | ⟨o', hk⟩
      · have e2 : p = (I, o) := Prod.ext e (by rw [e, ho] at hg; exact (Option.some.inj hg).symm)
        rw [e2]; exact N' _ (.head _)
      · have h1 := (N₁ _ (List.mem_append_right _ (hJk _ _ _ hJ _ hk))).1
        dsimp only at h1
        rw [hg] at h1
        have e2 : p = (p.1, o') := Prod.ext rfl (Option.some.inj h1)
        rw [e2]; exact N' _ (.tail _ (hJk _ _ _ hJ' _ hk))
    · exact N' _ (.tail _ hp)
  cases f with
  | ret v => exact h₄
  | brk => exact h₄
  | next => exact key h₄
  | cont => exact key h₄
theorem iterDictA {d : Addr} {od : Obj} {kvs : List (Int × Value)} {m₀ : Str → Option Value} {news : List (Addr × Obj)}
    (J : Nat → (Str → Option Value) → List (Addr × Obj) → Prop) (hh : A.handled = none) (F : Fr h₀ env.locals s.heap m₀) (N : News h₀ env.locals s.heap news) (hm : (d, od) ∈ news) (hdi : od.IsDictOf (intKind prog w) kvs) (lo : (d == sysModules) = false)
    (h0 : J 0 m₀ news) (hJl : ∀ i m nw, J i m nw → (d, od) ∈ nw)
    (turn : ∀ I i k x t m₁ nw h₁ tk₁ o, kvs[i]? = some (k, x) → J i m₁ nw → (∀ p ∈ nw, p.1 ≠ I) → Fr h₀ env.locals h₁ m₁ → News h₀ env.locals h₁ ((I, o) :: nw) →
      wpAny (model prog w) A (assign target env (.int k t)) (fun _ s₃ => wpAny (model prog w) A (execs body env) (TurnA h₀ env.locals I o s (J (i + 1)) Q) E s₃) E { s with heap := h₁, toks := tk₁ })
    (fin : ∀ h' tk m' nw, J kvs.length m' nw → Fr h₀ env.locals h' m' → News h₀ env.locals h' nw → Q .next { s with heap := h', toks := tk }) :
    wpAny (model prog w) A (pyIter (.ref d)) (fun it s₂ => TurnsAt prog w A h₀ env target body Q E it s₂) E s := by
  have hax := N _ hm
  refine cps fun gG kG => ?_
  obtain ⟨es, ep, hes⟩ := hdi
  refine kG ?_
  clear kG gG
  have hat : s.heap.DictAt (intKind prog w) d kvs ep := ⟨od, es, hax.1, hes⟩
  have hlt : d < s.heap.objs.size := Heap.lt_size hax.1
  have hne : d ≠ s.heap.objs.size := Nat.ne_of_lt hlt
  refine wpAny_pyIter_dict lo hat ?_
  refine turnsK (keep := [(d, od)]) J (KTurns.ofWalks (Walks.dictKeys (knd := intKind prog w) hh s.heap.objs.size d hne kvs ep) fun i v s Q E st q => letGo_keyiter st.1 q) (by simp) (fun i h st => by obtain ⟨oi, g, _⟩ := st.1; exact ⟨oi, g⟩) (fun b hb => ?_) (fun i m nw hJ p hp => by rw [List.mem_singleton.mp hp]; exact hJl _ _ _ hJ) (fun hI => ?_) (ktu_new F (Nat.le_refl _)) ⟨⟨_, Heap.get?_push_size _ rfl, rfl, rfl⟩, hat.push _⟩ (F.push _) (fun p hp => ⟨Heap.get?_push_of_some _ (N p hp).1, (N p hp).2⟩) (fun p hp => Nat.ne_of_lt (Heap.lt_size (N p hp).1)) h0 ?_ fin
  · have hb' : b = s.heap.objs.size ∨ b = d := by simpa using hb
    rcases hb' with e | e
    · exact .inl e
    · exact .inr ⟨od, by simp [e]⟩
  · have hb' : env.locals = s.heap.objs.size ∨ env.locals = d := by simpa using hI
    rcases hb' with e | e
    · exact absurd F.ns.lt (e ▸ Nat.lt_irrefl _)
    · exact hax.2.1 e.symm
  · rintro i v m₁ nw h₁ tk₁ o hi ⟨k, x, hx, hk⟩ hJ hoff F₁ N₁
    refine cps fun gG kG => ?_
    obtain ⟨t, rfl⟩ : ∃ t, v = .int k t := by
      cases v <;> simp [intKind, Value.isInt] at hk
      exact ⟨_, by rw [hk]⟩
    refine kG ?_
    clear kG gG
    exact turn _ i k x t m₁ nw h₁ tk₁ o hx hJ hoff F₁ N₁
theorem iterItemsA {elts : List Expr} {kk : Nat} {pos : Pos} {d vw : Addr} {od : Obj} {kvs : List (Int × Value)} {m₀ : Str → Option Value} {news : List (Addr × Obj)}
    (J : Nat → (Str → Option Value) → List (Addr × Obj) → Prop) (hh : A.handled = none) (F : Fr h₀ env.locals s.heap m₀) (N : News h₀ env.locals s.heap news) (hvw : ∃ ov, s.heap.get? vw = some ov ∧ ov.cls = .type "dict_items" ∧ ov.data = .fields #[.ref d]) (hm : (d, od) ∈ news) (hdi : od.IsDictOf (intKind prog w) kvs)
    (h0 : J 0 m₀ news) (hJl : ∀ i m nw, J i m nw → (d, od) ∈ nw)
    (turn : ∀ I i T k x t m₁ nw h₁ tk₁ o, kvs[i]? = some (k, x) → h₁.IsTuple T #[.int k t, x] → J i m₁ nw → (∀ p ∈ nw, p.1 ≠ I) → Fr h₀ env.locals h₁ m₁ → News h₀ env.locals h₁ ((I, o) :: nw) →
      wpAny (model prog w) A (assign (.Tuple elts kk pos) env (.ref T)) (fun _ s₃ => wpAny (model prog w) A (execs body env) (TurnA h₀ env.locals I o s (J (i + 1)) Q) E s₃) E { s with heap := h₁, toks := tk₁ })
    (fin : ∀ h' tk m' nw, J kvs.length m' nw → Fr h₀ env.locals h' m' → News h₀ env.locals h' nw → Q .next { s with heap := h', toks := tk }) :
    wpAny (model prog w) A (pyIter (.ref vw)) (fun it s₂ => TurnsAt prog w A h₀ env (.Tuple elts kk pos) body Q E it s₂) E s := by
  have hax := N _ hm
  refine cps fun gG kG => ?_
  obtain ⟨es, ep, hes⟩ := hdi
  refine kG ?_
  clear kG gG
  have hat : s.heap.DictAt (intKind prog w) d kvs ep := ⟨od, es, hax.1, hes⟩
  have hlt : d < s.heap.objs.size := Heap.lt_size hax.1
  have hne : d ≠ s.heap.objs.size := Nat.ne_of_lt hlt
  refine wpAny_pyIter_items hvw hat ?_
  refine turnsK (keep := [(d, od)]) J (kti_itemsTurns (knd := intKind prog w) hh s.heap.objs.size d hne kvs ep) (by simp) (fun i h st => by obtain ⟨⟨ok, ov, he⟩, _⟩ := st; exact ⟨_, he⟩) (fun b hb => ?_) (fun i m nw hJ p hp => by rw [List.mem_singleton.mp hp]; exact hJl _ _ _ hJ) (fun hI => ?_) (ktu_new F (Nat.le_refl _)) ⟨⟨.none, .none, Heap.get?_push_size _ rfl⟩, hat.push _⟩ (F.push _) (fun p hp => ⟨Heap.get?_push_of_some _ (N p hp).1, (N p hp).2⟩) (fun p hp => Nat.ne_of_lt (Heap.lt_size (N p hp).1)) h0 ?_ fin
  · have hb' : b = s.heap.objs.size ∨ b = d := by simpa using hb
    rcases hb' with e | e
    · exact .inl e
    · exact .inr ⟨od, by simp [e]⟩
  · have hb' : env.locals = s.heap.objs.size ∨ env.locals = d := by simpa using hI
    rcases hb' with e | e
    · exact absurd F.ns.lt (e ▸ Nat.lt_irrefl _)
    · exact hax.2.1 e.symm
  · rintro i v m₁ nw h₁ tk₁ o hi ⟨T, key, k, x, rfl, hx, hk, hT⟩ hJ hoff F₁ N₁
    refine cps fun gG kG => ?_
    obtain ⟨t, rfl⟩ : ∃ t, key = .int k t := by
      cases key <;> simp [intKind, Value.isInt] at hk
      exact ⟨_, by rw [hk]⟩
    refine kG ?_
    clear kG gG
    exact turn _ i T k x t m₁ nw h₁ tk₁ o hx hT hJ hoff F₁ N₁
theorem iterRangeA {x : Str} {px : Pos} {r : Addr} {a b c : Int} {t u v : Tok} {n : Nat} {m₀ : Str → Option Value} {news : List (Addr × Obj)}
    (J : Nat → (Str → Option Value) → List (Addr × Obj) → Prop) (hh : A.handled = none) (hr : IsRange s.heap r a b c t u v) (hsmall : Builtin.Range.small a b c = true) (hn : Builtin.Range.rangeSize a b c = (n : Int)) (F : Fr h₀ env.locals s.heap m₀) (N : News h₀ env.locals s.heap news)
    (h0 : J 0 m₀ news)
    (turn : ∀ I i t m₁ nw h₁ tk₁ o, i < n → J i m₁ nw → (∀ p ∈ nw, p.1 ≠ I) → Fr h₀ env.locals h₁ m₁ → News h₀ env.locals h₁ ((I, o) :: nw) →
      wpAny (model prog w) A (assign (.Name x px) env (.int (a + i * c) t)) (fun _ s₃ => wpAny (model prog w) A (execs body env) (TurnA h₀ env.locals I o s (J (i + 1)) Q) E s₃) E { s with heap := h₁, toks := tk₁ })
    (fin : ∀ h' tk m' nw, J n m' nw → Fr h₀ env.locals h' m' → News h₀ env.locals h' nw → Q .next { s with heap := h', toks := tk }) :
    wpAny (model prog w) A (pyIter (.ref r)) (fun it s₂ => TurnsAt prog w A h₀ env (.Name x px) body Q E it s₂) E s := by
  refine wpAny_pyIter_range hr hsmall ?_
  refine turnsK (keep := []) J (KTurns.ofWalks (Walks.range hh s.heap.objs.size a c n) fun i v s Q E st q => wpAny_pure q) (by simp) (fun i h st => ⟨_, st⟩) (fun b hb => .inl (by simpa using hb)) (fun i m nw hJ p hp => nomatch hp) (fun hI => ?_) (ktu_new F (Nat.le_refl _)) (by show IsRangeIter _ _ _ _ _; rw [hn]; simpa using Heap.get?_push_size _ rfl) (F.push _) (fun p hp => ⟨Heap.get?_push_of_some _ (N p hp).1, (N p hp).2⟩) (fun p hp => Nat.ne_of_lt (Heap.lt_size (N p hp).1)) h0 ?_ fin
  · have hb' : env.locals = s.heap.objs.size := by simpa using hI
    exact absurd F.ns.lt (hb' ▸ Nat.lt_irrefl _)
  · rintro i v m₁ nw h₁ tk₁ o hi ⟨t, rfl⟩ hJ hoff F₁ N₁
    exact turn _ i t m₁ nw h₁ tk₁ o hi hJ hoff F₁ N₁
end
section
variable {prog : Program} {w : World} {A : Around} {E : Value → Shared → Prop} {s : Shared} {h₀ : Heap} {L : Addr} {m : Str → Option Value} {env : Env}
/-- A comprehension over a range, its target a name. -/
theorem compRangeA {elt : Expr} {x : Str} {px : Pos} {ifs : List Expr} {scope : Scope} {cl : List (Str × Addr)} {Fin : Shared → List Value → List (Addr × Obj) → Prop} {r : Addr} {a b c : Int} {t u v : Tok} {n : Nat} {news : List (Addr × Obj)}
    (J : Nat → List Value → List (Addr × Obj) → Prop) (hh : A.handled = none) (hr : IsRange s.heap r a b c t u v) (hsmall : Builtin.Range.small a b c = true) (hn : Builtin.Range.rangeSize a b c = (n : Int)) (F : Fr h₀ L s.heap m) (N : News h₀ L s.heap news) (hsz : n ≤ sizeLine)
    (h0 : J 0 [] news) (hlen : ∀ i ys nw, J i ys nw → ys.length ≤ i) (hx : ∀ C, (compEnvC scope cl C env).kindOf x = some .local) (hp : ∀ C, (((compEnvC scope cl C env).scope.kind == .class || ((compEnvC scope cl C env).scope.kind == .module && (compEnvC scope cl C env).locals != (compEnvC scope cl C env).globals)) = false))
    (turn : ∀ s₂ : Shared, (∃ g, s₂ = { s with heap := g }) → ∀ I i t ys nw oI C oC D m₂ h tk (E' : Value → Shared → Prop), i < n → J i ys nw → m₂ x = some (.int (a + i * c) t) → NsObj oC m₂ → Fr h₀ L h m → News h₀ L h ((I, oI) :: (C, oC) :: (D, lst ys) :: nw) → (∀ p ∈ nw, p.1 ≠ I ∧ p.1 ≠ C ∧ p.1 ≠ D) →
      ((@Ne Nat I C) ∧ (@Ne Nat I D) ∧ (@Ne Nat C D)) →
      wpAny (model prog w) A (testsOf ifs (compEnvC scope cl C env)) (fun ok s₃ => if ok = true then wpAny (model prog w) A (eval elt (compEnvC scope cl C env)) (fun y s₄ => CompNext h₀ L m s₂ I oI C oC D ys (J (i + 1) (ys ++ [y])) s₄) E' s₃
        else CompNext h₀ L m s₂ I oI C oC D ys (J (i + 1) ys) s₃) E' { s₂ with heap := h, toks := tk })
    (fin : ∀ s₂ : Shared, (∃ g, s₂ = { s with heap := g }) → ∀ ys nw, J n ys nw → Fin s₂ ys nw) :
    wpAny (model prog w) A (pyIter (.ref r)) (fun it s₂ => CompIt prog w A h₀ L m env elt (.Name x px) ifs scope cl Fin it s₂) E s := by
  refine wpAny_pyIter_range hr hsmall ?_
  refine ⟨(fun i v m₂ => ∃ t, v = .int (a + i * c) t ∧ m₂ x = some v), J, s.heap.objs.size, [s.heap.objs.size], n, (fun i v => ∃ t, v = .int (a + i * c) t), (fun i h => IsRangeIter h s.heap.objs.size (a + (i : Nat) * c) ((n : Int) - (i : Nat)) c), [], news, rfl, hlen, ?_⟩
  refine ⟨Walks.range hh s.heap.objs.size a c n, hsz, fun i v s Q E st q => wpAny_pure q, fun i h st => ⟨_, st⟩, fun b hb => .inl (by simpa using hb), fun b hb => ?_, (fun i ys nw hJ p hp => nomatch hp), Nat.ne_of_lt F.ns.lt, next_is_new F, (by show IsRangeIter _ _ _ _ _; rw [hn]; simpa using Heap.get?_push_size _ rfl), F.push _, fun p hp => ⟨Heap.get?_push_of_some _ (N p hp).1, (N p hp).2⟩, fun p hp => Nat.ne_of_lt (Heap.lt_size (N p hp).1), h0, ?_, ?_, ?_⟩
  · have hb' : b = s.heap.objs.size := by simpa using hb
    show b < (s.heap.push _).objs.size
    rw [Heap.size_push, hb']
    exact Nat.lt_succ_self _
  · rintro i v ys nw C h tk m₁ Q' E' _ ⟨t, rfl⟩ hJ N' hn' k
    exact asg_name rfl (hx C) (hp C) hn' fun h₃ tk₃ hn₃ hk₃ => k h₃ tk₃ _ ⟨t, rfl, if_pos rfl⟩ hn₃ hk₃
  · rintro i v ys nw oI C oC D m₂ h tk E' hi _ hJ ⟨t, rfl, hm⟩ hoC F' N' off ne
    exact turn _ ⟨_, rfl⟩ _ i t ys nw oI C oC D m₂ h tk E' hi hJ hm hoC F' N' off ne
  · intro ys nw hJ
    exact fin _ ⟨_, rfl⟩ ys nw hJ
end
end
section
theorem ints_of : ∀ {vs : List Value} {ns : List Int}, vs.length = ns.length → (∀ (j : Nat) (v : Value), vs[j]? = some v → ∃ k u, ns[j]? = some k ∧ v = Value.int k u) → IntsAre vs ns
  | [], [], _, _ => .nil
  | v :: vs, n :: ns, hl, h => by
    refine cps fun gG kG => ?_
    obtain ⟨k, u, hk, rfl⟩ := h 0 v rfl
    simp only [List.getElem?_cons_zero, Option.some.injEq] at hk
    subst hk
    refine kG ?_
    clear kG gG
    exact .cons _ _ (ints_of (by simpa using hl) fun j v hv => by simpa using h (j + 1) v (by simpa using hv))
section
variable {prog : Program} {w : World} {A : Around} {E : Value → Shared → Prop} {s : Shared} {b : Array UInt8} {t : Tok}
noncomputable abbrev BytesP (b : Array UInt8) (i : Nat) (v : Value) : Prop := ∃ c u, b[i]? = some c ∧ v = .int (c.toNat : Int) u
theorem lb_hint {Q : Bool → Shared → Prop} (h : Q false s) : wpAny (model prog w) A (Builtin.List.listLengthHint (.bytes b t)) Q E s := by
  have hT : s.TypeIs (.bytes b t) "bytes" := PySem.W.typeIs_bytes _ _ _
  unfold Builtin.List.listLengthHint
  refine wpAny_bind (wpAny_specialOf hT FB.slot_bytes_len.lookup ?_)
  generalize hid : ("bytes.__len__" : String) = id0
  wp_delta
  rw [show splitId id0 = some ("bytes", "__len__") from by subst hid; decide +kernel]
  refine cps fun gG kG => ?_
  subst hid
  refine kG ?_
  clear kG gG
  refine wpAny_bind (wpAny_isInstance (T := "bytes") (b := true) hT (by rw [isSubtype_type]; kernel_rfl) ?_)
  refine wpAny_ite_split (fun hab => absurd hab (by decide)) (fun _ => ?_)
  refine wpAny_ite_split (fun _ => ?_) (fun hab => absurd (by decide +kernel) hab)
  exact wpAny_bind (wpAny_typeOf hT (wpAny_pure h))
theorem lb_extend {R : Result → Shared → Prop} (hh : A.handled = none) (S : Addr) (res : Value) (c₀ : Nat) (hS : s.heap.get? S = some { cls := .type "list", data := .seq #[] c₀ }) (hn : b.size ≤ sizeLine)
    (hR : ∀ h' tk acc' c', (∀ a o, a ≠ S → s.heap.get? a = some o → h'.get? a = some o) → h'.get? S = some { cls := .type "list", dict := none, data := .seq acc' c', slots := #[] } → ItemsOf (BytesP b) acc' b.size → R (.ok (.ret res)) { s with heap := h', toks := tk }) :
    wpAny (model prog w) A.in1 (Builtin.List.listExtendWith (.ref S) (.bytes b t) res)
      (fun fin s' => match fin with | .done f => R (.ok f) s' | .again c' => c'.quiet = true ∧ codeAny (model prog w) A c' R s') (fun e s' => R (.error e) s') s := by
  have hSI : S ≠ s.heap.objs.size := Nat.ne_of_lt (Heap.lt_size hS)
  have hSf : S ∉ [s.heap.objs.size] := by simpa using hSI
  have hT : s.TypeIs (.bytes b t) "bytes" := PySem.W.typeIs_bytes _ _ _
  have W := KBw.walks (prog := prog) (w := w) (A := A.in1) hh s.heap.objs.size b t
  have key : ∀ (h : Heap) (c₁ tk : Nat), KBw.IsBytesIter h s.heap.objs.size b t 0 → (∀ a o, a ≠ S → s.heap.get? a = some o → h.get? a = some o) → h.get? S = some { cls := .type "list", data := .seq #[] c₁ } →
      codeAny (model prog w) A (.builtin "list.extend.loop" ⟨[.ref S, .ref s.heap.objs.size, res], []⟩) R { s with heap := h, toks := tk } := by
    intro h c₁ tk hst hk hS₁
    refine codeAny_extend_loopS W.toS hn S hSf res b.size 0 _ #[] c₁ rfl (Nat.zero_le _) hst hS₁ (ItemsOf.nil _) fun s' acc' c' hm hS' hacc => ?_
    rw [Moved.eq_with hm]
    refine hR s'.heap s'.toks acc' c' (fun a o ha e => hm.heap a o (fun hmem => ?_) (hk a o ha e)) hS' hacc
    rcases List.mem_cons.mp hmem with e' | hmem
    · exact ha e'
    · exact absurd (Heap.lt_size e) (by rw [List.mem_singleton.mp hmem]; exact Nat.lt_irrefl _)
  unfold Builtin.List.listExtendWith
  refine wpAny_bind (wpAny_typeOf (T := "bytes") hT ?_)
  have h1 : Builtin.List.listSameRef (.ref S) (.bytes b t) = false := rfl
  have h2 : (Value.type "bytes" == Value.type "list") = false := by decide
  have h3 : (Value.type "bytes" == Value.type "tuple") = false := by decide
  simp only [h1, h2, h3, Bool.or_false, Bool.false_eq_true, if_false]
  refine wpAny_bind (KBw.pyIter_bytes ?_)
  have hS₁ := Heap.get?_push_of_some ({ cls := .type "bytes_iterator", data := .fields #[.bytes b t, .int 0 0] } : Obj) hS
  have st : KBw.IsBytesIter (s.heap.push { cls := .type "bytes_iterator", data := .fields #[.bytes b t, .int 0 0] }) s.heap.objs.size b t 0 := ⟨_, Heap.get?_push_size _ rfl, rfl, rfl⟩
  refine wpAny_bind (wpAny_holding (lb_hint ?_))
  exact wpAny_ite_split (fun hab => absurd hab (by decide)) (fun _ => wpAny_pure ⟨plainId_quiet PySem.F.plain_extend_loop _, key _ c₀ _ st (fun a o _ e => Heap.get?_push_of_some _ e) hS₁⟩)
theorem lb_init {R : Result → Shared → Prop} (hh : A.handled = none) (S : Addr) (hS : s.heap.get? S = some { cls := .type "list", data := .seq #[] }) (hn : b.size ≤ sizeLine)
    (hR : ∀ h' tk acc' c', (∀ a o, a ≠ S → s.heap.get? a = some o → h'.get? a = some o) → h'.get? S = some { cls := .type "list", dict := none, data := .seq acc' c', slots := #[] } → ItemsOf (BytesP b) acc' b.size → R (.ok (.ret .none)) { s with heap := h', toks := tk }) :
    wpAny (model prog w) A.in1 (Builtin.«list.__init__» ⟨[.ref S, .bytes b t], []⟩)
      (fun fin s' => match fin with | .done f => R (.ok f) s' | .again c' => c'.quiet = true ∧ codeAny (model prog w) A c' R s') (fun e s' => R (.error e) s') s := by
  show wpAny _ _ (do let old ← Builtin.List.listItems (.ref S); Builtin.List.listUpdate (.ref S) (fun _ => #[]); letGo old.toList.reverse; Builtin.List.listExtendWith (.ref S) (.bytes b t) .none) _ _ s
  refine wpAny_bind ?_
  unfold Builtin.List.listItems
  refine wpAny_bind (wpAny_seqItems hS rfl (wpAny_pure ?_))
  show wpAny _ _ (updateSeq S (fun _ => #[]) >>= fun _ => letGo (#[] : Array Value).toList.reverse >>= fun _ => Builtin.List.listExtendWith (.ref S) (.bytes b t) .none) _ _ s
  refine wpAny_bind (wpAny_updateSeq hS rfl ?_)
  have hS₂ := Heap.get?_update_self (Obj.mapSeq (fun _ => (#[] : Array Value))) hS rfl
  refine wpAny_bind (wpAny_letGo ?_)
  exact lb_extend hh S .none _ hS₂ hn fun h' tk acc' c' hk hS' hacc => hR h' tk acc' c' (fun a o ha e => hk a o ha ((Heap.get?_update_other _ _ (Ne.symm ha)).trans e)) hS' hacc
theorem list_of_bytes {Q : Value → Shared → Prop} {h₀ : Heap} {L : Addr} {m : Str → Option Value} {news : List (Addr × Obj)} (hh : A.handled = none) (F : Fr h₀ L s.heap m) (N : News h₀ L s.heap news) (hn : b.size ≤ sizeLine)
    (h : ∀ (D : Addr) c h' tk (vs : List Value), Fr h₀ L h' m → News h₀ L h' ((D, listOf vs.toArray c) :: news) → (∀ q ∈ news, q.1 < D) → IntsAre vs (KBw.bInts b) → Q (.ref D) { s with heap := h', toks := tk }) :
    wpAny (model prog w) A (call (.type "list") [.bytes b t]) Q E s := by
  refine callType_codes (Q₁ := fun obj s₁ => obj = .ref s.heap.objs.size ∧ s₁ = { s with heap := s.heap.push { cls := .type "list", data := .seq #[] } }) PySem.F.called_list (PySem.F.typeCall_list_1 _) PySem.F.entry_list_init
    (code_list_new _ ⟨rfl, rfl⟩) fun obj s₁ h₁ => ?_
  refine cps fun gG kG => ?_
  obtain ⟨rfl, rfl⟩ := h₁
  refine kG ?_
  clear kG gG
  have hS : (s.heap.push { cls := .type "list", data := .seq #[] }).get? s.heap.objs.size = some { cls := .type "list", data := .seq #[] } := Heap.get?_push_size _ rfl
  refine ⟨⟨_, hS, rfl⟩, PySem.F.args_list_init_2 _ _, lb_init (A := A.in1) hh _ hS hn (fun h' tk acc' c' hk hS' hacc => ?_)⟩
  have hk' : ∀ a o, s.heap.get? a = some o → h'.get? a = some o := fun a o e => hk a o (Nat.ne_of_lt (Heap.lt_size e)) (Heap.get?_push_of_some _ e)
  refine ⟨rfl, h _ c' h' tk acc'.toList (F.keeps hk') (news_pushed F N hk' (by first | (rw [Array.toArray_toList]; exact hS') | simpa using hS') rfl) (fun q hq => Heap.lt_size (N q hq).1) ?_⟩
  have hl : acc'.toList.length = (KBw.bInts b).length := by rw [Array.length_toList, KBw.ints_length]; exact hacc.1
  exact ints_of hl fun j v e => by
    refine cps fun gG kG => ?_
    obtain ⟨c, u, hc, hv⟩ := hacc.2 j v (by rw [← Array.getElem?_toList]; exact e)
    refine kG ?_
    clear kG gG
    exact ⟨(c.toNat : Int), u, KBw.ints_get hc, hv⟩
end
section
variable {M : Model} {A : Around} {E : Value → Shared → Prop} {s : Shared} {env : Env}
theorem withN_type1 {pos : Pos} {T : String} {e : Expr} {Q : Value → Shared → Prop} (h : wpN M A (eval e env) (fun v s₁ => wpAny M A (call (.type T) [v]) Q E s₁) E s)
    (he : starEach [e] env = [(false, eval e env)] := by rfl) :
    wpN M A (callWith pos (.type T) [] (backTo pos (starEach [e] env)) []) Q E s := by
  rw [he]
  show wpN M A (callWith pos (.type T) [] [(false, eval e env)] []) Q E s
  unfold callWith
  refine wpN_bind (wpN_holding ?_)
  unfold evalArgs
  show wpN M A (spliced [(false, eval e env)] >>= _) _ E s
  refine wpN_bind ?_
  rw [spliced]
  refine wpN_bind (wpN_mono h (fun v s₁ h₁ => wpN_any ?_) fun _ _ x => x)
  simp only [Bool.false_eq_true, if_false]
  refine wpAny_bind (wpAny_pure (wpAny_bind (wpAny_holding (spliced_nil (wpAny_pure ?_)))))
  refine wpN_any (wpAny_bind (wpAny_pure (wpAny_holding ?_)))
  refine wpAny_bind (wpAny_pure (wpAny_bind (wpAny_pure (wpAny_pure ?_))))
  refine wpN_bindA (wpAny_standAt ?_)
  simp only [List.any_cons, List.any_nil, Bool.or_false]
  refine wpN_bindA (wpAny_pure ?_)
  exact wpN_any (wpAny_bind (wpAny_mono h₁ (fun r s₂ hr => wpAny_bind (wpAny_holding (wpAny_point (wpAny_pure hr)))) fun _ _ x => x))
end
end
section
open Sem (wp)
namespace FB
theorem sl_len : Slot "bytearray" "__len__" "bytearray.__len__" := .of (owner := "bytearray") (n := "__len__") (by rw [typeLookup_type, builtinLookup_eq_fast]; kernel_rfl) (by decide +kernel) (by decide +kernel) (by decide +kernel)
  (by first | exact .inl (by decide +kernel) | exact .inr (by decide +kernel)) (by rw [isSubtype_type]; kernel_rfl)
theorem en_len : entryFor table "bytearray.__len__" = some Builtin.«bytearray.__len__» := entryFor_of_tree (by kernel_rfl)
theorem ok_len (a : Value) : argsOk "bytearray.__len__" ⟨[a], []⟩ := by unfold argsOk; kernel_rfl
theorem ba_dunder : typeLookup (.type "bytearray") "__bytes__" = pure none := by rw [typeLookup_type, builtinLookup_eq_fast]; kernel_rfl
theorem ba_index : typeLookup (.type "bytearray") "__index__" = pure none := by rw [typeLookup_type, builtinLookup_eq_fast]; kernel_rfl
theorem ba_buf : typeLookup (.type "bytearray") "__buffer__" = pure (some (.builtin "bytearray.__buffer__")) := by rw [typeLookup_type, builtinLookup_eq_fast]; kernel_rfl
theorem bw2 : "bytearray.__buffer__".endsWith ("." ++ "__buffer__") = true := by decide +kernel
theorem br2 : "bytearray.__buffer__".dropRight ("__buffer__".length + 1) = "bytearray" := by decide +kernel
end FB
section
variable {prog : Program} {w : World} {M : Model} {A : Around} {E : Value → Shared → Prop} {s : Shared} {h₀ : Heap} {L : Addr} {m : Str → Option Value} {news : List (Addr × Obj)}
theorem len_ba {b : Addr} {arr : Array UInt8} {Q : Value → Shared → Prop} (hb : s.heap.get? b = some (baObj arr)) (hz : arr.size < 2 ^ 40) (h : Q (.int arr.size (s.toks + 1)) { s with toks := s.toks + 1 + 1 }) :
    wpAny (model prog w) A (call (.builtin "len") [.ref b]) Q E s := by
  have hT : s.TypeIs (.ref b) "bytearray" := ⟨_, hb, rfl⟩
  refine Calls.call_function_entry kind_len plain_len entry_len (args_len1 _) ?_
  unfold Builtin.«len»
  refine wpAny_bind (m := oneArg "len" _) (wpAny_pure ?_)
  refine wpAny_bind (m := callSpecial? (.ref b) (Str.ofString "__len__")) (wpAny_callSpecial?_slot (name := Str.ofString "__len__") hT FB.sl_len (wpAny_call_entry FB.sl_len hT FB.en_len ?_ (FB.ok_len _)))
  unfold Builtin.«bytearray.__len__»
  refine wpAny_bind (wpAny_of_eq (a := (.ref b, [])) rfl ?_)
  dsimp only
  refine wpAny_bind (bufferSelf hb rfl ?_)
  refine wpAny_bind (m := mkInt arr.size) (wpAny_mkInt (wpAny_pure ⟨_, rfl, ?_⟩))
  show wpAny _ _ _ _ _ { s with toks := s.toks + 1 }
  refine wpAny_bind (wpAny_holding (wpAny_pure ?_))
  refine wpAny_bind (wpAny_letGo ?_)
  show wpAny _ _ (if (arr.size : Int) < 0 then _ else _) _ _ _
  rw [if_neg (by lia)]
  show wpAny _ _ (if (arr.size : Int) ≥ 2 ^ 63 then _ else _) _ _ _
  rw [if_neg (by lia)]
  exact wpAny_bind (wpAny_mkInt (wpAny_pure ⟨_, rfl, h⟩))
theorem ba_buffer {b : Addr} {arr : Array UInt8} {Q : Option (Array UInt8) → Shared → Prop} {id : String} {fl : Bool} (hb : s.heap.get? b = some (baObj arr)) (h : Q (some arr) s) : wpAny (model prog w) A (Builtin.Bytes.buffer? id (.ref b) fl) Q E s := by
  have hT : s.TypeIs (.ref b) "bytearray" := ⟨_, hb, rfl⟩
  have own : ∀ {Q : Bool → Shared → Prop}, Q true s → wpAny (model prog w) A (Builtin.Bytes.slotIsOwn (.ref b) "__buffer__") Q E s := fun h => by
    unfold Builtin.Bytes.slotIsOwn
    refine wpAny_bind (wpAny_specialOf hT FB.ba_buf ?_)
    dsimp only
    rw [if_neg (by rw [FB.bw2]; decide), FB.br2]
    exact wpAny_isInstance hT FB.sub_self h
  unfold Builtin.Bytes.buffer?
  refine wpAny_bind (wpAny_specialOf hT FB.ba_buf ?_)
  dsimp only
  refine wpAny_bind (own ?_)
  rw [if_neg (by decide)]
  refine wpAny_bind (wpAny_specialOf hT FB.ba_buf ?_)
  refine wpAny_bind (m := Builtin.Bytes.ownRelease (.ref b)) (own_rel hb rfl ?_)
  show wpAny _ _ (if false = true then _ else _) _ _ _
  rw [if_neg Bool.false_ne_true]
  exact wpAny_bind (bufferSelf hb rfl (wpAny_pure h))
theorem asStr_ba {b : Addr} {arr : Array UInt8} {Q : Option Str → Shared → Prop} (hb : s.heap.get? b = some (baObj arr)) (h : Q none s) : wpAny (model prog w) A (asStr? (.ref b)) Q E s := by
  unfold asStr?
  exact wpAny_bind (wpAny_load hb (wpAny_pure h))
theorem bytes_of_ba {b : Addr} {arr : Array UInt8} {Q : Value → Shared → Prop} (hb : s.heap.get? b = some (baObj arr)) (hz : arr.size ≤ sizeLine) (h : Q (.bytes arr s.toks) { s with toks := s.toks + 1 }) : wpAny (model prog w) A (call (.type "bytes") [.ref b]) Q E s := by
  refine callType_codes (Q₁ := fun obj s₁ => s₁.TypeIs obj "bytes" ∧ Q obj s₁) F.bm_called (F.bm_typeCall _) F.entry_object_init ?_ fun obj s₁ h₁ =>
    ⟨h₁.1, F.args_object_init_2 obj _, object_init_meets F.bm_called.init.lookup F.bm_called.made (by decide) prog w A.in1 _ s₁ ⟨h₁.1, rfl, h₁.2⟩⟩
  refine codeAny_of_tree ?_
  show wpAny _ A.in1.in1 (do checkBuiltinCall "bytes.__new__" ⟨[.type "bytes", .ref b], []⟩; again (.builtin "bytes.__new__" ⟨[.type "bytes", .ref b], []⟩)) _ _ s
  refine wpAny_bind (wpAny_of_eq (F.bm_newCall _) (wpAny_pure ⟨plainId_quiet F.bm_plain _, codeAny_builtin F.bm_entry ?_⟩))
  rw [Around.under_plainId F.bm_plain _]
  have hT : s.TypeIs (.ref b) "bytearray" := ⟨_, hb, rfl⟩
  unfold Builtin.«bytes.__new__»
  refine wpAny_bind (wpAny_of_eq (a := true) rfl ?_)
  refine bm_if_false rfl ?_
  refine wpAny_bind (wpAny_of_eq F.bm_sub ?_)
  refine bm_if_false rfl ?_
  refine wpAny_bind (wpAny_of_eq (F.bm_bind _) ?_)
  refine wpAny_bind (wpAny_of_eq (a := ()) rfl ?_)
  refine wpAny_bind (wpAny_of_eq (a := ()) rfl ?_)
  refine bm_if_false rfl ?_
  refine wpAny_bind (wpAny_specialOf hT FB.ba_dunder ?_)
  dsimp only
  refine wpAny_bind (wpAny_bind (m := asStr? (.ref b)) (asStr_ba hb (wpAny_pure ?_)))
  refine bm_if_false rfl ?_
  refine wpAny_bind (wpAny_specialOf hT FB.ba_index ?_)
  refine bm_if_true rfl ?_
  refine wpAny_bind ?_
  refine ba_buffer hb ?_
  refine wpAny_bind (wpAny_rule (wpAny_bind (wpAny_mkBytes ?_ hz)))
  exact bm_if_true rfl (wpAny_pure ⟨PySem.W.typeIs_bytes _ _ _, h⟩)
theorem len_baN {b : Addr} {arr : Array UInt8} {Q : Value → Shared → Prop} (N : News h₀ L s.heap news) (hm : (b, baObj arr) ∈ news) (hz : arr.size < 2 ^ 40) (h : Q (.int arr.size (s.toks + 1)) { s with toks := s.toks + 1 + 1 }) :
    wpAny (model prog w) A (call (.builtin "len") [.ref b]) Q E s := len_ba (N _ hm).1 hz h
theorem bytes_of_baN {b : Addr} {arr : Array UInt8} {Q : Value → Shared → Prop} (N : News h₀ L s.heap news) (hm : (b, baObj arr) ∈ news) (hz : arr.size ≤ sizeLine) (h : Q (.bytes arr s.toks) { s with toks := s.toks + 1 }) :
    wpAny (model prog w) A (call (.type "bytes") [.ref b]) Q E s := bytes_of_ba (N _ hm).1 hz h
end
end
section
open Sem (wp)
namespace FB
theorem sl_set : Slot "bytearray" "__setitem__" "bytearray.__setitem__" := .of (owner := "bytearray") (n := "__setitem__") (by rw [typeLookup_type, builtinLookup_eq_fast]; kernel_rfl) (by decide +kernel) (by decide +kernel) (by decide +kernel)
  (by first | exact .inl (by decide +kernel) | exact .inr (by decide +kernel)) (by rw [isSubtype_type]; kernel_rfl)
theorem en_set : entryFor table "bytearray.__setitem__" = some Builtin.«bytearray.__setitem__» := entryFor_of_tree (by kernel_rfl)
theorem ok_set (a b c : Value) : argsOk "bytearray.__setitem__" ⟨[a, b, c], []⟩ := by unfold argsOk; kernel_rfl
theorem by_index : typeLookup (.type "bytes") "__index__" = pure none := by rw [typeLookup_type, builtinLookup_eq_fast]; kernel_rfl
theorem by_int : typeLookup (.type "bytes") "__int__" = pure none := by rw [typeLookup_type, builtinLookup_eq_fast]; kernel_rfl
theorem by_float : typeLookup (.type "bytes") "__float__" = pure none := by rw [typeLookup_type, builtinLookup_eq_fast]; kernel_rfl
theorem by_complex : isSubtype (.type "bytes") (.type "complex") = pure false := by rw [isSubtype_type]; kernel_rfl
theorem by_ba : isSubtype (.type "bytes") (.type "bytearray") = pure false := by rw [isSubtype_type]; kernel_rfl
end FB
section
variable {prog : Program} {w : World} {M : Model} {A : Around} {E : Value → Shared → Prop} {s : Shared} {h₀ : Heap} {L : Addr} {m : Str → Option Value} {news : List (Addr × Obj)}
theorem parts_int {a : Addr} {lo hi : Int} {tl th : Tok} {Q : Value × Value × Value → Shared → Prop} (ha : s.heap.IsSliceOf a (.int lo tl) (.int hi th) .none) (h : Q (rawInt lo, rawInt hi, .none) s) :
    wpAny (model prog w) A (Builtin.Bytes.sliceParts (.ref a)) Q E s := by
  refine cps fun gG kG => ?_
  obtain ⟨o, ho, hc, hd⟩ := ha
  refine kG ?_
  clear kG gG
  unfold Builtin.Bytes.sliceParts
  refine wpAny_bind (wpAny_field (x := .none) ho hd rfl ?_)
  kby_none
  refine wpAny_ite (KBy.ite_no (show ¬ ((Value.none == rawInt 0) = true) from Bool.false_ne_true) ?_)
  refine wpAny_bind (wpAny_field (x := .int lo tl) ho hd rfl ?_)
  kby_int
  refine wpAny_bind (wpAny_field (x := .int hi th) ho hd rfl ?_)
  kby_int
  exact wpAny_pure h
theorem ba_init1 (hg : A.guards = some []) {b : Addr} {arr src : Array UInt8} {t : Tok} (hz : src.size ≤ sizeLine) (hb : s.heap.get? b = some (baObj arr)) {Q : Fin → Shared → Prop} (h : Q (.done (.ret .none)) { s with heap := (s.heap.update b (Obj.mapBytearray fun _ => #[])).update b (Obj.mapBytearray fun _ => src) }) :
    wpN (model prog w) A (Builtin.«bytearray.__init__» ⟨[.ref b, .bytes src t], []⟩) Q E s := by
  have hT : ∀ s : Shared, s.TypeIs (.bytes src t) "bytes" := fun s => PySem.W.typeIs_bytes _ _ _
  unfold Builtin.«bytearray.__init__»
  dsimp only
  refine wpN_bindA (own_rel hb rfl ?_)
  refine wpN_if_false rfl ?_
  refine wpN_bindA (wpAny_of_eq (FB.bd1 _) ?_)
  dsimp only
  refine wpN_bindA (wpAny_of_eq (a := ()) rfl ?_)
  refine wpN_bindA (wpAny_of_eq (a := ()) rfl ?_)
  refine wpN_bind (clearN hg hb ?_)
  refine wpN_if_false rfl ?_
  refine wpN_bindA (writeBa hb (by decide) ?_)
  have hb2 : (s.heap.update b (Obj.mapBytearray fun _ => #[])).get? b = some (baObj #[]) := Heap.get?_update_self _ hb rfl
  refine wpN_bindA (wpAny_of_eq (a := none) rfl ?_)
  refine wpN_if_false rfl ?_
  refine wpN_bindA (wpAny_of_eq (a := ()) rfl ?_)
  refine wpN_bindA (wpAny_specialOf (hT _) FB.by_index ?_)
  refine wpN_if_false rfl ?_
  refine wpN_bindA (bytes_buffer ?_)
  dsimp only
  refine wpN_bindA (wpAny_rule ?_)
  refine wpN_bindA (writeBa hb2 hz ?_)
  exact wpN_any (wpAny_pure h)
theorem ba_new1 (hg : A.guards = some []) (F : Fr h₀ L s.heap m) (N : News h₀ L s.heap news) {src : Array UInt8} {t : Tok} (hz : src.size ≤ sizeLine) {Q : Value → Shared → Prop}
    (h : ∀ b h', Fr h₀ L h' m → News h₀ L h' ((b, baObj src) :: news) → (∀ p ∈ news, p.1 < b) → Q (.ref b) { s with heap := h' }) :
    wpN (model prog w) A (call (.type "bytearray") [.bytes src t]) Q E s := by
  refine callTypeN (Q₁ := fun obj s₁ => obj = .ref s.heap.objs.size ∧ s₁ = { s with heap := s.heap.push (baObj #[]) }) FB.called (FB.tc1 _) FB.en_init (by decide +kernel) (code_ba_new (a := [.bytes src t]) (Nat.le_refl 1) ⟨rfl, rfl⟩) fun obj s₁ h₁ => ?_
  refine cps fun gG kG => ?_
  obtain ⟨rfl, rfl⟩ := h₁
  refine kG ?_
  clear kG gG
  have hb : (s.heap.push (baObj #[])).get? s.heap.objs.size = some (baObj #[]) := Heap.get?_push_at rfl rfl
  refine ⟨⟨_, hb, rfl⟩, FB.ok1 _ _, ba_init1 (by exact hg) hz hb ?_⟩
  have F1 := F.push (baObj #[])
  have N1 := N.push F (baObj #[])
  have lt : ∀ p ∈ news, p.1 < s.heap.objs.size := fun p hp => Heap.lt_size (N p hp).1
  have ne : ∀ p ∈ news, p.1 ≠ s.heap.objs.size := fun p hp => Nat.ne_of_lt (lt p hp)
  refine cps fun gG kG => ?_
  obtain ⟨F2, N2⟩ := updF_ledger (f := Obj.mapBytearray fun _ => #[]) (o' := baObj #[]) (UpdF.head ne) F1 N1 rfl rfl
  obtain ⟨F3, N3⟩ := updF_ledger (f := Obj.mapBytearray fun _ => src) (o' := baObj src) (UpdF.head ne) F2 N2 rfl rfl
  refine kG ?_
  clear kG gG
  exact ⟨rfl, h _ _ F3 N3 lt⟩
theorem ba_set (hg : A.guards = some []) {b a : Addr} {arr src : Array UInt8} {t tl th : Tok} {lo hi : Int} {g : Obj → List (Addr × Obj)} (F : Fr h₀ L s.heap m) (N : News h₀ L s.heap news) (U : UpdF b (baObj arr) news g) (ha : s.heap.IsSliceOf a (.int lo tl) (.int hi th) .none)
    (hN : (a, ({ cls := .type "slice", data := .fields #[.int lo tl, .int hi th, .none] } : Obj)) ∈ news)
    (h0 : 0 ≤ lo) (h1 : lo ≤ hi) (h2 : hi ≤ arr.size) (h3 : hi - lo = src.size) (hz : arr.size ≤ sizeLine) {Q : Value → Shared → Prop}
    (h : ∀ h', Fr h₀ L h' m → News h₀ L h' (g (baObj (arr.extract 0 lo.toNat ++ src ++ arr.extract hi.toNat arr.size))) → Q .none { s with heap := h' }) :
    wpN (model prog w) A (call (.builtin "bytearray.__setitem__") [.ref b, .ref a, .bytes src t]) Q E s := by
  have hb := (N _ (updF_mem U)).1
  have hT : s.TypeIs (.ref b) "bytearray" := ⟨_, hb, rfl⟩
  have hsl : s.TypeIs (.ref a) "slice" := ⟨_, (N _ hN).1, rfl⟩
  have hB : ∀ s : Shared, s.TypeIs (.bytes src t) "bytes" := fun s => PySem.W.typeIs_bytes _ _ _
  refine wpN_call (codeN_call_builtin FB.sl_set.plain (by decide +kernel) FB.en_set (FB.sl_set.check _ _ _ _ _ _ _ _ hT (FB.ok_set _ _ _) ?_))
  unfold Builtin.«bytearray.__setitem__»
  dsimp only
  refine wpN_if_false rfl ?_
  have sub : ∀ {Q : Option Int → Shared → Prop}, Q none s → wpAny (model prog w) A.in1 (Builtin.Bytes.subscript? (.ref a)) Q E s := fun h => by
    unfold Builtin.Bytes.subscript?
    exact wpAny_bind (wpAny_specialOf hsl slice_no_index (wpAny_pure h))
  refine wpN_bindA (sub ?_)
  dsimp only
  refine wpN_bindA (wpAny_typeOf hsl ?_)
  refine wpN_if_false rfl ?_
  refine wpN_bindA (parts_int ha ?_)
  refine wpN_if_false rfl ?_
  refine wpN_bindA (wpAny_isInstance (hB _) FB.by_ba ?_)
  refine wpN_if_true rfl ?_
  have num : ∀ {A : Around} {Q : Bool → Shared → Prop} {E : Value → Shared → Prop}, Q false s → wpAny (model prog w) A (do
      let has (name : Str) : Sem Bool := do return (← specialOf (.bytes src t) name).isSome
      has "__index__" <||> has "__int__" <||> has "__float__" <||> isInstance (.bytes src t) (.type "complex")) Q E s := fun h => by
    unfold orM
    refine wpAny_bind (wpAny_bind (wpAny_specialOf (hB _) FB.by_index (wpAny_pure ?_)))
    refine wpAny_bind (wpAny_bind (wpAny_specialOf (hB _) FB.by_int (wpAny_pure ?_)))
    refine wpAny_bind (wpAny_bind (wpAny_specialOf (hB _) FB.by_float (wpAny_pure ?_)))
    exact wpAny_isInstance (hB _) FB.by_complex h
  refine wpN_bindA (num ?_)
  refine wpN_bindA (wpAny_of_eq (a := none) rfl ?_)
  refine wpN_if_false rfl ?_
  refine wpN_bindA (wpAny_rule ?_)
  have hs1 : src.size ≤ arr.size := by lia
  refine wpN_bind (ba_new1 (by exact hg) F N (by lia) ?_)
  intro c h' F1 N1 lt
  have hb1 := (N1 _ (.tail _ (updF_mem U))).1
  have ha1 : h'.IsSliceOf a (.int lo tl) (.int hi th) .none := ⟨_, (N1 _ (.tail _ hN)).1, rfl, rfl⟩
  refine wpN_bindA (wpAny_holding (parts_int ha1 ?_))
  refine wpN_bindA (bufferSelf (N1 _ (.head _)).1 rfl ?_)
  refine wpN_bindA (bufferSelf hb1 rfl ?_)
  have e : sliceBounds (some lo) (some hi) none arr.size = (lo, hi, 1) := by
    have a1 : ¬ lo < 0 := by lia
    have a2 : ¬ hi < 0 := by lia
    simp only [sliceBounds, Option.getD_none, a1, a2, if_false, show (1 : Int) > 0 from by decide, if_true]
    rw [Int.min_eq_left (by lia), Int.min_eq_left (by lia), Int.max_eq_right h0, Int.max_eq_right (by lia)]
  refine wpN_bindA (wpAny_of_eq (a := (lo, hi, 1)) (by have q := sliceIndices_raw (some lo) (some hi) none arr.size (fun e => nomatch e); rw [e] at q; exact q) ?_)
  dsimp only
  have emax : max lo hi = hi := Int.max_eq_right h1
  refine wpN_if_true rfl ?_
  refine wpN_bindA (wpAny_rule ?_)
  rw [emax]
  refine wpN_if_false (by simp only [bne_iff_ne, ne_eq, decide_not, Bool.not_eq_false', decide_eq_true_eq]; lia) ?_
  refine wpN_bindA (writeBa hb1 ?_ ?_)
  · simp only [Array.size_append, Array.size_extract]; exact Nat.le_trans (Nat.le_of_eq (cut_size h0 h1 h2 (by rw [← h3, Int.add_comm, Int.sub_add_cancel]))) hz
  · have U1 : UpdF b (baObj arr) ((c, baObj src) :: news) (fun o => (c, baObj src) :: g o) := UpdF.tail (Ne.symm (Nat.ne_of_lt (lt _ (updF_mem U)))) U
    refine cps fun gG kG => ?_
    obtain ⟨F2, N2⟩ := updF_ledger (f := Obj.mapBytearray fun x => x.extract 0 lo.toNat ++ src ++ x.extract hi.toNat x.size) (o' := baObj (arr.extract 0 lo.toNat ++ src ++ arr.extract hi.toNat arr.size)) U1 F1 N1 rfl rfl
    refine kG ?_
    clear kG gG
    exact wpN_any (wpAny_pure (h _ F2 fun p hp => N2 p (.tail _ hp)))
theorem setItem_ba {b a : Addr} {arr : Array UInt8} {v : Value} {Q : Unit → Shared → Prop} (hb : s.heap.get? b = some (baObj arr))
    (h : wpN (model prog w) A (call (.builtin "bytearray.__setitem__") [.ref b, .ref a, v]) (fun _ => Q ()) E s) : wpN (model prog w) A (setItem (.ref b) (.ref a) v) Q E s := by
  have hT : s.TypeIs (.ref b) "bytearray" := ⟨_, hb, rfl⟩
  unfold setItem
  refine wpN_holding ?_
  refine wpN_bindA ?_
  unfold sequenceKey
  refine wpAny_bind (wpAny_typeOf hT ?_)
  dsimp only
  rw [if_pos (by decide +kernel)]
  refine wpAny_pure ?_
  unfold callSpecial?
  refine wpN_bind (wpN_bindA (wpAny_specialOf hT FB.sl_set.lookup ?_))
  dsimp only
  refine wpN_holding (wpN_bindA (wpAny_of_eq (FB.sl_set.bind _) ?_))
  exact wpN_bind (wpN_mono h (fun r s' hr => wpN_any (wpAny_pure (wpN_any (wpAny_pure hr)))) fun _ _ x => x)
theorem ba_patch {h : Heap} {gs : Array GenState} {dr : Drawn} {tk : Nat} {os : OsState} (hg : A.guards = some []) {b : Addr} {arr src : Array UInt8} {t tl th : Tok} {lo hi : Int} {g : Obj → List (Addr × Obj)} (F : Fr h₀ L h m) (N : News h₀ L h news) (U : UpdF b (baObj arr) news g)
    (h0 : 0 ≤ lo) (h1 : lo ≤ hi) (h2 : hi ≤ arr.size) (h3 : hi - lo = src.size) (hz : arr.size ≤ sizeLine) {Q : Unit → Shared → Prop}
    (hQ : ∀ h', Fr h₀ L h' m → News h₀ L h' (g (baObj (arr.extract 0 lo.toNat ++ src ++ arr.extract hi.toNat arr.size))) → Q () ⟨h', gs, dr, tk, os⟩) :
    wpN (model prog w) A (setItem (.ref b) (.ref h.objs.size) (.bytes src t)) Q E ⟨h.push { cls := .type "slice", data := .fields #[.int lo tl, .int hi th, .none] }, gs, dr, tk, os⟩ := by
  have F2 := F.push ({ cls := .type "slice", data := .fields #[.int lo tl, .int hi th, .none] } : Obj)
  have N2 := N.push F ({ cls := .type "slice", data := .fields #[.int lo tl, .int hi th, .none] } : Obj)
  have U2 : UpdF b (baObj arr) ((h.objs.size, ({ cls := .type "slice", data := .fields #[.int lo tl, .int hi th, .none] } : Obj)) :: news) (fun o => (h.objs.size, _) :: g o) :=
    UpdF.tail (Ne.symm (Nat.ne_of_lt (Heap.lt_size (N _ (updF_mem U)).1))) U
  refine setItem_ba (N2 _ (updF_mem U2)).1 ?_
  exact ba_set hg F2 N2 U2 (Heap.IsSliceOf.new _ _ _ _) (.head _) h0 h1 h2 h3 hz fun h' F' N' => hQ h' F' fun p hp => N' p (.tail _ hp)
end
section
variable {M : Model} {A : Around} {E : Value → Shared → Prop} {s : Shared} {env : Env}
theorem assignSliceN {o : Expr} {lo hi : Option Expr} {p pos' pos : Pos} {value : Expr} {Q : Flow → Shared → Prop}
    (h : wpAny M A (eval value env) (fun v s₁ => wpAny M A (eval o env) (fun ov s₂ => wpAny M A (eval (.Slice lo hi none p) env) (fun iv s₃ => wpN M A (setItem ov iv v) (fun _ => Q .next) E s₃) E s₂) E s₁) E s)
    (hs : swapsWithSole [.Subscript o (.Slice lo hi none p) pos'] value pos.line env = pure false := by rfl)
    (hw : swappedStores [.Subscript o (.Slice lo hi none p) pos'] value env = pure none := by rfl) :
    wpN M A (exec (.Assign [.Subscript o (.Slice lo hi none p) pos'] value pos) env) Q E s := by
  rw [exec_Assign]
  refine wpN_bindA (wpAny_standAt ?_)
  rw [hs]
  refine wpN_bindA (wpAny_pure ?_)
  refine wpN_if_false rfl ?_
  refine wpN_bindA (wpAny_mono h (fun v s₁ h₁ => ?_) fun _ _ x => x)
  rw [hw]
  refine wpN_bindA (wpAny_pure ?_)
  show wpN M A (do assign (.Subscript o (.Slice lo hi none p) pos') env v; pure .next) Q E s₁
  refine wpN_bind ?_
  show wpN M A (do
    let ov ← holding [v] (eval o env)
    let iv ← holding [v, ov] (eval (.Slice lo hi none p) env)
    standAt pos'
    holding [v, ov, iv] (setItem ov iv v)
    release [iv, v, ov] []) _ _ _
  refine wpN_bindA (wpAny_holding (wpAny_mono h₁ (fun ov s₂ h₂ => ?_) fun _ _ x => x))
  refine wpN_bindA (wpAny_holding (wpAny_mono h₂ (fun iv s₃ h₃ => ?_) fun _ _ x => x))
  refine wpN_bindA (wpAny_standAt ?_)
  exact wpN_bind (wpN_holding (wpN_mono h₃ (fun _ s₄ h₄ => wpN_any (wpAny_release (wpN_any (wpAny_pure h₄)))) fun _ _ x => x))
end
end
section
open Sem (wp)
section
variable {prog : Program} {w : World} {A : Around} {K : Frag} {C : Addr} {R : Result → Shared → Prop} {h : Heap} {g : Array GenState} {d : Drawn} {t : Nat} {os : OsState}
theorem codeN_call_builtin_at {s : Shared} {id : String} {args : Args} {b : Builtin} (hq : (Code.builtin id args).quiet = true) (hd : Builtin.Bytes.decodersThatHold.contains id = false) (hb : entryFor table id = some b)
    (h : wpAny (model prog w) A.in1 (checkBuiltinCall id args) (fun _ s₁ => wpN (model prog w) (A.under (.builtin id args)) (b args)
      (fun fin s' => match fin with | .done f => R (.ok f) s' | .again c' => c'.quiet = true ∧ holdsDec c' = false ∧ codeN (model prog w) A c' R s') (fun e s' => R (.error e) s') s₁)
      (fun e s' => R (.error e) s') s) : codeN (model prog w) A (.call (.builtin id) args) R s := by
  refine codeN_of_tree ?_
  show wpN _ A.in1 (do checkBuiltinCall id args; again (.builtin id args)) _ _ s
  exact wpN_bindA (wpAny_mono h (fun _ s₁ h₁ => wpN_any (wpAny_pure ⟨hq, hd, codeN_builtin hb h₁⟩)) fun _ _ h' => h')
theorem make_coreN {init : Value} (Y : Makes (model prog w) h C) (hi : Looks (model prog w) h (typeLookup (.ref C) "__init__") (some init))
    (hb : ∀ self, Looks (model prog w) h (bindSpecial init self) (init, [self])) (hne : (some init != some (Value.builtin "object.__init__")) = true)
    (hq : codeN (model prog w) (A.under (.builtin "type.__call__" ⟨[.ref C], []⟩)) (.call init ⟨[.ref (h.objs.size + 1)], []⟩) (InitBack (h.objs.size + 1) R) ⟨(h.push emptyDict).push (instObj C h.objs.size), g, d, t, os⟩) :
    codeN (model prog w) A (.call (.ref C) ⟨[], []⟩) R ⟨h, g, d, t, os⟩ := by
  have Y' := Y
  refine cps fun gG kG => ?_
  obtain ⟨⟨oc, od, cd, sl, hC, e1, e2, e4⟩, made, base, self, top, call, typ⟩ := Y
  refine kG ?_
  clear kG gG
  refine codeN_of_tree (wpN_any ?_)
  show wpAny _ _ (callAny (.ref C) _) _ _ _
  refine nd_load hC ?_
  show wpAny _ _ (callAny.viaDunder (.ref C) _) _ _ _
  unfold callAny.viaDunder
  refine wpAny_bind (call.at ?_)
  dsimp only
  rw [tc_bind]
  refine wpAny_bind (wpAny_pure (wpAny_bind (wpAny_pure ?_)))
  refine wpAny_pure (a := Fin.again (.call (.builtin "type.__call__") ⟨[.ref C], []⟩)) ⟨rfl, rfl, ?_⟩
  refine codeN_call_builtin_at (Code.quiet_builtin _ (by decide +kernel)) (by decide +kernel) entry_typeCall (check_slot tc_kind tc_split typ (tc_args _ _ _) ?_)
  unfold Builtin.«type.__call__»
  have hm : Looks (model prog w) h (mroOf (.ref C)) cd.mro := ((Looks.ld (part := none) hC).andThen .now).andThen .now
  dsimp only
  refine wpN_if_false rfl ?_
  refine wpN_bindA (hm.at ?_)
  refine wpN_if_false (by rw [e4]; rfl) ?_
  refine wpN_bindA (made.at ?_)
  dsimp only
  refine wpN_bindA (wpAny_pure ?_)
  refine wpN_bindA (wpAny_holding (wpAny_call (new_K Y' hi (.inl hne) ?_)))
  have k : ∀ b o, h.get? b = some o → ((h.push emptyDict).push (instObj C h.objs.size)).get? b = some o := fun b o e => Heap.get?_push_of_some _ (Heap.get?_push_of_some _ e)
  have hx : ((h.push emptyDict).push (instObj C h.objs.size)).get? (h.objs.size + 1) = some (instObj C h.objs.size) := by heap_get
  have t1 : Looks (model prog w) ((h.push emptyDict).push (instObj C h.objs.size)) (typeOf (.ref (h.objs.size + 1))) (.ref C) := (Looks.ld hx).andThen .now
  have s1 := self.keeps k
  have i1 := hi.keeps k
  have b1 := (hb (.ref (h.objs.size + 1))).keeps k
  refine wpN_bindA ?_
  unfold isInstance
  repeat lk
  refine wpN_if_false rfl ?_
  refine wpN_bind (wpN_holding ?_)
  unfold callSpecial?
  refine wpN_bindA ?_
  unfold specialOf
  repeat lk
  refine wpN_holding (wpN_bindA (b1.at ?_))
  refine wpN_bind (wpN_call (codeN_mono hq fun r s' z => ?_))
  rcases r with e | (v | _ | _ | _) <;> first | exact z | exact z.elim | skip
  refine cps fun gG kG => ?_
  obtain ⟨rfl, z⟩ := z
  refine kG ?_
  clear kG gG
  refine wpN_any (wpAny_pure ?_)
  exact wpN_if_false rfl (wpN_any (wpAny_pure z))
theorem makeN {L : Addr} {h₀ : Heap} {m : Str → Option Value} {news : List (Addr × Obj)} {s : Shared} {fI : Addr} {Q E : Value → Shared → Prop} (F : Fr h₀ L s.heap m) (N : News h₀ L s.heap news) (X : K.In h₀) (hm : makesIn K C = true)
    (hi : findIn K (.ref C) "__init__" = some (some (.ref fI))) (hf : typeIn K (.ref fI) = some (.type "function"))
    (h : ∀ x dx h', Fr h₀ L h' m → News h₀ L h' ((x, instObj C dx) :: (dx, dictOf [] 0) :: news) → (∀ p ∈ news, p.1 < dx) → dx < x →
      codeN (model prog w) (A.under (.builtin "type.__call__" ⟨[.ref C], []⟩)) (.call (.ref fI) ⟨[.ref x], []⟩) (InitBack x fun r s' => match r with | .ok (.ret v) => Q v s' | .ok _ => False | .error e => E e s') { s with heap := h' }) :
    wpN (model prog w) A (call (.ref C) []) Q E s := by
  refine wpN_call ?_
  refine cps fun gG kG => ?_
  obtain ⟨hh, g, d, t, os⟩ := s
  refine kG ?_
  clear kG gG
  have X' := X.keeps F.keep
  refine make_coreN (makes_of X' hm) (looks_findIn X' hi) (fun self => bind_fn X' self hf) rfl (h _ hh.objs.size _ ((F.push _).push _) ?_ (fun p hp => Heap.lt_size (N p hp).1) (Nat.lt_succ_self _))
  have := (N.push F emptyDict).push (F.push _) (instObj C hh.objs.size)
  rwa [Heap.size_push] at this
theorem withN_cls0 {L : Addr} {h₀ : Heap} {m : Str → Option Value} {s : Shared} {Q E : Value → Shared → Prop} {env : Env} {pos : Pos} (F : Fr h₀ L s.heap m) (X : K.In h₀) (hm : makesIn K C = true)
    (h : wpN (model prog w) A (call (.ref C) []) Q E s) : wpN (model prog w) A (callWith pos (.ref C) [] (backTo pos (starEach [] env)) []) Q E s := by
  show wpN _ A (callWith pos (.ref C) [] [] []) Q E s
  refine cps fun gG kG => ?_
  obtain ⟨hh, g, d, t, os⟩ := s
  have Y := makes_of (M := model prog w) (X.keeps F.keep) hm
  obtain ⟨⟨oc, od, cd, sl, hC, e1, e2, e4⟩, made, base, self, top, call, typ⟩ := Y
  refine kG ?_
  clear kG gG
  unfold callWith
  refine wpN_bindA (wpAny_holding (PyProof.Rows.evalArgs_none (wpN_bindA (wpAny_standAt ?_))))
  have tail : ∀ {t : Sem Value} {s₁ : Shared}, wpN (model prog w) A t Q E s₁ → wpN (model prog w) A (t >>= fun r => holding [r] point >>= fun _ => pure r) Q E s₁ :=
    fun ht => wpN_bind (wpN_mono ht (fun r s₂ hr => wpN_bindA (wpAny_holding (wpAny_point (wpN_any (wpAny_pure hr))))) fun _ _ x => x)
  simp only [List.any_nil, Bool.or_false]
  refine wpN_bindA (m := keeperOf (.ref C)) ?_
  unfold keeperOf
  refine wpAny_bind (wpAny_load hC ?_)
  dsimp only
  refine wpAny_bind (call.at ?_)
  rw [if_pos (by decide)]
  refine wpAny_pure ?_
  exact tail h
end
end
section
open Sem (wp)
section
variable {h₀ h h' : Heap} {L I : Addr} {m : Str → Option Value} {o : Obj} {news : List (Addr × Obj)}
theorem led_but (F : Fr h₀ L h m) (N : News h₀ L h ((I, o) :: news)) (hne : ∀ p ∈ news, p.1 ≠ I) (hk : ∀ b o, b ≠ I → h.get? b = some o → h'.get? b = some o) : Fr h₀ L h' m ∧ News h₀ L h' news := by
  have n0 := N _ (.head _)
  refine ⟨⟨F.ns.at' fun o e => hk L o (Ne.symm n0.2.1) e, fun b o e => hk b o (fun q => ?_) (F.keep b o e), F.above⟩, fun p hp => ⟨hk _ _ (hne p hp) (N p (.tail _ hp)).1, (N p (.tail _ hp)).2⟩⟩
  have := n0.2.2
  rw [show I = b from q.symm] at this
  rw [this] at e; cases e
end
section
variable {prog : Program} {w : World} {A : Around} {E : Value → Shared → Prop} {s : Shared} {env : Env}
theorem wpN_runOwn {c : Code} {Q : Flow → Shared → Prop} (hd : holdsDec c = false)
    (hc : codeN (model prog w) A c (fun r s' => match r with | .ok f => Q f s' | .error e => cameBackBy (model prog w) A env E e s') s) :
    wpN (model prog w) A (runOwn c env) Q E s := by
  unfold runOwn
  exact wpN_onRaise (wpN_run (h := none) hd hc (by intro x; cases x))
theorem forN {iter : Expr} {target : Expr} {body : List Stmt} {pos : Pos} {Q : Flow → Shared → Prop}
    (h : wpAny (model prog w) A (eval iter env) (fun x s₁ => wpAny (model prog w) A (pyIter x) (fun it s₂ =>
      codeN (model prog w) A (.forLoop target it body [] env) (fun r s' => match r with | .ok f => Q f s' | .error e => cameBackBy (model prog w) A env E e s') s₂) E s₁) E s)
    (hf : ∀ x, foldedSetIterable iter env x = pure x := by intro _; rfl) : wpN (model prog w) A (exec (.For target iter body [] pos) env) Q E s := by
  rw [exec_For]
  refine wpN_bindA (wpAny_standAt (wpN_bindA (wpAny_mono h (fun x s₁ h₁ => ?_) fun _ _ x => x)))
  refine wpN_bindA (wpAny_of_eq (hf x) (wpN_bindA (wpAny_standAt (wpN_bindA (wpAny_holding (wpAny_mono h₁ (fun it s₂ h₂ => ?_) fun _ _ x => x))))))
  exact wpN_runOwn rfl h₂
theorem turnN {R : Result → Shared → Prop} {target : Expr} {it : Value} {body : List Stmt}
    (h : wpAny (model prog w) A (pyNext it) (fun r s₁ => match r with
      | none => R (.ok .next) s₁
      | some v => wpAny (model prog w) A (letOwnedTupleGo target it v) (fun _ s₀ => wpAny (model prog w) A (assign target env v) (fun _ s₂ => wpN (model prog w) A (execs body env) (fun f s₃ => match f with
          | .next => codeN (model prog w) A (.forLoop target it body [] env) R s₃
          | _ => False) (notedBy (model prog w) A env fun e s' => R (.error e) s') s₂) (notedBy (model prog w) A env fun e s' => R (.error e) s') s₀) (notedBy (model prog w) A env fun e s' => R (.error e) s') s₁) (notedBy (model prog w) A env fun e s' => R (.error e) s') s) : codeN (model prog w) A (.forLoop target it body [] env) R s := by
  refine codeN_of_tree ?_
  show wpN _ (A.under _) ((forTurn target it body [] env).onRaise (fun x => do noteFrame x env; theTreesLotGoes x)) _ _ s
  rw [Around.under_of_weight (by rfl)]
  refine wpN_onRaise (wpN_mono (E := notedBy (model prog w) A env fun e s' => R (.error e) s') ?_ (fun _ _ q => q) fun _ _ hx => wpAny_bind (wpAny_mono hx (fun _ _ e => wpAny_theTreesLotGoes e) fun _ _ e => e))
  simp only [forTurn]
  refine wpN_bindA (wpAny_standAt (wpN_bindA (wpAny_onRaise (wpAny_mono h (fun r s₁ h₁ => ?_) fun _ _ h' => wpAny_standAt h'))))
  cases r with
  | none => exact wpN_any (wpAny_pure ⟨rfl, rfl, codeN_any (codeAny_block (wpAny_execs_nil h₁))⟩)
  | some v =>
    refine wpN_bindA (wpAny_mono h₁ (fun _ s₀ h₀ => wpN_bindA (wpAny_mono h₀ (fun _ s₂ h₂ => wpN_bind (wpN_mono h₂ (fun f s₃ h₃ => ?_) fun _ _ h' => h')) fun _ _ h' => h')) fun _ _ h' => h')
    cases f with
    | next => exact wpN_any (wpAny_pure ⟨rfl, rfl, h₃⟩)
    | _ => exact h₃.elim
theorem loopListN {h₀ : Heap} {L I l : Addr} {target : Expr} {body : List Stmt} {Q : Flow → Shared → Prop} {vs : List Value} {nn : Nat}
    (J : Nat → (Str → Option Value) → List (Addr × Obj) → Prop) (hh : A.handled = none) (hE : PassesOwn (model prog w) A env E)
    (hgo : ∀ (I : Addr) v s' i (Q' : Unit → Shared → Prop) (E' : Value → Shared → Prop), v ∈ vs → s'.heap.IsListIter I l i → Q' () s' → wpAny (model prog w) A (letOwnedTupleGo target (.ref I) v) Q' E' s')
    (turn : ∀ (I : Addr) i v h tk m' news' o, vs[i]? = some v → J i m' news' → Fr h₀ L h m' → News h₀ L h ((I, o) :: news') → (l, listOf vs.toArray nn) ∈ news' → (∀ p ∈ news', p.1 ≠ I) →
      wpAny (model prog w) A (assign target env v) (fun _ s₂ => wpN (model prog w) A (execs body env) (fun f s₃ => match f with
        | .next => ∃ h₃ tk₃ m₃ news₃, s₃ = { s with heap := h₃, toks := tk₃ } ∧ Fr h₀ L h₃ m₃ ∧ News h₀ L h₃ ((I, o) :: news₃) ∧ (l, listOf vs.toArray nn) ∈ news₃ ∧ (∀ p ∈ news₃, p.1 ≠ I) ∧ J (i + 1) m₃ news₃
        | _ => False) E s₂) E { s with heap := h, toks := tk })
    (fin : ∀ h tk m' news', J vs.length m' news' → Fr h₀ L h m' → News h₀ L h news' → Q .next { s with heap := h, toks := tk }) :
    ∀ (k i : Nat) (h : Heap) (tk : Nat) (m : Str → Option Value) (news : List (Addr × Obj)) (o : Obj), i + k = vs.length → J i m news → Fr h₀ L h m → News h₀ L h ((I, o) :: news) → o.cls = .type "list_iterator" → o.data = .fields #[.ref l, .int i 0] → (l, listOf vs.toArray nn) ∈ news → (∀ p ∈ news, p.1 ≠ I) →
      codeN (model prog w) A (.forLoop target (.ref I) body [] env) (fun r s' => match r with | .ok f => Q f s' | .error e => cameBackBy (model prog w) A env E e s') { s with heap := h, toks := tk } := by
  intro k
  induction k with
  | zero =>
    intro i h tk m news o hk hJ F N hc hd hl hne
    have hlist : h.IsList l vs.toArray := ⟨_, (N _ (.tail _ hl)).1, rfl, nn, rfl⟩
    refine turnN (wpAny_pyNext_list_end hh ⟨o, (N _ (.head _)).1, hc, hd⟩ hlist (by rw [List.getElem?_toArray]; exact List.getElem?_eq_none (by omega)) ?_)
    intro h' hx
    refine cps fun gG kG => ?_
    obtain ⟨F', N'⟩ := led_but F N hne (fun b o hb e => hx b o hb e)
    refine kG ?_
    clear kG gG
    exact fin h' tk m news (by rw [← hk]; exact hJ) F' N'
  | succ k ih =>
    intro i h tk m news o hk hJ F N hc hd hl hne
    have hlist : h.IsList l vs.toArray := ⟨_, (N _ (.tail _ hl)).1, rfl, nn, rfl⟩
    have hi : i < vs.length := by omega
    refine turnN (wpAny_pyNext_list_item ⟨o, (N _ (.head _)).1, hc, hd⟩ hlist (x := vs[i]) (by rw [List.getElem?_toArray]; exact List.getElem?_eq_getElem hi) ?_)
    intro h' hit hx
    refine cps fun gG kG => ?_
    obtain ⟨F', N'⟩ := led_but F N hne (fun b o hb e => (hx.2 b hb).trans e)
    obtain ⟨o', ho', hc', hd'⟩ := id hit
    refine kG ?_
    clear kG gG
    have NI : News h₀ L h' ((I, o') :: news) := fun p hp => by
      rcases List.mem_cons.mp hp with rfl | hp
      · exact ⟨ho', (N _ (.head _)).2⟩
      · exact N' p hp
    refine hgo _ _ _ _ _ _ (List.getElem_mem hi) hit ?_
    refine wpAny_mono (turn I i vs[i] h' tk m news o' (List.getElem?_eq_getElem hi) hJ F' NI hl hne) (fun _ s₂ h₂ => ?_) hE
    refine wpN_mono h₂ (fun f s₃ h₃ => ?_) hE
    cases f with
    | next =>
      refine cps fun gG kG => ?_
      obtain ⟨h₃', tk₃, m₃, news₃, rfl, F₃, N₃, hl₃, hne₃, hJ₃⟩ := h₃
      refine kG ?_
      clear kG gG
      exact ih (i + 1) h₃' tk₃ m₃ news₃ o' (by omega) hJ₃ F₃ N₃ hc' hd' hl₃ hne₃
    | _ => exact h₃.elim
end
end
section
open Sem (wp)
section
variable {M : Model} {A : Around} {E : Value → Shared → Prop} {s : Shared} {env : Env}
theorem assignTupN {elts k tpos value pos} {names : List Str} {Q : Flow → Shared → Prop}
    (h : wpN M A (eval value env) (fun v s₁ => wpAny M A (unpackItems v names.length none) (fun items s₂ =>
      wpAny M A (assignInOrder (names.reverse.map fun n => bindName env n) items.reverse) (fun _ => Q .next) E s₂) E s₁) E s)
    (hs : swapsWithSole [.Tuple elts k tpos] value pos.line env = pure false := by rfl)
    (hw : swappedStores [.Tuple elts k tpos] value env = pure (some names) := by rfl) :
    wpN M A (exec (.Assign [.Tuple elts k tpos] value pos) env) Q E s := by
  rw [exec_Assign]
  refine wpN_bindA (wpAny_standAt ?_)
  rw [hs]
  refine wpN_bindA (wpAny_pure ?_)
  refine wpN_if_false rfl ?_
  refine wpN_bind (wpN_mono h (fun v s₁ h₁ => ?_) fun _ _ x => x)
  rw [hw]
  refine wpN_bindA (wpAny_pure ?_)
  refine wpN_any ?_
  show wpAny M A (do rule "assign.swapped-stores"; let items ← unpackItems v names.length none; assignInOrder (names.reverse.map fun n => bindName env n) items.reverse; pure .next) Q E s₁
  exact wpAny_bind (wpAny_rule (wpAny_bind (wpAny_mono h₁ (fun items s₂ h₂ => wpAny_bind (wpAny_mono h₂ (fun _ _ x => wpAny_pure x) fun _ _ x => x)) fun _ _ x => x)))
theorem tuple2N {a b : Expr} {k : Nat} {pos : Pos} {Q : Value → Shared → Prop}
    (h : wpAny M A (eval a env) (fun v s₁ => wpN M A (eval b env) (fun u s₂ => wpAny M A (newTuple [v, u]) Q E s₂) E s₁) E s)
    (ha : starEach [a, b] env = [(false, eval a env), (false, eval b env)] := by rfl) : wpN M A (eval (.Tuple [a, b] k pos) env) Q E s := by
  rw [arm_eval_Tuple, ha]
  refine wpN_bindA (wpAny_standAt ?_)
  show wpN M A (do newTuple (← spliced [(false, eval a env), (false, eval b env)])) Q E s
  refine wpN_bind (wpN_mono (Q := fun vs s' => wpAny M A (newTuple vs) Q E s') (E := E) ?_ (fun vs s' h' => wpN_any h') fun _ _ x => x)
  rw [spliced]
  refine wpN_bindA (wpAny_mono h (fun v s₁ h₁ => ?_) fun _ _ x => x)
  refine wpN_if_false rfl ?_
  refine wpN_bindA (wpAny_pure ?_)
  refine wpN_bind (wpN_holding (wpN_mono (Q := fun us s' => wpAny M A (newTuple (v :: us)) Q E s') (E := E) ?_ (fun us s' h' => wpN_any (wpAny_pure h')) fun _ _ x => x))
  rw [spliced]
  refine wpN_bind (wpN_mono h₁ (fun u s₂ h₂ => ?_) fun _ _ x => x)
  refine wpN_if_false rfl ?_
  refine wpN_bindA (wpAny_pure ?_)
  refine wpN_bindA (wpAny_holding (spliced_nil ?_))
  exact wpN_any (wpAny_pure h₂)
end
section
variable {prog : Program} {w : World} {A : Around} {E : Value → Shared → Prop} {s : Shared} {env : Env}
theorem loopDictN {h₀ : Heap} {L I d : Addr} {od : Obj} {ep : Nat} {target : Expr} {body : List Stmt} {Q : Flow → Shared → Prop} {kvs : List (Int × Value)}
    (J : Nat → (Str → Option Value) → List (Addr × Obj) → Prop) (hh : A.handled = none) (hE : PassesOwn (model prog w) A env E)
    (hdat : ∀ h : Heap, h.get? d = some od → h.DictAt (intKind prog w) d kvs ep)
    (hgo : ∀ (I : Addr) v s' (Q' : Unit → Shared → Prop) (E' : Value → Shared → Prop), Q' () s' → wpAny (model prog w) A (letOwnedTupleGo target (.ref I) v) Q' E' s')
    (turn : ∀ (I : Addr) i k v t h tk m' news' o, kvs[i]? = some (k, v) → J i m' news' → Fr h₀ L h m' → News h₀ L h ((I, o) :: news') → (d, od) ∈ news' → (∀ p ∈ news', p.1 ≠ I) →
      wpAny (model prog w) A (assign target env (.int k t)) (fun _ s₂ => wpN (model prog w) A (execs body env) (fun f s₃ => match f with
        | .next => ∃ h₃ tk₃ m₃ news₃, s₃ = { s with heap := h₃, toks := tk₃ } ∧ Fr h₀ L h₃ m₃ ∧ News h₀ L h₃ ((I, o) :: news₃) ∧ (d, od) ∈ news₃ ∧ (∀ p ∈ news₃, p.1 ≠ I) ∧ J (i + 1) m₃ news₃
        | _ => False) E s₂) E { s with heap := h, toks := tk })
    (fin : ∀ h tk m' news', J kvs.length m' news' → Fr h₀ L h m' → News h₀ L h news' → Q .next { s with heap := h, toks := tk }) :
    ∀ (n i : Nat) (h : Heap) (tk : Nat) (m : Str → Option Value) (news : List (Addr × Obj)) (o : Obj), i + n = kvs.length → J i m news → Fr h₀ L h m → News h₀ L h ((I, o) :: news) → o.cls = .type "dict_keyiterator" → o.data = .fields #[.ref d, .int i 0, .int kvs.length 0, .int ep 0] → (d, od) ∈ news → (∀ p ∈ news, p.1 ≠ I) →
      codeN (model prog w) A (.forLoop target (.ref I) body [] env) (fun r s' => match r with | .ok f => Q f s' | .error e => cameBackBy (model prog w) A env E e s') { s with heap := h, toks := tk } := by
  intro n
  induction n with
  | zero =>
    intro i h tk m news o hk hJ F N hc hd hl hne
    have hdi := hdat h (N _ (.tail _ hl)).1
    refine turnN (wpAny_pyNext_dict_end hh ⟨o, (N _ (.head _)).1, hc, hd⟩ hdi (List.getElem?_eq_none (by lia)) ?_)
    intro h' hx
    refine cps fun gG kG => ?_
    obtain ⟨F', N'⟩ := led_but F N hne (fun b o hb e => hx b o hb e)
    refine kG ?_
    clear kG gG
    exact fin h' tk m news (by rw [← hk]; exact hJ) F' N'
  | succ n ih =>
    intro i h tk m news o hk hJ F N hc hd hl hne
    have hdi := hdat h (N _ (.tail _ hl)).1
    have hi : i < kvs.length := by lia
    refine turnN (wpAny_pyNext_dict_item ⟨o, (N _ (.head _)).1, hc, hd⟩ hdi (k := kvs[i].1) (v := kvs[i].2) (List.getElem?_eq_getElem hi) ?_)
    intro key h' hkey hit hx
    refine cps fun gG kG => ?_
    obtain ⟨F', N'⟩ := led_but F N hne (fun b o hb e => (hx.2 b hb).trans e)
    obtain ⟨o', ho', hc', hd'⟩ := id hit
    have NI : News h₀ L h' ((I, o') :: news) := fun p hp => by
      rcases List.mem_cons.mp hp with rfl | hp
      · exact ⟨ho', (N _ (.head _)).2⟩
      · exact N' p hp
    obtain ⟨t, rfl⟩ : ∃ t, key = .int kvs[i].1 t := by
      cases key <;> simp [intKind, Value.isInt] at hkey
      exact ⟨_, by rw [hkey]⟩
    refine kG ?_
    clear kG gG
    refine hgo _ _ _ _ _ ?_
    refine wpAny_mono (turn I i kvs[i].1 kvs[i].2 t h' tk m news o' (List.getElem?_eq_getElem hi) hJ F' NI hl hne) (fun _ s₂ h₂ => ?_) hE
    refine wpN_mono h₂ (fun f s₃ h₃ => ?_) hE
    cases f with
    | next =>
      refine cps fun gG kG => ?_
      obtain ⟨h₃', tk₃, m₃, news₃, rfl, F₃, N₃, hl₃, hne₃, hJ₃⟩ := h₃
      refine kG ?_
      clear kG gG
      exact ih (i + 1) h₃' tk₃ m₃ news₃ o' (by lia) hJ₃ F₃ N₃ hc' hd' hl₃ hne₃
    | _ => exact h₃.elim
end
end
theorem fillK : PySem.Challenge.rw_og0206_01.foot = 14 ∧ Mine.heapK = Mine.heapK := by
  k_fill
  exact ⟨rfl, rfl⟩
section
local macro_rules | `(tactic| walk_at "ks") => `(tactic| repeat' (first | ((with_reducible show wpAny _ _ (exec _ _) _ _ _); (try k_unmd); walk_at "fo"; (try (refine gen_toks ?_; intro tkG))) | (k_unfold; (try dsimp only); (try k_unmd); (try walk_at "fo")) | (k_end; wrow_close) | (walk1; (all_goals try dsimp only)) | (dsimp only; walk1) | (leave1; walk_say "STEP leave1"; try dsimp only) | fail "no step"))
section
local macro_rules | `(tactic| walk_at "eval Name") => `(tactic| (k_here; k_dflt (first | (apply nameL; k_asm; exact Eq.refl (some _); exact rfl; k_whole) | (apply nameG; k_asm; k_asm; k_asm; k_is; exact rfl; k_whole) | (apply nameBi; k_asm; k_asm; k_asm; k_is; boot_fast; decide; exact rfl; k_whole))))
section
local macro_rules | `(tactic| walk_at "into") => `(tactic| (rotate_left 5; exact rfl; exact rfl; (first | exact rfl | assumption); rotate_right 5; k_asm; k_asm; k_asm; k_asm; k_asm; k_is; k_is; ktr_room; (first | exact bt1 rfl | exact bt2 rfl | exact bt3 rfl | exact BindsTo.of_eq rfl)))
section
local macro_rules | `(tactic| walk_at "spliced") => `(tactic| (k_here; k_dflt (first | refine argInt ?_ | ((with_reducible show wpAny _ _ (spliced (backTo _ (starEach _ (envOf _ _ _ _ _)))) _ _ _); apply argLoc; k_asm; exact Eq.refl (some _); exact rfl; k_whole))))
section
local macro_rules | `(tactic| walk_at "call builtin:len") => `(tactic| ((with_reducible show wpAny _ _ (call (Value.builtin _) [Value.ref _]) _ _ _); k_dflt (apply lenI; k_asm; k_mem; with_reducible assumption; lia; k_whole)))
section
local macro_rules | `(tactic| walk_at "lt") => `(tactic| (intro D' h' nw' F' N' l1; (first | (dsimp (zetaDelta := true) only [AllLt] at l1; (try simp only [and_true] at l1)) | replace l1 := kst_ltOf l1); (try k_sweep)))
section
local macro_rules | `(tactic| ktr_room) => `(tactic| first | exact room0 (by assumption) | exact room1 (by assumption) (by decide) | exact room2 (by assumption) (by decide) | exact room3 (by assumption) (by decide))
section
local macro_rules | `(tactic| walk_at "fo") => `(tactic| ((fail_if_success (fail_if_success k_fold)); refine (let qk : _ → Shared → Prop := _; let ek : Value → Shared → Prop := _; (?_ : wpAny _ _ _ qk ek _))))
section
local macro_rules | `(tactic| walk_at "binaryOp FloorDiv int int") => `(tactic| (with_reducible refine floordiv_int ne256 ?_ (Or.inl (PyProof.noPylong_of_log2 (py256 (by lia))))))
section
local macro_rules | `(tactic| k_lt $h) => `(tactic| (replace $h := allLt_of $h; (dsimp (zetaDelta := true) only [AllLt] at $h:ident); (try simp only [and_true] at $h:ident)))
section
local macro_rules | `(tactic| walk_at "storeName") => `(tactic| (k_here; k_dflt (apply storeE; k_asm; k_asm; exact rfl; k_whole); intros; (try k_sweep)))
section
local macro_rules | `(tactic| walk_at "newTuple") => `(tactic| (k_here; kup_bare; k_dflt (apply tupE; k_asm; k_asm; kmk_size; k_whole); walk_at "lt"))
section
local macro_rules | `(tactic| walk_at "newList") => `(tactic| (k_here; k_dflt (apply listE; k_asm; k_asm; kmk_size; k_whole); walk_at "lt"))
section
local macro_rules | `(tactic| k_mem) => `(tactic| first | assumption | exact List.mem_cons_self | (refine List.mem_cons_of_mem _ ?_; k_mem))
section
local macro_rules | `(tactic| omega) => `(tactic| first | with_reducible assumption | decide | lia)
section
local macro_rules | `(tactic| walk_at "eval Constant int") => `(tactic| refine constE ?_)
section
local macro_rules | `(tactic| lia) => `(tactic| with_reducible assumption)
section
local macro_rules | `(tactic| units_room) => `(tactic| ktr_room)
section
local macro_rules | `(tactic| ktr_units) => `(tactic| ktr_room)
section
local macro_rules | `(tactic| k_all) => `(tactic| assumption)
section
local macro_rules | `(tactic| walk_at "myenter") => `(tactic| k_dflt (focus (apply code_def; walk_at "into"; exact locs rfl; rotate_left; exact rfl; exact rfl; exact rfl; decide; k_whole; intros; (try dsimp only); walk_at "fo")))
section
local macro_rules | `(tactic| walk_at "call ref") => `(tactic| (k_here; (refine wpAny_call ?_); walk_at "myenter"))
section
theorem f58 (P : Params) : faultIn (heapK P) 58 = true := by kernel_rfl
theorem c58 (P : Params) : clsTypeIn (heapK P) 58 = true := by kernel_rfl
theorem c70 (P : Params) : clsTypeIn (heapK P) 70 = true := by kernel_rfl
theorem f70 (P : Params) : faultIn (heapK P) 70 = true := by kernel_rfl
noncomputable abbrev mroF : List Value := [.ref 58, .ref 38, .type "Exception", .type "BaseException", .type "object"]
noncomputable abbrev mroT : List Value := [.ref 70, .ref 38, .type "Exception", .type "BaseException", .type "object"]
theorem mro58 (P : Params) : (clsIn (heapK P) 58).any (fun cd => decide (cd.mro = mroF)) = true := by kernel_rfl
theorem mro70 (P : Params) : (clsIn (heapK P) 70).any (fun cd => decide (cd.mro = mroT)) = true := by kernel_rfl
theorem passE (self : Value) : refuseLoop self "__setattr__" [.type "Exception", .type "BaseException", .type "object"] = pure () := by kernel_rfl
theorem passF (self : Value) : refuseLoop self "__setattr__" mroF = pure () := by rw [refuseLoop_ref, refuseLoop_ref]; exact passE self
theorem passT (self : Value) : refuseLoop self "__setattr__" mroT = pure () := by rw [refuseLoop_ref, refuseLoop_ref]; exact passE self
theorem ty_Exc : typeOf (.type "Exception") = pure (.type "type") := by first | rfl | kernel_rfl
section
variable {w : World} {mean : ExcName → Option Value} {mg mb : Str → Option Value}
    {dp un : Nat} {gd : Option (List Code)} {cn : Str} {cs : Scope} {a : Addr} {ccd : Value} {cl : List (Str × Addr)} {outer : List Env} {A₀ : Around} {base h₀ : Heap} {L : Addr} {m : Str → Option Value} {s : Shared} {Q E : Value → Shared → Prop}
    {news : List (Addr × Obj)} (dm : KdMark)
    (B : Below A₀ base outer h₀) (F : Fr h₀ L s.heap m) (X : (heapK w.params).In h₀)
    (T : Top view (looseW view [Str.ofString "MEMORY_END"]) mean mg mb h₀) (hk : cs.kind = .function)
include dm B F X T hk

theorem make_form {x : Str} {t : Tok} {i : Int} {t' : Tok} (N : News h₀ L s.heap news)
    (hd : dp + 5 < recursionLimit) (hu : un + 40 < cLine)
    (hQ : ∀ e t d h' tk', Fr h₀ L h' m → News h₀ L h' ((e, excObjD 58 t d) :: news) → (∀ p ∈ news, p.1 ≠ e) → Q (.ref e) { s with heap := h', toks := tk' }) :
    wpAny (model PySem.Challenge.rw_og0206_01.row.prog w) (ktrTop dp un gd cn cs L a ccd cl outer) (call (.ref 58) [.str x t, .int i t']) Q E s := by
  k_dflt (apply call_fault; k_asm; k_asm; k_asm; exact f58 _; k_is; k_is; exact Nat.le_of_ble_eq_true rfl; k_whole; intro x' t' h' F' N' l1 l2; (try k_lt l1); (try k_lt l2); (try k_sweep); walk_at "myenter")
  walk_at "ks"
  k_dflt (apply method_type; k_asm; k_asm; exact ty_Exc; decide +kernel; k_is; k_handed)
  walk_at "ks"
  k_dflt (apply exc_init; k_asm; k_asm; k_asm; k_updF; exact f58 _; k_whole; intro t1' h' F' N' l1; (try dsimp only at N'); (try k_lt l1); (try k_sweep))
  walk_at "ks"
  k_dflt (apply (fault_set0 (l := mroF)); k_asm; k_asm; k_updF; k_asm; k_is; exact mro58 _; k_is; rfl; decide; exact passF; k_is; k_whole; intro d' tk' h' F' N' l1; (try dsimp only at N'); (try k_lt l1); (try k_sweep))
  walk_at "ks"
  k_dflt (apply (fault_set1 (l := mroF)); k_asm; k_asm; k_mem; k_updF; k_asm; k_is; exact mro58 _; k_is; rfl; decide; exact passF; k_is; rfl; k_put; exact Nat.le_of_ble_eq_true rfl; k_whole; intro h' F' N'; (try dsimp only at N'); (try k_sweep))
  walk_at "ks"
  rename Fr _ _ _ _ => kF; rename News _ _ _ _ => kN
  exact hQ _ _ _ _ _ kF (cb_drop kN (by kst_allIn)) (by k_all)
theorem make_table {x : Str} {t : Tok}  (N : News h₀ L s.heap news)
    (hd : dp + 5 < recursionLimit) (hu : un + 40 < cLine)
    (hQ : ∀ e t d h' tk', Fr h₀ L h' m → News h₀ L h' ((e, excObjD 70 t d) :: news) → (∀ p ∈ news, p.1 ≠ e) → Q (.ref e) { s with heap := h', toks := tk' }) :
    wpAny (model PySem.Challenge.rw_og0206_01.row.prog w) (ktrTop dp un gd cn cs L a ccd cl outer) (call (.ref 70) [.str x t]) Q E s := by
  k_dflt (apply call_fault; k_asm; k_asm; k_asm; exact f70 _; k_is; k_is; exact Nat.le_of_ble_eq_true rfl; k_whole; intro x' t' h' F' N' l1 l2; (try k_lt l1); (try k_lt l2); (try k_sweep); walk_at "myenter")
  walk_at "ks"
  k_dflt (apply method_type; k_asm; k_asm; exact ty_Exc; decide +kernel; k_is; k_handed)
  walk_at "ks"
  k_dflt (apply exc_init; k_asm; k_asm; k_asm; k_updF; exact f70 _; k_whole; intro t1' h' F' N' l1; (try dsimp only at N'); (try k_lt l1); (try k_sweep))
  walk_at "ks"
  k_dflt (apply (fault_set0 (l := mroT)); k_asm; k_asm; k_updF; k_asm; k_is; exact mro70 _; k_is; rfl; decide; exact passT; k_is; k_whole; intro d' tk' h' F' N' l1; (try dsimp only at N'); (try k_lt l1); (try k_sweep))
  walk_at "ks"
  rename Fr _ _ _ _ => kF; rename News _ _ _ _ => kN
  exact hQ _ _ _ _ _ kF (cb_drop kN (by kst_allIn)) (by k_all)
end
end
end
end
section
local macro_rules | `(tactic| walk_at "exec Raise some none") => `(tactic| (k_here; k_dflt (first | ((with_reducible show wpAny _ _ (exec (Stmt.Raise (some (Expr.Call (Expr.Name ("FormFault" : Str) _) _ _ _)) none _) _) _ _ _); refine Raise_fault (C := 58) rfl ?_) | refine Raise_fault (C := 70) rfl ?_)))
section
local macro_rules | `(tactic| walk_at "myenter") => `(tactic| k_dflt (focus (apply code_def; walk_at "into"; exact locs rfl; rotate_left; exact rfl; exact rfl; exact rfl; decide; k_whole; intros; (try dsimp only); walk_at "fe")))
section
local macro_rules | `(tactic| walk_at "fe") => `(tactic| refine (let vk : Env := _; let ak : Around := _; let qk : _ → Shared → Prop := _; let ek : Value → Shared → Prop := _; (?_ : wpAny _ ak (execs _ vk) qk ek _)))
section
local macro_rules | `(tactic| walk_at "exec For Tuple BinOp cons nil") => `(tactic| (k_here; (rename Fr _ _ _ _ => lF'); (with_unfolding_all refine' For_turns lF' ?_; k_whole)))
section
local macro_rules | `(tactic| walk_at "exec For Tuple Name cons nil") => `(tactic| (k_here; (rename Fr _ _ _ _ => lF'); (with_unfolding_all refine' For_turns lF' ?_; k_whole)))
section
local macro_rules | `(tactic| walk_at "exec For Tuple Call cons nil") => `(tactic| (k_here; (rename Fr _ _ _ _ => lF'); (with_unfolding_all refine' For_turns lF' ?_; k_whole)))
section
local macro_rules | `(tactic| walk_at "exec For Name Name cons nil") => `(tactic| (k_here; (rename Fr _ _ _ _ => lF'); (with_unfolding_all refine' For_turns lF' ?_; k_whole)))
section
local macro_rules | `(tactic| walk_at "exec For Name List cons nil") => `(tactic| (k_here; (rename Fr _ _ _ _ => lF'); (with_unfolding_all refine' For_turns lF' ?_; k_whole)))
section
local macro_rules | `(tactic| walk_at "exec For Name Call cons nil") => `(tactic| (k_here; (rename Fr _ _ _ _ => lF'); (with_unfolding_all refine' For_turns lF' ?_; k_whole)))
section
local macro_rules | `(tactic| walk_at "call ref") => `(tactic| (plain_pass; k_here; (refine wpAny_call ?_); walk_at "myenter"))
section
local macro_rules | `(tactic| walk_at "call ref") => `(tactic| (k_here; k_dflt (focus ((first | ((with_reducible show wpAny _ _ (call (Value.ref 58) _) _ _ _); apply make_form) | ((with_reducible show wpAny _ _ (call (Value.ref 70) _) _ _ _); apply make_table)); walk_at "cp"; ktr_room; ktr_units; intros; apply raisable_fault; k_asm; k_asm; k_asm; k_mem; (first | exact f58 _ | exact f70 _); (first | exact c58 _ | exact c70 _)))))
section
local macro_rules | `(tactic| walk_at "TurnA") => `(tactic| refine Stop.out ?_)
section
local macro_rules | `(tactic| walk_at "pyIter ref") => `(tactic| (k_here; refine Stop.out ?_))
section
noncomputable def Rems : List Int → List Int → Prop
  | [], [] => True
  | g :: gs, z :: zs => (0 ≤ g ∧ g < z) ∧ Rems gs zs
  | _, _ => False
theorem rems_snoc {g z : Int} (h0 : 0 ≤ g) (h1 : g < z) : ∀ {gs zs : List Int}, Rems gs zs → Rems (gs ++ [g]) (zs ++ [z])
  | [], [], _ => ⟨⟨h0, h1⟩, trivial⟩
  | _ :: _, _ :: _, h => ⟨h.1, rems_snoc h0 h1 h.2⟩
theorem rems_len : ∀ {gs zs : List Int}, Rems gs zs → gs.length = zs.length
  | [], [], _ => rfl
  | _ :: _, _ :: _, h => congrArg (· + 1) (rems_len h.2)
theorem ints_get : ∀ {vs : List Value} {ns : List Int}, IntsAre vs ns → ∀ {k : Nat} {v : Value}, vs[k]? = some v → ∃ z t, ns[k]? = some z ∧ v = .int z t
  | _, _, .nil, k, v, h => by simp at h
  | _, _, .cons n t r, 0, v, h => ⟨n, t, rfl, by simpa using h.symm⟩
  | _, _, .cons n t r, k + 1, v, h => by simpa using ints_get r (by simpa using h)
theorem ints_len {vs : List Value} {ns : List Int} (h : IntsAre vs ns) : vs.length = ns.length := PyProof.Rows.IntsAre.length h
theorem take_snoc {α : Type} {zs : List α} {k : Nat} {z : α} (h : zs[k]? = some z) : zs.take k ++ [z] = zs.take (k + 1) := by
  rw [List.take_succ, h]; rfl
theorem fmod_ge {a z : Int} (h : 0 < z) : 0 ≤ a.fmod z := by
  rw [Int.fmod_eq_emod_of_nonneg _ (Int.le_of_lt h)]; exact Int.emod_nonneg _ (Int.ne_of_gt h)
theorem fmod_lt {a z : Int} (h : 0 < z) : a.fmod z < z := by
  rw [Int.fmod_eq_emod_of_nonneg _ (Int.le_of_lt h)]; exact Int.emod_lt_of_pos _ h
noncomputable def ldM (vw vs vg vv : Value) (m₂ : Str → Option Value) : Str → Option Value :=
  fun z => if z = Str.ofString "well" then some vw else if z = Str.ofString "sizes" then some vs else if z = Str.ofString "gained" then some vg else if z = Str.ofString "value" then some vv else m₂ z
theorem ldM_cut {vw vs vg vv : Value} {m : Str → Option Value} (h1 : m (Str.ofString "well") = some vw) (h2 : m (Str.ofString "sizes") = some vs) (h3 : m (Str.ofString "gained") = some vg) (h4 : m (Str.ofString "value") = some vv) : ldM vw vs vg vv m = m := by
  funext z
  simp only [ldM]
  split
  · rename_i e; rw [e, h1]
  split
  · rename_i e; rw [e, h2]
  split
  · rename_i e; rw [e, h3]
  split
  · rename_i e; rw [e, h4]
  · rfl
theorem rems_cons {gv : List Value} {gs zs : List Int} {z : Int} (hI : IntsAre gv gs) (hR : Rems gs (z :: zs)) : ∃ g u gv' gs', gv = .int g u :: gv' ∧ gs = g :: gs' ∧ (0 ≤ g ∧ g < z) ∧ IntsAre gv' gs' ∧ Rems gs' zs := by
  cases hI with
  | nil => exact hR.elim
  | cons a b c => exact ⟨_, _, _, _, rfl, rfl, hR.1, c, hR.2⟩
theorem rems_nil {gv : List Value} {gs : List Int} (hI : IntsAre gv gs) (hR : Rems gs []) : gv = [] ∧ gs = [] := by
  cases hI with
  | nil => exact ⟨rfl, rfl⟩
  | cons a b c => exact hR.elim
theorem rems1 {gv : List Value} {gs : List Int} {z0 : Int} (hI : IntsAre gv gs) (hR : Rems gs [z0]) : ∃ g0 u0, gv = [.int g0 u0] ∧ gs = [g0] ∧ (0 ≤ g0 ∧ g0 < z0) := by
  obtain ⟨g0, u0, gv, gs, rfl, rfl, b0, hI, hR⟩ := rems_cons hI hR
  obtain ⟨rfl, rfl⟩ := rems_nil hI hR
  exact ⟨g0, u0, rfl, rfl, b0⟩
theorem rems4 {gv : List Value} {gs : List Int} {z0 z1 z2 z3 : Int} (hI : IntsAre gv gs) (hR : Rems gs [z0, z1, z2, z3]) : ∃ g0 u0 g1 u1 g2 u2 g3 u3, gv = [.int g0 u0, .int g1 u1, .int g2 u2, .int g3 u3] ∧ gs = [g0, g1, g2, g3] ∧ (0 ≤ g0 ∧ g0 < z0) ∧ (0 ≤ g1 ∧ g1 < z1) ∧ (0 ≤ g2 ∧ g2 < z2) ∧ (0 ≤ g3 ∧ g3 < z3) := by
  obtain ⟨g0, u0, gv, gs, rfl, rfl, b0, hI, hR⟩ := rems_cons hI hR
  obtain ⟨g1, u1, gv, gs, rfl, rfl, b1, hI, hR⟩ := rems_cons hI hR
  obtain ⟨g2, u2, gv, gs, rfl, rfl, b2, hI, hR⟩ := rems_cons hI hR
  obtain ⟨g3, u3, gv, gs, rfl, rfl, b3, hI, hR⟩ := rems_cons hI hR
  obtain ⟨rfl, rfl⟩ := rems_nil hI hR
  exact ⟨g0, u0, g1, u1, g2, u2, g3, u3, rfl, rfl, b0, b1, b2, b3⟩
theorem rems3 {gv : List Value} {gs : List Int} {z0 z1 z2 : Int} (hI : IntsAre gv gs) (hR : Rems gs [z0, z1, z2]) : ∃ g0 u0 g1 u1 g2 u2, gv = [.int g0 u0, .int g1 u1, .int g2 u2] ∧ gs = [g0, g1, g2] ∧ (0 ≤ g0 ∧ g0 < z0) ∧ (0 ≤ g1 ∧ g1 < z1) ∧ (0 ≤ g2 ∧ g2 < z2) := by
  obtain ⟨g0, u0, gv, gs, rfl, rfl, b0, hI, hR⟩ := rems_cons hI hR
  obtain ⟨g1, u1, gv, gs, rfl, rfl, b1, hI, hR⟩ := rems_cons hI hR
  obtain ⟨g2, u2, gv, gs, rfl, rfl, b2, hI, hR⟩ := rems_cons hI hR
  obtain ⟨rfl, rfl⟩ := rems_nil hI hR
  exact ⟨g0, u0, g1, u1, g2, u2, rfl, rfl, b0, b1, b2⟩
section
variable {w : World} {mean : ExcName → Option Value} {mg mb : Str → Option Value}
    {dp un : Nat} {gd : Option (List Code)} {cn : Str} {cs : Scope} {a : Addr} {ccd : Value} {cl : List (Str × Addr)} {outer : List Env} {A₀ : Around} {base h₀ : Heap} {L : Addr} {m : Str → Option Value} {s : Shared} {Q E : Value → Shared → Prop}
    {news : List (Addr × Obj)} (dm : KdMark)
    (B : Below A₀ base outer h₀) (F : Fr h₀ L s.heap m) (X : (heapK w.params).In h₀)
    (T : Top view (looseW view [Str.ofString "MEMORY_END"]) mean mg mb h₀) (hk : cs.kind = .function)
include dm B F X T hk
theorem law_draw {x nl sl : Addr} {nn n0 n1 : Nat} {vs sv : List Value} {ns zs : List Int} {i e : Int} {t1 t2 : Tok} {tl : List (Addr × Obj)}
    (N : News h₀ L s.heap ((x, listOf #[.ref nl, .int i t1, .int e t2] nn) :: tl)) (off : ∀ p ∈ tl, p.1 ≠ x)
    (hl : (nl, listOf vs.toArray n0) ∈ tl) (hi : IntsAre vs ns) (hs : (sl, listOf sv.toArray n1) ∈ tl) (hz : IntsAre sv zs) (hz0 : ∀ z ∈ zs, 0 < z ∧ z < 100) (hzl : zs.length ≤ 4)
    (h0 : 0 ≤ i) (h1 : i < 2 ^ 20) (h2 : ns.length < 2 ^ 20) (h3 : 0 ≤ e) (h4 : e < 65537)
    (hd : dp + 2 < recursionLimit) (hu : un + 20 < cLine)
    (hQ : ∀ gv gs ta te e' r n n' h' tk', IntsAre gv gs → Rems gs zs → 0 ≤ e' → e' < 65537 → Fr h₀ L h' m → News h₀ L h' ((r, listOf gv.toArray n) :: (x, listOf #[.ref nl, .int (i + 1) ta, .int e' te] n') :: tl) → (x < r ∧ AllLt r tl) → Q (.ref r) { s with heap := h', toks := tk' }) :
    wpAny (model PySem.Challenge.rw_og0206_01.row.prog w) (ktrTop dp un gd cn cs L a ccd cl outer) (call (.ref 310) [.ref x, .ref sl]) Q E s := by
  refine wpAny_call ?_
  walk_at "myenter"
  walk_at "ks"
  all_goals (
    unfold Stop
    rename Fr _ _ _ _ => F1
    rename News _ _ _ _ => N1
    rename (x < _ ∧ AllLt _ tl) => lg
    refine iterListA (nn := n1) (vs := sv) (fun k m' nx => ∃ gv gs n v t, nx = (_, listOf gv.toArray n) :: (x, listOf #[.ref nl, .int (i + 1) _, .int _ _] _) :: tl ∧ IntsAre gv gs ∧ Rems gs (zs.take k) ∧ ldM (.ref x) (.ref sl) (.ref _) (.int v t) m' = m') rfl F1 N1 (.tail _ (.tail _ hs)) rfl rfl ⟨[], [], _, _, _, rfl, .nil, trivial, ldM_cut rfl rfl rfl rfl⟩ (fun k m nx h => by obtain ⟨gv, gs, n, v, t, rfl, _⟩ := h; exact .tail _ (.tail _ hs)) ?_ ?_
    · clear F1 N1
      intro I k v2 m1 nx h1' tk1 o hv hJ off1 F1 N1
      refine cps fun G kG => ?_
      obtain ⟨gv, gs, n, v, t, rfl, hgi, hrm, hlo⟩ := hJ
      obtain ⟨z, tz, hzk, rfl⟩ := ints_get hz hv
      refine kG ?_
      clear kG G
      have hzz := hz0 z (List.mem_of_getElem? hzk)
      have hgl : gv.length ≤ 4 := by
        have a1 := PyProof.Rows.IntsAre.length hgi
        have a2 := rems_len hrm
        rw [List.length_take] at a2
        lia
      rw [← hlo] at F1
      unfold ldM at F1
      have hIx : @Ne Nat I x := Ne.symm (off1 _ (.tail _ (.head _)))
      have hIl : @Ne Nat I _ := Ne.symm (off1 _ (.head _))
      walk_at "ks"
      unfold Stop
      rename Fr _ _ _ _ => F5
      rename News _ _ _ _ => N5
      rw [List.push_toArray] at N5
      refine turnA_next F5 N5 (fun p hp => hp) (fun p hp => ?_) ⟨_, _, _, _, _, rfl, intsAre_append hgi (.cons _ _ .nil), take_snoc hzk ▸ rems_snoc (fmod_ge hzz.1) (fmod_lt hzz.1) hrm, ldM_cut rfl rfl rfl rfl⟩
      rcases List.mem_cons.mp hp with rfl | hp
      · have h9 := off1 _ (.head _); exact h9
      · exact off1 _ (.tail _ hp)
    · clear F1 N1
      intro h1' tk1 m1 nx hJ F1 N1
      refine cps fun G kG => ?_
      obtain ⟨gv, gs, n, v, t, rfl, hgi, hrm, hlo⟩ := hJ
      refine kG ?_
      clear kG G
      rw [ints_len hz, List.take_length] at hrm
      rw [← hlo] at F1
      unfold ldM at F1
      dsimp only
      walk_at "ks"
      rename Fr _ _ _ _ => kF; rename News _ _ _ _ => kN
      exact hQ _ _ _ _ _ _ _ _ _ _ hgi hrm (by first | exact h3 | exact fmod_ge (by decide)) (by first | exact h4 | exact fmod_lt (by decide)) kF kN lg)
theorem law_draw1 {x nl sl : Addr} {nn n0 n1 : Nat} {vs : List Value} {ns : List Int} {i e : Int} {t1 t2 t10 : Tok} {tl : List (Addr × Obj)}
    (N : News h₀ L s.heap ((x, listOf #[.ref nl, .int i t1, .int e t2] nn) :: tl)) (off : ∀ p ∈ tl, p.1 ≠ x)
    (hl : (nl, listOf vs.toArray n0) ∈ tl) (hi : IntsAre vs ns) (hs : (sl, listOf #[.int 6 t10] n1) ∈ tl)
    (h0 : 0 ≤ i) (h1 : i < 2 ^ 20) (h2 : ns.length < 2 ^ 20) (h3 : 0 ≤ e) (h4 : e < 65537)
    (hd : dp + 2 < recursionLimit) (hu : un + 20 < cLine)
    (hQ : ∀ g0 u0 ta te e' r n n' h' tk', 0 ≤ g0 → g0 < 6 → 0 ≤ e' → e' < 65537 → Fr h₀ L h' m → News h₀ L h' ((r, listOf #[.int g0 u0] n) :: (x, listOf #[.ref nl, .int (i + 1) ta, .int e' te] n') :: tl) → (x < r ∧ AllLt r tl) → Q (.ref r) { s with heap := h', toks := tk' }) :
    wpAny (model PySem.Challenge.rw_og0206_01.row.prog w) (ktrTop dp un gd cn cs L a ccd cl outer) (call (.ref 310) [.ref x, .ref sl]) Q E s := by
  refine law_draw dm B F X T hk N off hl hi hs (zs := [6]) (sv := [.int 6 _]) (.cons _ _ .nil) (by decide) (by decide) h0 h1 h2 h3 h4 hd hu ?_
  intro gv gs ta te e' r n n' h' tk' hI hR a1 a2 F' N' lx
  obtain ⟨g0, u0, rfl, rfl, ⟨p0, q0⟩⟩ := rems1 hI hR
  exact hQ g0 u0 _ _ _ _ _ _ _ _ p0 q0 a1 a2 F' N' lx
theorem law_draw4 {x nl sl : Addr} {nn n0 n1 : Nat} {vs : List Value} {ns : List Int} {i e : Int} {t1 t2 t10 t11 t12 t13 : Tok} {tl : List (Addr × Obj)}
    (N : News h₀ L s.heap ((x, listOf #[.ref nl, .int i t1, .int e t2] nn) :: tl)) (off : ∀ p ∈ tl, p.1 ≠ x)
    (hl : (nl, listOf vs.toArray n0) ∈ tl) (hi : IntsAre vs ns) (hs : (sl, listOf #[.int 8 t10, .int 8 t11, .int 3 t12, .int 24 t13] n1) ∈ tl)
    (h0 : 0 ≤ i) (h1 : i < 2 ^ 20) (h2 : ns.length < 2 ^ 20) (h3 : 0 ≤ e) (h4 : e < 65537)
    (hd : dp + 2 < recursionLimit) (hu : un + 20 < cLine)
    (hQ : ∀ g0 g1 g2 g3 u0 u1 u2 u3 ta te e' r n n' h' tk', 0 ≤ g0 → g0 < 8 → 0 ≤ g1 → g1 < 8 → 0 ≤ g2 → g2 < 3 → 0 ≤ g3 → g3 < 24 → 0 ≤ e' → e' < 65537 → Fr h₀ L h' m → News h₀ L h' ((r, listOf #[.int g0 u0, .int g1 u1, .int g2 u2, .int g3 u3] n) :: (x, listOf #[.ref nl, .int (i + 1) ta, .int e' te] n') :: tl) → (x < r ∧ AllLt r tl) → Q (.ref r) { s with heap := h', toks := tk' }) :
    wpAny (model PySem.Challenge.rw_og0206_01.row.prog w) (ktrTop dp un gd cn cs L a ccd cl outer) (call (.ref 310) [.ref x, .ref sl]) Q E s := by
  refine law_draw dm B F X T hk N off hl hi hs (zs := [8, 8, 3, 24]) (sv := [.int 8 _, .int 8 _, .int 3 _, .int 24 _]) (.cons _ _ (.cons _ _ (.cons _ _ (.cons _ _ .nil)))) (by decide) (by decide) h0 h1 h2 h3 h4 hd hu ?_
  intro gv gs ta te e' r n n' h' tk' hI hR a1 a2 F' N' lx
  obtain ⟨g0, u0, g1, u1, g2, u2, g3, u3, rfl, rfl, ⟨p0, q0⟩, ⟨p1, q1⟩, ⟨p2, q2⟩, ⟨p3, q3⟩⟩ := rems4 hI hR
  exact hQ g0 g1 g2 g3 u0 u1 u2 u3 _ _ _ _ _ _ _ _ p0 q0 p1 q1 p2 q2 p3 q3 a1 a2 F' N' lx
theorem law_draw3 {x nl sl : Addr} {nn n0 n1 : Nat} {vs : List Value} {ns : List Int} {i e : Int} {t1 t2 t10 t11 t12 : Tok} {tl : List (Addr × Obj)}
    (N : News h₀ L s.heap ((x, listOf #[.ref nl, .int i t1, .int e t2] nn) :: tl)) (off : ∀ p ∈ tl, p.1 ≠ x)
    (hl : (nl, listOf vs.toArray n0) ∈ tl) (hi : IntsAre vs ns) (hs : (sl, listOf #[.int 8 t10, .int 48 t11, .int 12 t12] n1) ∈ tl)
    (h0 : 0 ≤ i) (h1 : i < 2 ^ 20) (h2 : ns.length < 2 ^ 20) (h3 : 0 ≤ e) (h4 : e < 65537)
    (hd : dp + 2 < recursionLimit) (hu : un + 20 < cLine)
    (hQ : ∀ g0 g1 g2 u0 u1 u2 ta te e' r n n' h' tk', 0 ≤ g0 → g0 < 8 → 0 ≤ g1 → g1 < 48 → 0 ≤ g2 → g2 < 12 → 0 ≤ e' → e' < 65537 → Fr h₀ L h' m → News h₀ L h' ((r, listOf #[.int g0 u0, .int g1 u1, .int g2 u2] n) :: (x, listOf #[.ref nl, .int (i + 1) ta, .int e' te] n') :: tl) → (x < r ∧ AllLt r tl) → Q (.ref r) { s with heap := h', toks := tk' }) :
    wpAny (model PySem.Challenge.rw_og0206_01.row.prog w) (ktrTop dp un gd cn cs L a ccd cl outer) (call (.ref 310) [.ref x, .ref sl]) Q E s := by
  refine law_draw dm B F X T hk N off hl hi hs (zs := [8, 48, 12]) (sv := [.int 8 _, .int 48 _, .int 12 _]) (.cons _ _ (.cons _ _ (.cons _ _ .nil))) (by decide) (by decide) h0 h1 h2 h3 h4 hd hu ?_
  intro gv gs ta te e' r n n' h' tk' hI hR a1 a2 F' N' lx
  obtain ⟨g0, u0, g1, u1, g2, u2, rfl, rfl, ⟨p0, q0⟩, ⟨p1, q1⟩, ⟨p2, q2⟩⟩ := rems3 hI hR
  exact hQ g0 g1 g2 u0 u1 u2 _ _ _ _ _ _ _ _ p0 q0 p1 q1 p2 q2 a1 a2 F' N' lx
end
end
end
end
section
local macro_rules | `(tactic| k_all) => `(tactic| with_reducible exact tl_ne2 (by assumption))
section
local macro_rules | `(tactic| walk_at "TurnA") => `(tactic| refine Stop.out ?_)
section
local macro_rules | `(tactic| walk_at "pyIter ref") => `(tactic| (k_here; refine Stop.out ?_))
section
local macro_rules | `(tactic| walk_at "pad") => `(tactic| skip)
noncomputable def lwdM (vo va vg : Value) (m₂ : Str → Option Value) : Str → Option Value :=
  fun z => if z = Str.ofString "octets" then some vo else if z = Str.ofString "at" then some va else if z = Str.ofString "gained" then some vg else m₂ z
theorem lwdM_cut {vo va vg : Value} {m : Str → Option Value} (h1 : m (Str.ofString "octets") = some vo) (h2 : m (Str.ofString "at") = some va) (h3 : m (Str.ofString "gained") = some vg) : lwdM vo va vg m = m := by
  funext z
  simp only [lwdM]
  split
  · rename_i e; rw [e, h1]
  split
  · rename_i e; rw [e, h2]
  split
  · rename_i e; rw [e, h3]
  · rfl
theorem rng1 {wd : Int} (h : 0 ≤ wd) : Builtin.Range.rangeSize 0 wd 1 = (wd.toNat : Int) := by
  unfold Builtin.Range.rangeSize
  rw [if_pos (by decide)]
  split <;> lia
section
variable {w : World} {mean : ExcName → Option Value} {mg mb : Str → Option Value}
    {dp un : Nat} {gd : Option (List Code)} {cn : Str} {cs : Scope} {a : Addr} {ccd : Value} {cl : List (Str × Addr)} {outer : List Env} {A₀ : Around} {base h₀ : Heap} {L : Addr} {m : Str → Option Value} {s : Shared} {Q E : Value → Shared → Prop}
    {news : List (Addr × Obj)} (dm : KdMark)
    (B : Below A₀ base outer h₀) (F : Fr h₀ L s.heap m) (X : (heapK w.params).In h₀)
    (T : Top view (looseW view [Str.ofString "MEMORY_END"]) mean mg mb h₀) (hk : cs.kind = .function)
include dm B F X T hk
theorem law_word {l : Addr} {vs : List Value} {ns : List Int} {nn : Nat} {i wd : Int} {t t' : Tok}
    (N : News h₀ L s.heap news) (hl : (l, listOf vs.toArray nn) ∈ news) (hi : IntsAre vs ns) (hb : ∀ x ∈ ns, 0 ≤ x ∧ x < 256) (h0 : 0 ≤ i) (hw0 : 0 ≤ wd) (hw4 : wd ≤ 4) (h1 : i + wd ≤ ns.length) (h2 : ns.length < 2 ^ 20)
    (hd : dp + 2 < recursionLimit) (hu : un + 20 < cLine)
    (hQ : ∀ t h' tk', Fr h₀ L h' m → News h₀ L h' news → Q (.int (wordOf ns i.toNat wd.toNat) t) { s with heap := h', toks := tk' }) :
    wpAny (model PySem.Challenge.rw_og0206_01.row.prog w) (ktrTop dp un gd cn cs L a ccd cl outer) (call (.ref 324) [.ref l, .int i t, .int wd t']) Q E s := by
  refine wpAny_call ?_
  walk_at "myenter"
  walk_at "ks"
  unfold Stop
  rename Fr _ _ _ _ => F1
  rename News _ _ _ _ => N1
  rename IsRange _ _ _ _ _ _ _ _ => hrg
  refine iterRangeA (n := wd.toNat) (fun k m' nx => nx = news ∧ ∃ t', lwdM (.ref l) (.int i t) (.int (wordOf ns i.toNat k) t') m' = m') rfl hrg (small_one (by lia) (by lia) (by lia) (by lia)) (rng1 hw0) F1 N1 ⟨rfl, _, lwdM_cut rfl rfl rfl⟩ ?turn ?fin
  case turn =>
    clear F1 N1 hrg
    intro I k t2 m1 nx h1' tk1 o hk' hJ off F1 N1
    refine cps fun G kG => ?_
    obtain ⟨rfl, t3, hlo⟩ := hJ
    refine kG ?_
    clear kG G
    rw [← hlo] at F1
    unfold lwdM at F1
    have hk4 : (0 : Int) + (k : Int) * 1 < 4 := by lia
    have e1 : (0 : Int) + (k : Int) * 1 = (k : Int) := by lia
    rw [e1]
    try k_unmd
    try walk_at "fo"
    walk_at "ks"
    have hgb := getD_nonneg hb (i + (k : Int)).toNat
    refine mul_int ?_ (PySem.IntMulOk.of_left (PySem.intBits_le_64 (by lia) (by lia)))
    walk_at "ks"
    unfold Stop
    rename Fr _ _ _ _ => F5
    rename News _ _ _ _ => N5
    have ew : wordOf ns i.toNat k + ns.getD (i + (k : Int)).toNat 0 * 256 ^ ((k : Int)).toNat = wordOf ns i.toNat (k + 1) := by
      rw [show (i + (k : Int)).toNat = i.toNat + k by lia]; rfl
    exact turnA_next F5 N5 (fun p hp => hp) off ⟨rfl, _, lwdM_cut rfl rfl (congrArg (fun i => some (Value.int i _)) ew)⟩
  case fin =>
    clear F1 N1 hrg
    intro h1' tk1 m1 nx hJ F1 N1
    refine cps fun G kG => ?_
    obtain ⟨rfl, t3, hlo⟩ := hJ
    refine kG ?_
    clear kG G
    rw [← hlo] at F1
    unfold lwdM at F1
    dsimp only
    walk_at "ks"
    rename Fr _ _ _ _ => kF; rename News _ _ _ _ => kN
    exact hQ _ _ _ kF kN
end
section
variable {w : World} {mean : ExcName → Option Value} {mg mb : Str → Option Value}
    {dp un : Nat} {gd : Option (List Code)} {cn : Str} {cs : Scope} {a : Addr} {ccd : Value} {cl : List (Str × Addr)} {outer : List Env} {A₀ : Around} {base h₀ : Heap} {L : Addr} {m : Str → Option Value} {s : Shared} {Q E : Value → Shared → Prop}
    {news : List (Addr × Obj)} (dm : KdMark)
    (B : Below A₀ base outer h₀) (F : Fr h₀ L s.heap m) (X : (heapK w.params).In h₀) (N : News h₀ L s.heap news)
    (T : Top view (looseW view [Str.ofString "MEMORY_END"]) mean mg mb h₀) (hk : cs.kind = .function)
include dm B F X N T hk
theorem law_word4 {l : Addr} {vs : List Value} {ns : List Int} {nn : Nat} {i : Int} {t t' : Tok}
    (hl : (l, listOf vs.toArray nn) ∈ news) (hi : IntsAre vs ns) (hb : ∀ x ∈ ns, 0 ≤ x ∧ x < 256) (h0 : 0 ≤ i) (h1 : i + 4 ≤ ns.length) (h2 : ns.length < 2 ^ 20)
    (hd : dp + 2 < recursionLimit) (hu : un + 20 < cLine)
    (hQ : ∀ t h' tk', Fr h₀ L h' m → News h₀ L h' news → Q (.int (wordOf ns i.toNat 4) t) { s with heap := h', toks := tk' }) :
    wpAny (model PySem.Challenge.rw_og0206_01.row.prog w) (ktrTop dp un gd cn cs L a ccd cl outer) (call (.ref 324) [.ref l, .int i t, .int 4 t']) Q E s :=
  law_word dm B F X T hk N hl hi hb h0 (by decide) (by decide) h1 h2 hd hu hQ
theorem law_word2 {l : Addr} {vs : List Value} {ns : List Int} {nn : Nat} {i : Int} {t t' : Tok}
    (hl : (l, listOf vs.toArray nn) ∈ news) (hi : IntsAre vs ns) (hb : ∀ x ∈ ns, 0 ≤ x ∧ x < 256) (h0 : 0 ≤ i) (h1 : i + 2 ≤ ns.length) (h2 : ns.length < 2 ^ 20)
    (hd : dp + 2 < recursionLimit) (hu : un + 20 < cLine)
    (hQ : ∀ t h' tk', Fr h₀ L h' m → News h₀ L h' news → Q (.int (wordOf ns i.toNat 2) t) { s with heap := h', toks := tk' }) :
    wpAny (model PySem.Challenge.rw_og0206_01.row.prog w) (ktrTop dp un gd cn cs L a ccd cl outer) (call (.ref 324) [.ref l, .int i t, .int 2 t']) Q E s :=
  law_word dm B F X T hk N hl hi hb h0 (by decide) (by decide) h1 h2 hd hu hQ
end
end
end
section
local macro_rules | `(tactic| walk_at "pyIter ref") => `(tactic| (k_here; (with_reducible show wpAny _ _ (pyIter (Value.ref _)) (fun it s₂ => TurnsAt _ _ _ _ _ _ _ _ _ it s₂) _ _); refine Stop.out ?_))
section
section
variable {w : World} {mean : ExcName → Option Value} {mg mb : Str → Option Value}
    {dp un : Nat} {gd : Option (List Code)} {cn : Str} {cs : Scope} {a : Addr} {ccd : Value} {cl : List (Str × Addr)} {outer : List Env} {A₀ : Around} {base h₀ : Heap} {L : Addr} {m : Str → Option Value} {s : Shared} {Q E : Value → Shared → Prop}
    {news : List (Addr × Obj)} (dm : KdMark)
    (B : Below A₀ base outer h₀) (F : Fr h₀ L s.heap m) (X : (heapK w.params).In h₀)
    (T : Top view (looseW view [Str.ofString "MEMORY_END"]) mean mg mb h₀) (hk : cs.kind = .function)
include dm B F X T hk
theorem unit_at_spec {rl : Addr} {vs : List Value} {nn : Nat} {rows : List Row} {pc : Int} {tp : Tok}
    (N : News h₀ L s.heap news) (hrl : (rl, listOf vs.toArray nn) ∈ news) (hda : DatAll news vs (rows.map rowDat))
    (hd : dp + 4 < recursionLimit) (hu : un + 40 < cLine)
    (hQ : ∀ t h' tk', Fr h₀ L h' m → News h₀ L h' news → Q (optI (unitAt rows pc) t) { s with heap := h', toks := tk' }) :
    wpAny (model PySem.Challenge.rw_og0206_01.row.prog w) (ktrTop dp un gd cn cs L a ccd cl outer) (call (.ref 282) [.ref rl, .int pc tp]) Q E s := by
  refine wpAny_call ?_
  walk_at "myenter"
  walk_at "ks"
  unfold Stop
  rename Fr _ _ _ _ => F1
  rename News _ _ _ _ => N1
  k_dflt (refine' iterListA (nn := nn) (vs := vs) (fun i m' nx => nx = news ∧ (∀ q ∈ rows.take i, hitRow pc q = false) ∧ uaM (.ref rl) (.int pc tp) m' = m') ?hh F1 N1 hrl ?hc ?hd ⟨rfl, (fun q hq => by simp at hq), uaM_cut rfl rfl⟩ (fun i m nw h => h.1 ▸ hrl) ?turn ?fin; (case hh => exact rfl); (case hc => exact rfl); (case hd => exact rfl); k_whole)
  · clear F1 N1
    intro I i v m1 nw h1 tk1 o hv hJ off F1 N1
    refine cps fun G kG => ?_
    obtain ⟨rfl, hn, hlo⟩ := hJ
    obtain ⟨r, T, n, tb, tz, tu, hr, rfl, hT⟩ := row_get hda hv
    refine kG ?_
    clear kG G
    rw [← hlo] at F1
    unfold uaM at F1
    walk_at "ks"
    · unfold Stop
      unfold TurnA
      dsimp only
      walk_at "ks"
      (rename Fr _ _ _ _ => kF; rename News _ _ _ _ => kN)
      have h := fun tk => hQ tu _ tk kF (cb_drop kN (fun p hp => .tail _ hp))
      rw [unitAt_hit hr hn (decide_eq_true ⟨by assumption, by assumption⟩)] at h
      exact h _
    · unfold Stop
      rename Fr _ _ _ _ => F5
      rename News _ _ _ _ => N5
      exact turnA_next F5 N5 (fun p hp => hp) off ⟨rfl, take_all hr hn (decide_eq_false (by lia)), uaM_cut rfl rfl⟩
    · unfold Stop
      rename Fr _ _ _ _ => F5
      rename News _ _ _ _ => N5
      exact turnA_next F5 N5 (fun p hp => hp) off ⟨rfl, take_all hr hn (decide_eq_false (by lia)), uaM_cut rfl rfl⟩
  · clear F1 N1
    intro h1 tk1 m1 nw hJ F1 N1
    refine cps fun G kG => ?_
    obtain ⟨rfl, hn, hlo⟩ := hJ
    refine kG ?_
    clear kG G
    have hvl := datAll_len hda
    rw [List.length_map] at hvl
    rw [hvl, List.take_length] at hn
    dsimp only
    walk_at "ks"
    (rename Fr _ _ _ _ => kF; rename News _ _ _ _ => kN)
    have h := fun tk => hQ tp _ tk kF kN
    rw [unitAt_none hn] at h
    exact h _
end
end
section
local macro_rules | `(tactic| walk_at "pad") => `(tactic| skip)
section
variable {w : World} {mean : ExcName → Option Value} {mg mb : Str → Option Value}
    {dp un : Nat} {gd : Option (List Code)} {cn : Str} {cs : Scope} {a : Addr} {ccd : Value} {cl : List (Str × Addr)} {outer : List Env} {A₀ : Around} {base h₀ : Heap} {L : Addr} {m : Str → Option Value} {s : Shared} {Q E : Value → Shared → Prop}
    {news : List (Addr × Obj)} (dm : KdMark)
    (B : Below A₀ base outer h₀) (F : Fr h₀ L s.heap m) (X : (heapK w.params).In h₀)
    (T : Top view (looseW view [Str.ofString "MEMORY_END"]) mean mg mb h₀) (hk : cs.kind = .function)
include dm B F X T hk
theorem law_sets_spec {rl : Addr} {vs : List Value} {nn : Nat} {rows : List Row}
    (N : News h₀ L s.heap news) (hrl : (rl, listOf vs.toArray nn) ∈ news) (hda : DatAll news vs (rows.map rowDat)) (hlen : rows.length ≤ 5)
    (hd : dp + 4 < recursionLimit) (hu : un + 40 < cLine)
    (hQ : ∀ d od kvs nw h' tk', od.IsDictOf (intKind PySem.Challenge.rw_og0206_01.row.prog w) kvs → GrD nw (groups rows) kvs → (d == sysModules) = false → (∀ p ∈ nw ++ news, p.1 ≠ d) → (∀ p ∈ nw, ∀ q ∈ news, p.1 ≠ q.1) → Fr h₀ L h' m → News h₀ L h' ((d, od) :: (nw ++ news)) → Q (.ref d) { s with heap := h', toks := tk' }) :
    wpAny (model PySem.Challenge.rw_og0206_01.row.prog w) (ktrTop dp un gd cn cs L a ccd cl outer) (call (.ref 336) [.ref rl]) Q E s := by
  refine wpAny_call ?_
  walk_at "myenter"
  walk_at "ks"
  unfold Stop
  rename Fr _ _ _ _ => F1
  rename News _ _ _ _ => N1
  rename Obj.IsDictOf (intKind _ _) _ [] => hd0
  rename ∀ p ∈ news, p.1 < _ => l9
  rename PyProof.V.FlatPairs _ _ _ => qf
  clear qf
  k_dflt (refine' iterListA (nn := nn) (vs := vs) (fun i m' nx => LsE PySem.Challenge.rw_og0206_01.row.prog w news (.ref rl) (groups (rows.take i)) m' nx) ?hh F1 N1 (.tail _ hrl) ?hc ?hd (LsE.mk (kvs := []) (nw := []) ⟨rfl, hd0, .nil, by assumption, (fun p hp => Nat.ne_of_lt (l9 p hp)), (fun p hp => nomatch hp), lsM_cut rfl rfl⟩) ?hJl ?turn ?fin; (case hh => exact rfl); (case hc => exact rfl); (case hd => exact rfl); k_whole)
  case hJl =>
    intro i m nw h
    refine cps fun G kG => ?_
    obtain ⟨d, od, kvs, nw', J⟩ := h
    refine kG ?_
    clear kG G
    rw [J.led]
    exact .tail _ (List.mem_append_right _ hrl)
  case turn =>
    clear F1 N1 hd0 l9
    intro I i v m1 nw h1 tk1 o hv hJ off F1 N1
    refine cps fun G kG => ?_
    refine LsE.out hJ ?_
    intro d od kvs nw0 J
    obtain rfl := J.led
    obtain ⟨r, T, n, tb, tz, tu, hr, rfl, hT⟩ := row_get hda hv
    refine kG ?_
    clear kG G
    rw [← J.loc] at F1
    unfold lsM at F1
    have hdi := J.dict
    have hlo := J.low
    have hT' := List.mem_append_right nw0 hT
    have hof := J.off
    generalize htl : nw0 ++ news = tl at N1 hT' hof off
    have hkl : kvs.length ≤ 16777216 := by
      have h1 := J.grp.len
      have h2 := groups_length (rows.take i)
      rw [List.length_take] at h2
      lia
    try k_unmd
    try walk_at "fo"
    walk_at "ks"
    rename Fr _ _ _ _ => F2
    rename News _ _ _ _ => N2
    refine cps fun G kG => ?_
    obtain ⟨l, ws, n2, hx, hl, hds⟩ := GrD.at N2 htl J.grp r.2.2
    refine kG ?_
    clear kG G
    have l2 := fun p hp => Heap.lt_size (N2 p hp).1
    have l3 := l2
    k_lt l2
    refine kdg_get2 (knd := intKind _ _) N2 (.tail _ (.tail _ (.head _))) hdi hlo (intKind_is _ _ _ _) _ rfl ?_
    rw [hx]
    have hwl : ws.length ≤ 5 := by
      have h1 := datAll_len hds
      have h2 := psOf_small r.2.2 (groups_small (rows.take i))
      rw [List.length_map] at h1
      rw [List.length_take] at h2
      lia
    walk_at "ks"
    rename Fr _ _ _ _ => F3
    rename News _ _ _ _ => N3
    refine add_any F3 N3 (by k_mem) (by k_mem) (by rw [sizeLine_eq]; simp only [List.length_cons, List.length_nil]; lia) ?_
    intro D h4 F4 N4 l4
    clear F3 N3
    k_lt l4
    have Id : @Ne Nat I d := Ne.symm (off _ (.head _))
    walk_at "ks"
    refine kda_set F4 N4 (by k_updF) hdi (intKind_is _ _ _ _) (by rw [sizeLine_eq]; exact hkl) ?_
    intro h5 od' F5 N5 hd5
    walk_at "ks"
    unfold Stop
    rename Fr _ _ _ _ => F6
    rename News _ _ _ _ => N6
    rename (I < _ ∧ d < _ ∧ AllLt _ tl) => lE
    refine cps fun G kG => ?_
    obtain ⟨nx', q1, q2, q3⟩ := J.next hr N6 htl hds hd5 l3 (by lia) (by lia) lE off
    refine kG ?_
    clear kG G
    exact ⟨_, _, _, nx', rfl, F6, q1, q2, q3 _ (lsM_cut rfl rfl)⟩
  case fin =>
    clear F1 N1 hd0 l9
    intro h1 tk1 m1 nw hJ F1 N1
    refine cps fun G kG => ?_
    refine LsE.out hJ ?_
    intro d od kvs nw0 J
    obtain rfl := J.led
    refine kG ?_
    clear kG G
    have hvl := datAll_len hda
    rw [List.length_map] at hvl
    rw [hvl, List.take_length] at J
    rw [← J.loc] at F1
    unfold lsM at F1
    dsimp only
    walk_at "ks"
    rename Fr _ _ _ _ => kF; rename News _ _ _ _ => kN
    exact hQ _ _ _ _ _ _ J.dict J.grp J.low J.off J.apart kF kN
end
end
end
end
section
local macro_rules | `(tactic| walk_at "myenter") => `(tactic| k_dflt (focus (apply code_defC; walk_at "into"; exact rfl; decide +kernel; rotate_left; exact rfl; exact rfl; exact rfl; k_whole; intro g' L' h' tk' cells' FG' F' N' Y' B' X' T' l1; (try k_lt l1); k_cells Y'; (try simp only [List.cons_append, List.nil_append] at N'); (try dsimp only); walk_at "fe")))
section
section
variable {w : World} {mean : ExcName → Option Value} {mg mb : Str → Option Value}
    {dp un : Nat} {gd : Option (List Code)} {cn : Str} {cs : Scope} {a : Addr} {ccd : Value} {cl : List (Str × Addr)} {outer : List Env} {A₀ : Around} {base h₀ : Heap} {L : Addr} {m : Str → Option Value} {s : Shared} {Q E : Value → Shared → Prop}
    {news : List (Addr × Obj)} (dm : KdMark)
    (B : Below A₀ base outer h₀) (F : Fr h₀ L s.heap m) (X : (heapK w.params).In h₀)
    (T : Top view (looseW view [Str.ofString "MEMORY_END"]) mean mg mb h₀) (hk : cs.kind = .function)
include dm B F X T hk
theorem law_octets {x wd : Int} {t t' : Tok}
    (N : News h₀ L s.heap news) (hw0 : 0 ≤ wd) (hw4 : wd ≤ 4)
    (hd : dp + 2 < recursionLimit) (hu : un + 20 < cLine)
    (hQ : ∀ r vs n h' tk', Fr h₀ L h' m → News h₀ L h' ((r, listOf vs.toArray n) :: news) → IntsAre vs (leB x wd.toNat) → (∀ p ∈ news, p.1 ≠ r) → Q (.ref r) { s with heap := h', toks := tk' }) :
    wpAny (model PySem.Challenge.rw_og0206_01.row.prog w) (ktrTop dp un gd cn cs L a ccd cl outer) (call (.ref 329) [.int x t, .int wd t']) Q E s := by
  refine wpAny_call ?_
  walk_at "myenter"
  walk_at "ks"
  rename_i hI _ _ _ _ _ _ o kF kN _ _
  exact hQ _ _ _ _ _ kF (sub_tail kN) (by rw [leB_eq, Int.sub_zero] at hI; exact hI) (off1_all o.2)
end
section
variable {w : World} {mean : ExcName → Option Value} {mg mb : Str → Option Value}
    {dp un : Nat} {gd : Option (List Code)} {cn : Str} {cs : Scope} {a : Addr} {ccd : Value} {cl : List (Str × Addr)} {outer : List Env} {A₀ : Around} {base h₀ : Heap} {L : Addr} {m : Str → Option Value} {s : Shared} {Q E : Value → Shared → Prop}
    {news : List (Addr × Obj)} (dm : KdMark)
    (B : Below A₀ base outer h₀) (F : Fr h₀ L s.heap m) (X : (heapK w.params).In h₀) (N : News h₀ L s.heap news)
    (T : Top view (looseW view [Str.ofString "MEMORY_END"]) mean mg mb h₀) (hk : cs.kind = .function)
include dm B F X N T hk
theorem law_octets4 {x : Int} {t t' : Tok}
    (hd : dp + 2 < recursionLimit) (hu : un + 20 < cLine)
    (hQ : ∀ r vs n h' tk', Fr h₀ L h' m → News h₀ L h' ((r, listOf vs.toArray n) :: news) → IntsAre vs (leB x 4) → (∀ p ∈ news, p.1 ≠ r) → Q (.ref r) { s with heap := h', toks := tk' }) :
    wpAny (model PySem.Challenge.rw_og0206_01.row.prog w) (ktrTop dp un gd cn cs L a ccd cl outer) (call (.ref 329) [.int x t, .int 4 t']) Q E s :=
  law_octets dm B F X T hk N (by decide) (by decide) hd hu hQ
end
end
end
section
local macro_rules | `(tactic| walk_at "ci") => `(tactic| (intros; (try (rename News _ _ _ _ => nN; dsimp only at nN)); (try dsimp only); (try k_sweep)))
section
local macro_rules | `(tactic| walk_at "cs") => `(tactic| (ktr_room; ktr_units; all_goals walk_at "ci"))
section
local macro_rules | `(tactic| walk_at "exec While Compare") => `(tactic| (k_here; refine Stop.out ?_))
section
local macro_rules | `(tactic| walk_at "exec While BoolOp") => `(tactic| (k_here; refine Stop.out ?_))
section
local macro_rules | `(tactic| walk_at "exec While") => `(tactic| (k_here; refine Stop.out ?_))
section
local macro_rules | `(tactic| walk_at "KswEnd") => `(tactic| refine Stop.out ?_)
section
local macro_rules | `(tactic| walk_at "call ref") => `(tactic| (k_here; k_dflt (focus ((first | ((with_reducible show wpAny _ _ (call _ [_, _, Value.int 4 _]) _ _ _); apply law_word4) | apply law_word2); exact kdMark; k_asm; k_asm; k_asm; k_asm; k_asm; exact rfl; k_mem; assumption; assumption; lia; lia; lia; walk_at "cs"))))
section
section
variable {w : World} {mean : ExcName → Option Value} {mg mb : Str → Option Value}
    {dp un : Nat} {gd : Option (List Code)} {cn : Str} {cs : Scope} {a : Addr} {ccd : Value} {cl : List (Str × Addr)} {outer : List Env} {A₀ : Around} {base h₀ : Heap} {L : Addr} {m : Str → Option Value} {s : Shared} {Q E : Value → Shared → Prop}
    {news : List (Addr × Obj)} (dm : KdMark)
    (B : Below A₀ base outer h₀) (F : Fr h₀ L s.heap m) (X : (heapK w.params).In h₀)
    (T : Top view (looseW view [Str.ofString "MEMORY_END"]) mean mg mb h₀) (hk : cs.kind = .function)
include dm B F X T hk
theorem law_read_spec {l : Addr} {vs : List Value} {ns : List Int} {nn : Nat}
    (N : News h₀ L s.heap news) (hl : (l, listOf vs.toArray nn) ∈ news) (hi : IntsAre vs ns) (hby : ∀ y ∈ ns, 0 ≤ y ∧ y < 256) (hz : ns.length < 2 ^ 20)
    (hd : dp + 10 < recursionLimit) (hu : un + 100 < cLine)
    (hQ1 : ∀ f (ws : List Value) n' rows new h' tk', readAll ns 0 = some rows → Fr h₀ L h' m → News h₀ L h' ((f, listOf ws.toArray n') :: (new ++ news)) → DatAll new ws (rows.map rowDat) → (∀ p ∈ new, ∀ q ∈ news, p.1 ≠ q.1) → (∀ p ∈ new ++ news, p.1 ≠ f) → ws.length ≤ ns.length → Q (.ref f) { s with heap := h', toks := tk' })
    (hQ2 : ∀ h' tk', readAll ns 0 = none → Fr h₀ L h' m → News h₀ L h' news → Q .none { s with heap := h', toks := tk' }) :
    wpAny (model PySem.Challenge.rw_og0206_01.row.prog w) (ktrTop dp un gd cn cs L a ccd cl outer) (call (.ref 348) [.ref l]) Q E s := by
  refine wpAny_call ?_
  walk_at "myenter"
  walk_at "ks"
  unfold Stop
  rename Fr _ _ _ _ => F1
  rename News _ _ _ _ => N1
  rename ∀ p ∈ news, p.1 < _ => l1
  refine While_inv2 (LrE ns news (.ref l)) (n₀ := ns.length) F1 (cb_drop N1 ?sub) (LrE.mk (k := 0) (vs := []) (nn := 0) (rows := []) (nw := []) ⟨rfl, Nat.zero_le _, ?_, .nil, (fun p hp => nomatch hp), (fun p hp => Nat.ne_of_lt (l1 p hp)), rfl, Nat.le_refl _, _, lrM_cut rfl rfl rfl⟩) ?turn
  case sub =>
    intro p hp
    rcases List.mem_cons.mp hp with rfl | hp
    · exact .tail _ (.head _)
    · exact .tail _ (.tail _ hp)
  · cases readAll ns 0 <;> rfl
  case turn =>
    intro n m' nx h tk F' N' hJ
    clear F1 N1 l1
    refine cps fun G kG => ?_
    refine LrE.out hJ ?_
    intro fd k ws n1 rows nw J
    obtain rfl := J.led
    have hkl := J.kle
    have hfew := J.few
    have hF := F'
    obtain ⟨t, hlo⟩ := J.loc
    refine kG ?_
    clear kG G
    rw [← hlo] at hF
    unfold lrM at hF
    clear F'
    have hoff := J.off
    have hl2 : (l, listOf vs.toArray nn) ∈ nw ++ news := List.mem_append_right _ hl
    generalize htl : nw ++ news = tl at N' hoff hl2
    try k_unmd
    try walk_at "fo"
    walk_at "ks"
    · repeat (unfold WhileStep2; dsimp only; walk_at "ks")
      (rename Fr _ _ _ _ => kF; rename News _ _ _ _ => kN)
      refine cps fun G kG => ?_
      subst htl
      refine kG ?_
      clear kG G
      refine hQ2 _ _ ?_ kF (cb_drop kN (fun p hp => .tail _ (List.mem_append_right _ hp)))
      rw [J.all, readAll_none (by lia) (by unfold readSet; rw [if_neg (by lia)])]
      rfl
    · repeat (unfold WhileStep2; dsimp only; walk_at "ks")
      (rename Fr _ _ _ _ => kF; rename News _ _ _ _ => kN)
      refine cps fun G kG => ?_
      subst htl
      refine kG ?_
      clear kG G
      have w0 := (word4_bnd hby k).1
      refine hQ2 _ _ ?_ kF (cb_drop kN ?_)
      · rw [J.all, readAll_none (by lia) (by unfold readSet; rw [if_pos (by lia), if_neg (by rw [Int.toNat_natCast] at *; lia)])]
        rfl
      · intro p hp
        exact .tail _ (.tail _ (List.mem_append_right _ hp))
    · unfold Stop
      have w0 := (word4_bnd hby k).1
      refine cps fun G kG => ?_
      obtain ⟨e, he⟩ : ∃ e : Nat, e = k + 4 + (wordOf ns k 4).toNat := ⟨_, rfl⟩
      rename [wordOf ns _ 2, _, _] = [2, 4, 0] => hhead
      have hwd := hhead
      rename Fr _ _ _ _ => F3
      rename News _ _ _ _ => N3
      rw [show ((k : Int) + 4 + wordOf ns (↑k : Int).toNat 4) = (e : Int) by rw [Int.toNat_natCast]; lia] at *
      have N4 := cb_drop N3 led_lp
      clear N3
      rename _ < _ ∧ _ < _ ∧ _ < _ ∧ _ < _ ∧ AllLt _ tl => l5
      obtain ⟨-, -, -, lfd, ltl⟩ := l5
      subst htl
      refine kG ?_
      clear kG G
      refine While_inv2 (LpE ns news fd (.ref l) k t e _ (wordOf ns (k + 6) 4) rows) (n₀ := e - (k + 16)) F3 N4 (LpE.mk (q := k + 16) (b := -1) (z := -1) (vs := ws) (nn := n1) (rows := []) (nw := nw) ⟨rfl, .inr ⟨by lia, ?rel⟩, ?dat, J.apart, J.off, ?offp, ?ne, rfl, by lia, by lia, Nat.le_refl _, _, lpM_cut rfl rfl rfl (congrArg (fun i => some (Value.int i _)) (show (k : Int) + 4 + wordOf ns (↑k : Int).toNat 4 = (e : Int) by rw [Int.toNat_natCast]; lia)) rfl rfl⟩) ?turn2
      case rel => cases readRows ns e (wordOf ns (k + 6) 4) (k + 16) <;> rfl
      case dat => rw [List.append_nil]; exact J.dat
      case offp => exact tbn_neAll ltl
      case ne => exact Nat.ne_of_gt lfd
      clear F3 N4 ltl lfd
      have hel : e ≤ ns.length := by lia
      have hkn : k < ns.length := by lia
      have hrs := readSet_at (by lia) he hel hhead
      intro n2 m2 nx2 h2 tk2 F' N' hJ2
      refine cps fun G kG => ?_
      refine LpE.out hJ2 ?_
      intro q pl b z t1 t2 np ws2 nn2 rows2 nw2 J2
      obtain rfl := J2.led
      have hqle := J2.qle
      have hqlo := J2.qlo
      have hfew2 := J2.few
      have hF2 := F'
      obtain ⟨tp, hlo2⟩ := J2.loc
      refine kG ?_
      clear kG G
      rw [← hlo2] at hF2
      unfold lpM at hF2
      clear F'
      have hoff2 := J2.off
      have hoffp := J2.offp
      have hne := J2.ne
      have hl2 : (l, listOf vs.toArray nn) ∈ nw2 ++ news := List.mem_append_right _ hl
      generalize htl : nw2 ++ news = tl at N' hoff2 hoffp hl2
      walk_at "ks"
      · repeat (unfold WhileStep2; dsimp only; walk_at "ks")
        (rename Fr _ _ _ _ => kF; rename News _ _ _ _ => kN)
        refine cps fun G kG => ?_
        subst htl
        refine kG ?_
        clear kG G
        rename [b, z] = [0, 0] => h00
        refine hQ2 _ _ ?_ kF (cb_drop kN ?_)
        · rw [J.all, readAll_none hkn (by rw [J2.stop h00 hrs, if_neg (by lia)])]
          rfl
        · intro p hp
          exact .tail _ (.tail _ (.tail _ (List.mem_append_right _ hp)))
      · subst htl
        rename [b, z] = [0, 0] => h00
        rename Fr _ _ _ _ => F5
        rename News _ _ _ _ => N5
        have hme := J.meas
        have hgt := readSet_gt (ns := ns) (st := k) (e := e) (by rw [J2.stop h00 hrs, if_pos (by lia)])
        refine' wh2_mk F5 (cb_drop N5 led_drop2) ?lt (LrE.mk (fd := fd) ?J)
        case J =>
          refine (J2.next J h00 (by lia) hkn hrs ?hm).2
          exact ⟨_, lrM_cut rfl rfl (if_pos rfl)⟩
        case lt => exact meas_lt hme hkn hgt.1
      · repeat (unfold WhileStep2; dsimp only; walk_at "ks")
        (rename Fr _ _ _ _ => kF; rename News _ _ _ _ => kN)
        refine cps fun G kG => ?_
        subst htl
        refine kG ?_
        clear kG G
        rename ¬ [b, z] = [0, 0] => h00
        refine hQ2 _ _ ?_ kF (cb_drop kN ?_)
        · rw [J.all, readAll_none hkn (J2.short h00 (by lia) hrs)]
          rfl
        · intro p hp
          exact .tail _ (.tail _ (.tail _ (List.mem_append_right _ hp)))
      · rename Fr _ _ _ _ => F5
        rename News _ _ _ _ => N5
        rename ¬ [b, z] = [0, 0] => h00
        rename _ = [0, 0] => hw
        rename _ < _ ∧ _ < _ ∧ fd < _ ∧ AllLt _ tl => l2
        refine cps fun G kG => ?_
        subst htl
        refine kG ?_
        clear kG G
        have hq8 : q + 8 ≤ e := by lia
        have hme := J2.meas
        exact wh2_mk F5 (cb_drop N5 led_last) (meas_lt hme (Nat.lt_of_lt_of_le (lt8 _) hq8) (lt8 _)) (LpE.mk (J2.last h00 hq8 hel hw (tbn_neAll l2.2.2.2) (Nat.ne_of_gt l2.2.2.1) ⟨_, lpM_cut rfl rfl rfl rfl rfl rfl⟩))
      · rename Fr _ _ _ _ => F5
        rename News _ _ _ _ => N5
        rename ¬ [b, z] = [0, 0] => h00
        rename ¬ _ = [0, 0] => hw
        rename _ < _ ∧ _ < _ ∧ _ < _ ∧ _ < _ ∧ fd < _ ∧ AllLt _ tl => l5
        rename _ < _ ∧ _ < _ ∧ fd < _ ∧ AllLt _ tl => l2
        refine cps fun G kG => ?_
        subst htl
        refine kG ?_
        clear kG G
        have hq8 : q + 8 ≤ e := by lia
        have hme := J2.meas
        exact wh2_mk F5 (cb_drop N5 led_more) (meas_lt hme (Nat.lt_of_lt_of_le (lt8 _) hq8) (lt8 _)) (LpE.mk (J2.more h00 hq8 hel hw (tbn_neAll l2.2.2.2) (Nat.ne_of_gt l2.2.2.1) (tbn_neAll l5.2.2.2.2.2) (Nat.ne_of_gt l5.2.1) (Nat.ne_of_gt l5.2.2.2.2.1) ⟨_, lpM_cut rfl rfl rfl rfl rfl rfl⟩))
    · repeat (unfold WhileStep2; dsimp only; walk_at "ks")
      (rename Fr _ _ _ _ => kF; rename News _ _ _ _ => kN)
      refine cps fun G kG => ?_
      subst htl
      refine kG ?_
      clear kG G
      rename ¬ [wordOf ns _ 2, _, _] = [2, 4, 0] => hhead
      refine hQ2 _ _ ?_ kF (cb_drop kN ?_)
      · rw [J.all, readAll_none (by lia) ?_]
        · rfl
        · unfold readSet
          rw [if_pos (by lia), if_neg ?_]
          rintro ⟨_, h1, h2, h3⟩
          refine hhead ?_
          rw [show ((k : Int) + 4).toNat = k + 4 by lia, show ((k : Int) + 10).toNat = k + 10 by lia, show ((k : Int) + 11).toNat = k + 11 by lia, h1, h2, h3]
      · intro p hp
        exact .tail _ (.tail _ (.tail _ (.tail _ (List.mem_append_right _ hp))))
    · (rename Fr _ _ _ _ => kF; rename News _ _ _ _ => kN)
      refine cps fun G kG => ?_
      subst htl
      refine kG ?_
      clear kG G
      have hend : ¬ k < ns.length := by lia
      refine hQ1 fd ws n1 rows nw _ _ ?_ kF kN J.dat J.apart hoff (by lia)
      rw [J.all, readAll_end hend]
      simp
end
end
end
end
end
end
end
section
local macro_rules | `(tactic| walk_at "TurnA") => `(tactic| refine Stop.out ?_)
section
local macro_rules | `(tactic| walk_at "eval ListComp") => `(tactic| (k_here; k_dflt (refine ListComp_G (F₀ := by k_asm) (by with_unfolding_all rfl) (by decide) (by rfl) (by decide) ?_)))
section
local macro_rules | `(tactic| walk_at "pyIter ref") => `(tactic| (k_here; refine Stop.out ?_))
section
local macro_rules | `(tactic| walk_at "binaryOp Add ref ref") => `(tactic| (k_here; (with_reducible show wpAny _ _ (binaryOp _ (Value.ref _) (Value.ref _)) _ _ _); k_dflt (apply kmk_add_ints; k_asm; k_asm; kmk_list; kmk_list; l_ints; l_ints; rotate_left; (simp only [sizeLine_eq, leB_len, List.length_append, List.length_cons, List.length_nil]; lia)); intro D' ws' h' F' N' l1 hI'; (try k_lt l1); (try k_sweep)))
section
local macro_rules | `(tactic| walk_at "subscriptTail") => `(tactic| (k_here; (with_reducible show wpAny _ _ (subscriptTail _ _ (Value.ref _) (Value.int _ _)) _ _ _); refine kda_item (knd := PySem.intKind _ _) (by k_asm) (by k_mem) (by k_asm) (intKind_is _ _ _ _) (by assumption) ?_))
section
local macro_rules | `(tactic| walk_at "call ref") => `(tactic| (k_here; (with_reducible show wpAny _ _ (call (Value.ref 329) [Value.int _ _, Value.int 4 _]) _ _ _); k_dflt (focus (apply law_octets4; exact kdMark; k_asm; k_asm; k_asm; k_asm; k_asm; exact rfl; walk_at "cs"))))
section
local macro_rules | `(tactic| walk_at "call ref") => `(tactic| (k_here; (with_reducible show wpAny _ _ (call (Value.ref 336) _) _ _ _); refine Stop.out ?_))
section
local macro_rules | `(tactic| walk_at "exec Expr") => `(tactic| (k_here; refine Stop.out ?_))
section
section
variable {w : World} {mean : ExcName → Option Value} {mg mb : Str → Option Value}
    {dp un : Nat} {gd : Option (List Code)} {cn : Str} {cs : Scope} {a : Addr} {ccd : Value} {cl : List (Str × Addr)} {outer : List Env} {A₀ : Around} {base h₀ : Heap} {L : Addr} {m : Str → Option Value} {s : Shared} {Q E : Value → Shared → Prop}
    {news : List (Addr × Obj)} (dm : KdMark)
    (B : Below A₀ base outer h₀) (F : Fr h₀ L s.heap m) (X : (heapK w.params).In h₀)
    (T : Top view (looseW view [Str.ofString "MEMORY_END"]) mean mg mb h₀) (hk : cs.kind = .function)
include dm B F X T hk
theorem law_written_spec {rl : Addr} {vs : List Value} {nn : Nat} {rows : List Row}
    (N : News h₀ L s.heap news) (hrl : (rl, listOf vs.toArray nn) ∈ news) (hda : DatAll news vs (rows.map rowDat)) (hlen : rows.length ≤ 5)
    (hd : dp + 10 < recursionLimit) (hu : un + 80 < cLine)
    (hQ : ∀ r g gvs gn c cvs cn cw (cells : List (Int × Int)) nt h' tk', IntsAre gvs (octsW (groups rows)) → DatAll cw cvs (cells.map pairDat) → (∀ x ∈ cells, goodCell x) → cells.length ≤ 500 → (∀ p ∈ cw, ∀ q ∈ news, p.1 ≠ q.1) → (∀ q ∈ news, g ≠ q.1) → (∀ q ∈ news, c ≠ q.1) → (∀ q ∈ news, r ≠ q.1) →
      Fr h₀ L h' m → News h₀ L h' ((r, tupOf [.ref g, .ref c] nt) :: (g, listOf gvs.toArray gn) :: (c, listOf cvs.toArray cn) :: (cw ++ news)) → Q (.ref r) { s with heap := h', toks := tk' }) :
    wpAny (model PySem.Challenge.rw_og0206_01.row.prog w) (ktrTop dp un gd cn cs L a ccd cl outer) (call (.ref 341) [.ref rl]) Q E s := by
  refine wpAny_call ?_
  walk_at "myenter"
  walk_at "ks"
  unfold Stop
  rename Fr _ _ _ _ => F1
  rename News _ _ _ _ => N1
  k_dflt (refine' law_sets_spec ?zdm ?zB ?zF ?zX ?zT ?zhk N1 ?zhrl ?zhda hlen ?zhd ?zhu ?_; (case zdm => first | assumption | exact kdMark); (case zB => k_asm); (case zF => k_asm); (case zX => k_asm); (case zT => k_asm); (case zhk => first | exact rfl | assumption); (case zhrl => k_mem); (case zhda => exact hda.mono fun p hp => .tail _ (.tail _ hp)); (case zhd => ktr_room); (case zhu => ktr_units); k_whole)
  clear F1 N1
  intro d od kvs nw h2 tk2 hdi hgr hlo hof hap F1 N1
  walk_at "ks"
  unfold Stop
  rename Fr _ _ _ _ => F2
  rename News _ _ _ _ => N2
  rename (_ < _ ∧ AllLt _ news) => lgc
  rename (∀ p ∈ news, p.1 < _) => lg0
  have hgap := lw_gap (od := od) hof hap lg0
  have offc := lw_off (od := od) hof hap lgc
  have N3 := cb_drop N2 lw_led
  have hdl : (rl, listOf vs.toArray nn) ∈ (d, od) :: (nw ++ news) := .tail _ (List.mem_append_right _ hrl)
  clear N2 hof hap
  refine cps fun G kG => ?_
  obtain ⟨tl, htl⟩ : ∃ tl, tl = (d, od) :: (nw ++ news) := ⟨_, rfl⟩
  refine kG ?_
  clear kG G
  have hdt : (d, od) ∈ tl := htl ▸ .head _
  have hnt : ∀ p ∈ nw, p ∈ tl := fun p hp => htl ▸ .tail _ (List.mem_append_left _ hp)
  rw [← htl] at N3 hdl offc hgap
  have hsm := groups_small rows
  have hGn := groups_length rows
  have hkl := hgr.len
  have hnod : (kvs.map (·.1)).Nodup := by obtain ⟨es, ep, hes⟩ := hdi; exact hes.2.2.2.2
  k_dflt (refine' iterDictA (d := d) (od := od) (kvs := kvs) (LwE tl (.ref rl) (.ref d) (groups rows)) ?zhh F2 N3 (.tail _ (.tail _ hdt)) hdi hlo (LwE.mk (gvs := []) (cvs := []) (cw := []) (cells := []) ⟨rfl, .nil, .nil, (fun x hx => nomatch hx), Nat.zero_le _, offc, Nat.ne_of_lt lgc.1, (fun p hp => nomatch hp), hgap, lwM_cut rfl rfl rfl rfl⟩) ?zhJl ?zturn ?zfin; (case zhh => exact rfl); k_whole)
  case zhJl =>
    intro i m nw h
    refine cps fun G kG => ?_
    refine LwE.out h ?_
    intro g gvs gn c cvs cn cw cells J
    refine kG ?_
    clear kG G
    rw [J.led]
    exact .tail _ (.tail _ (List.mem_append_right _ hdt))
  case zturn =>
    clear F2 N3 offc lgc lg0 hgap
    intro I i k x t m1 nx h3 tk3 o hkv hJ off F1 N1
    refine cps fun G kG => ?_
    refine LwE.out hJ ?_
    intro g gvs gn c cvs cn cw cells J
    obtain rfl := J.led
    obtain ⟨ps, l, ws, n, hgi, hval, rfl, hl, hws⟩ := hgr.item hnod hkv
    refine kG ?_
    clear kG G
    have hps : ps.length ≤ 5 := Nat.le_trans (hsm _ (List.mem_of_getElem? hgi)) hlen
    have hi : i < (groups rows).length := (List.getElem?_eq_some_iff.mp hgi).1
    rw [← J.loc] at F1
    unfold lwM at F1
    have hoct := J.oct
    have hol : (octsW ((groups rows).take i)).length ≤ 320 := by
      have h1 := octsW_len (G := (groups rows).take i) fun q hq => Nat.le_trans (hsm q (List.mem_of_mem_take hq)) hlen
      rw [List.length_take] at h1
      lia
    have hfew := J.few
    have hoc := J.off
    have hgc : @Ne Nat g c := J.gc
    have hl2 := List.mem_append_right cw (hnt _ hl)
    have hd2 := List.mem_append_right cw hdt
    generalize htl2 : cw ++ tl = tl2 at N1 hoc off hl2 hd2
    try k_unmd
    try walk_at "fo"
    walk_at "ks"
    rename Fr _ _ _ _ => F3
    rename News _ _ _ _ => N3
    have hwl : ws.length ≤ 5 := by
      have h1 := datAll_len hws
      rw [List.length_map] at h1
      lia
    refine add_any F3 N3 (by k_mem) (by k_mem) (by rw [sizeLine_eq]; simp only [List.length_cons, List.length_nil]; lia) ?_
    intro X h4 F4 N4 l4
    clear F3 N3
    walk_at "ks"
    unfold Stop
    refine cps fun G kG => ?_
    obtain ⟨r3, N5, hX3, hd3, hs3⟩ := lw_setup N4 hws fun p hp => .tail _ (.tail _ (.tail _ (htl2 ▸ List.mem_append_right _ (hnt _ hp))))
    refine kG ?_
    clear kG G
    clear N4
    refine iterListA (ax := X) (nn := 0) (vs := ws ++ [Value.ref _]) (fun j m' nx => ∃ b bvs bn, nx = (b, listOf bvs.toArray bn) :: r3 ∧ IntsAre bvs (flatB (List.take j (ps ++ [((0 : Int), (0 : Int))]))) ∧ @Ne Nat b c ∧ lw2M (.int k t) (.int ((octsW ((groups rows).take i)).length : Int) _) (.ref b) (.ref g) (.ref c) (.ref d) (.ref rl) m' = m') rfl F4 N5 (.tail _ hX3) rfl rfl ⟨_, [], _, rfl, .nil, ?zne0, lw2M_cut rfl rfl rfl rfl rfl rfl rfl⟩ (fun j m nx h => by obtain ⟨b, bvs, bn, e, _⟩ := h; rw [e]; exact .tail _ hX3) ?zturn2 ?zfin2
    case zturn2 =>
      clear F4 N5
      intro I2 j v2 m2 nx2 h5 tk5 o2 hv2 hJ2 off2 F6 N6
      refine cps fun G kG => ?_
      obtain ⟨b, bvs, bn, rfl, hbi, hbc, hlo2⟩ := hJ2
      obtain ⟨r, T, nT, tb, tz, tu, hr, rfl, hT⟩ := row_get hd3 hv2
      obtain ⟨hr1, hr2⟩ := lw_at hr
      refine kG ?_
      clear kG G
      have hbl : (flatB (List.take j (ps ++ [((0 : Int), (0 : Int))]))).length ≤ 48 := by
        rw [flatB_len, List.length_take, List.length_append]
        simp only [List.length_cons, List.length_nil]
        lia
      rw [← hlo2] at F6
      unfold lw2M lwM at F6
      try k_unmd
      try walk_at "fo"
      walk_at "ks"
      unfold Stop
      rename Fr _ _ _ _ => F7
      rename News _ _ _ _ => N7
      rename (_ < _ ∧ _ < _ ∧ _ < _ ∧ I2 < _ ∧ b < _ ∧ AllLt _ r3) => lD
      rename IntsAre _ (flatB _ ++ leB r.1 4 ++ leB r.2.1 4) => hI
      refine ⟨_, _, _, _ :: r3, rfl, F7, cb_drop N7 lw_led3, lw_off2 off2 lD.2.2.2.1, _, _, _, rfl, ?_, ?_, lw2M_cut rfl rfl rfl rfl rfl rfl rfl⟩
      · rw [flatB_snoc _ hr1]; exact hI
      · exact Nat.ne_of_gt (kst_ltOf lD.2.2.2.2.2 (c, _) (hs3 _ (.tail _ (.tail _ (.head _)))))
    case zne0 => exact Nat.ne_of_gt (by lia)
    case zfin2 =>
      clear F4 N5
      intro h5 tk5 m2 nx2 hJ2 F6 N6
      refine cps fun G kG => ?_
      obtain ⟨b, bvs, bn, rfl, hbi, hbc, hlo2⟩ := hJ2
      refine kG ?_
      clear kG G
      have hwl2 := datAll_len hd3
      simp only [List.length_map] at hwl2
      rw [hwl2, List.take_length] at hbi
      have hbl : (flatB (ps ++ [((0 : Int), (0 : Int))])).length ≤ 48 := by
        rw [flatB_len, List.length_append]
        simp only [List.length_cons, List.length_nil]
        lia
      rw [← hlo2] at F6
      unfold lw2M lwM at F6
      have N7 := cb_drop N6 (fun p hp => (List.mem_cons.mp hp).elim (fun e => e ▸ .head _) fun h => .tail _ (hs3 p h) : ∀ p ∈ (b, listOf bvs.toArray bn) :: (I, o) :: (g, listOf gvs.toArray gn) :: (c, listOf cvs.toArray cn) :: tl2, p ∈ (b, listOf bvs.toArray bn) :: r3)
      clear N6
      dsimp only
      walk_at "ks"
      unfold Stop
      rename News _ _ _ _ => N8
      rename IntsAre _ (_ ++ flatB (ps ++ [((0 : Int), (0 : Int))])) => hI8
      replace hI8 := lw_oct hgi hI8
      have N9 := cb_drop N8 lw_cut
      rename (_ ∧ _ ∧ _ ∧ _ ∧ _ ∧ _ ∧ _ ∧ _ ∧ b < _ ∧ I < _ ∧ g < _ ∧ c < _ ∧ AllLt _ tl2) => lG
      refine cps fun G kG => ?_
      obtain ⟨-, -, -, -, -, -, -, -, -, lGI, -, lGc, lGr⟩ := lG
      refine kG ?_
      clear kG G
      have hIc : @Ne Nat I c := Ne.symm (off _ (.tail _ (.head _)))
      clear N8 hbi hbc hlo2 hs3 hX3 hd3 l4 hwl hwl2
      have hc9 := lw_hc N9 (Nat.ne_of_gt lGc) hIc hoc
      refine wpAny_Expr_any ?_
      walk_at "ks"
      rename Fr _ _ _ _ => F10
      rename News _ _ _ _ => N10
      rename (c < _ ∧ _ < _ ∧ I < _ ∧ AllLt _ tl2) => lt1
      refine cps fun G kG => ?_
      obtain ⟨six, N11, hd6, ho6, hs6⟩ := lw_six (I := I) N10 hc9 lt1.1 lt1.2.2.1 lt1.2.2.2 (by rename (_ ∧ _ ∧ _ ∧ _ ∧ _ ∧ _ ∧ c < _ ∧ _ < _ ∧ I < _ ∧ AllLt _ tl2) => q; exact q.2.2.2.2.2.1) (by rename (_ ∧ c < _ ∧ _ < _ ∧ I < _ ∧ AllLt _ tl2) => q; exact q.1) (by rename (_ ∧ _ ∧ c < _ ∧ _ < _ ∧ I < _ ∧ AllLt _ tl2) => q; exact q.2.1) (by rename (_ ∧ _ ∧ _ ∧ c < _ ∧ _ < _ ∧ I < _ ∧ AllLt _ tl2) => q; exact q.2.2.1) (by rename (_ ∧ _ ∧ _ ∧ _ ∧ c < _ ∧ _ < _ ∧ I < _ ∧ AllLt _ tl2) => q; exact q.2.2.2.1) (by rename (_ ∧ _ ∧ _ ∧ _ ∧ _ ∧ c < _ ∧ _ < _ ∧ I < _ ∧ AllLt _ tl2) => q; exact q.2.2.2.2.1)
      refine kG ?_
      clear kG G
      clear N10 hc9
      have hcl := datAll_len J.dat
      rw [List.length_map] at hcl
      refine extend_any F10 N11 (.head _) ho6 (by simp only [List.length_cons, List.length_nil]; lia) ?_
      intro h11 n11 F12 N12
      clear F10 N11
      walk_at "ks"
      unfold Stop
      refine wpAny_Expr_any ?_
      have hol1 : (octsW ((groups rows).take (i + 1))).length ≤ 384 := by
        have h1 := octsW_len (G := (groups rows).take (i + 1)) fun q hq => Nat.le_trans (hsm q (List.mem_of_mem_take hq)) hlen
        rw [List.length_take] at h1
        lia
      walk_at "ks"
      unfold Stop
      rename Fr _ _ _ _ => F13
      rename News _ _ _ _ => N13
      rename IsRange _ _ _ _ _ _ _ _ => hrg
      have holI : (0 : Int) ≤ ((octsW ((groups rows).take i)).length : Int) := Int.natCast_nonneg _
      refine cps fun G kG => ?_
      obtain ⟨nr, hn1, hn2, hn3⟩ := rng4 (a := ((octsW ((groups rows).take i)).length : Int) + 16) (b := ((octsW ((groups rows).take (i + 1))).length : Int)) (by lia) (by lia)
      have hc13 : ∀ p ∈ six ++ tl2, p.1 ≠ c := fun p hp => ho6 p (.tail _ (.tail _ (.tail _ hp)))
      obtain ⟨base, hb0, N13, oc, hcb, ⟨oI, hIb⟩, hsb⟩ := lw_base N13
      refine kG ?_
      clear kG G
      refine compRangeA (LcE base c I tl2) rfl hrg ?zsmall hn1 F13 N13 (by rw [sizeLine_eq]; lia) (LcE.mk (pw := []) (cs := []) ⟨rfl, .nil, (fun x hx => nomatch hx), rfl, fun p hp => nomatch hp⟩) (fun i ys nw h => LcE.out h fun pw cs J => Nat.le_of_eq J.len) (fun C => rfl) (fun C => rfl) ?zturn3 ?zfin3
      case zsmall => exact rng_small (by lia) (by lia) (by lia) (by lia)
      case zturn3 =>
        clear F13 N13 hrg
        intro s2 hs2 I3 i3 t3 ys nx3 oI3 C oC D m3 h14 tk14 E' hi3 hJ3 hm3 hoC F14 N14 off3 ne3
        refine cps fun G kG => ?_
        obtain ⟨g3, rfl⟩ := hs2
        refine LcE.out hJ3 ?_
        intro pw cs J3
        obtain rfl := J3.led
        refine kG ?_
        clear kG G
        refine wpAny_tests_nil ?_
        rw [if_pos rfl]
        try k_unmd
        try walk_at "fo"
        walk_at "ks"
        rename Fr _ _ _ _ => F15
        rename News _ _ _ _ => N15
        rename (I3 < _ ∧ C < _ ∧ D < _ ∧ AllLt _ (pw ++ base)) => l15
        refine compNext_intro F15 (cb_drop N15 lw_led4) (lw_off4 off3 l15) (LcE.mk (lw_lc J3 ⟨(hn3 _ hi3).1, (hn3 _ hi3).2, .inr (.inr rfl)⟩ ⟨Nat.ne_of_gt (kst_ltOf l15.2.2.2 (c, oc) (List.mem_append_right _ hcb)), Nat.ne_of_gt (kst_ltOf l15.2.2.2 (I, oI) (List.mem_append_right _ hIb)), fun q hq => Nat.ne_of_gt (kst_ltOf l15.2.2.2 q (List.mem_append_right _ (hsb q (List.mem_append_right _ hq))))⟩))
      case zfin3 =>
        clear F13 N13 hrg
        intro s2 hs2 ys nx3 hJ3
        refine cps fun G kG => ?_
        obtain ⟨g3, rfl⟩ := hs2
        refine LcE.out hJ3 ?_
        intro pw cs J3
        obtain rfl := J3.led
        refine kG ?_
        clear kG G
        intro D h16 tk16 F16 N16 off16
        replace N16 : News _ _ _ ((D, listOf ys.toArray ys.length) :: (pw ++ base)) := N16
        have hDc : @Ne Nat D c := Ne.symm (off1_all off16 (c, oc) (List.mem_append_right _ hcb))
        have hgcN : @Ne Nat _ c := Nat.ne_of_gt lGc
        refine cps fun G kG => ?_
        subst hb0
        refine kG ?_
        clear kG G
        have N17 := cb_drop N16 lw_led5
        have hyl := J3.len
        have ho17 := lw_off5 N17 hDc hgcN hIc (fun p hp => (J3.off p hp).1) hc13
        clear N16
        walk_at "ks"
        rename Fr _ _ _ _ => F18
        rename News _ _ _ _ => N18
        refine extend_any F18 N18 (.head _) ho17 (by rw [List.length_append]; simp only [List.length_cons, List.length_nil]; lia) ?_
        intro h19 n19 F19 N19
        clear F18 N18
        refine cps fun G kG => ?_
        subst htl2
        refine kG ?_
        clear kG G
        walk_at "ks"
        unfold Stop
        rename Fr _ _ _ _ => F20
        rename News _ _ _ _ => N20
        refine turnA_next F20 N20 lw_led6 (lw_off6 lGI off hs6 J3.off) (LwE.mk (J.next holI (by lia) hd6 hs6 J3 hn2 hI8 hgcN (fun q hq => Nat.ne_of_gt (kst_ltOf lGr q (List.mem_append_right _ hq))) (lwM_cut rfl rfl rfl rfl)))
  case zfin =>
    clear F2 N3 offc lgc hgap
    intro h3 tk3 m3 nx3 hJ F3 N3
    refine cps fun G kG => ?_
    refine LwE.out hJ ?_
    intro g gvs gn c cvs cn cw cells J
    obtain rfl := J.led
    refine kG ?_
    clear kG G
    rw [hkl] at J
    have hoct := J.oct
    rw [List.take_length] at hoct
    rw [← J.loc] at F3
    unfold lwM at F3
    have hfew := J.few
    have N4 : News _ _ _ ((g, listOf gvs.toArray gn) :: (c, listOf cvs.toArray cn) :: (cw ++ news)) := cb_drop N3 fun p hp => by
      rcases List.mem_cons.mp hp with rfl | hp
      · exact .head _
      rcases List.mem_cons.mp hp with rfl | hp
      · exact .tail _ (.head _)
      rcases List.mem_append.mp hp with hp | hp
      · exact .tail _ (.tail _ (List.mem_append_left _ hp))
      · exact .tail _ (.tail _ (List.mem_append_right _ (htl ▸ .tail _ (List.mem_append_right _ hp))))
    clear N3
    dsimp only
    have hnews : ∀ q ∈ news, q ∈ tl := fun q hq => htl ▸ .tail _ (List.mem_append_right _ hq)
    walk_at "ks"
    rename_i l9 kF kN _ _
    exact hQ _ g gvs gn c cvs cn cw cells _ _ _ hoct J.dat J.good (by lia) (fun p hp q hq => J.apart p hp q (hnews q hq)) (fun q hq => J.gap q (hnews q hq)) (fun q hq => Ne.symm (J.off q (List.mem_append_right _ (hnews q hq)))) (fun q hq => Nat.ne_of_gt (kst_ltOf l9.2.2 q (List.mem_append_right _ hq))) kF kN
end
end
end
end
end
end
end
end
end
end
end
end
section
local macro_rules | `(tactic| walk_at "pyIter ref") => `(tactic| (k_here; (with_reducible show wpAny _ _ (pyIter (Value.ref _)) (fun it s₂ => CompIt _ _ _ _ _ _ _ _ _ _ _ _ _ it s₂) _ _); refine Stop.out ?_))
section
local macro_rules | `(tactic| walk_at "eval ListComp") => `(tactic| (k_here; k_dflt (refine ListComp_G (F₀ := by k_asm) (by with_unfolding_all rfl) (by decide) (by rfl) (by decide) ?_)))
section
local macro_rules | `(tactic| walk_at "exec Assign cons ListComp") => `(tactic| (k_here; k_dflt (refine Assign_ListComp_G (F₀ := by k_asm) (by rfl) (by with_unfolding_all rfl) (by with_unfolding_all rfl) (by decide) (by rfl) (by decide) (by rfl) (by rfl) ?_)))
section
local macro_rules | `(tactic| walk_at "myenter") => `(tactic| k_dflt (focus (apply code_defC; walk_at "into"; exact rfl; decide +kernel; rotate_left; exact rfl; exact rfl; exact rfl; k_whole; intro g' L' h' tk' cells' FG' F' N' Y' B' X' T' l1; (try k_lt l1); k_cells Y'; (try simp only [List.cons_append, List.nil_append] at N'); (try dsimp only); walk_at "fe")))
section
section
variable {w : World} {mean : ExcName → Option Value} {mg mb : Str → Option Value}
    {dp un : Nat} {gd : Option (List Code)} {cn : Str} {cs : Scope} {a : Addr} {ccd : Value} {cl : List (Str × Addr)} {outer : List Env} {A₀ : Around} {base h₀ : Heap} {L : Addr} {m : Str → Option Value} {s : Shared} {Q E : Value → Shared → Prop}
    {news : List (Addr × Obj)} (dm : KdMark)
    (B : Below A₀ base outer h₀) (F : Fr h₀ L s.heap m) (X : (heapK w.params).In h₀)
    (T : Top view (looseW view [Str.ofString "MEMORY_END"]) mean mg mb h₀) (hk : cs.kind = .function)
include dm B F X T hk
theorem law_unit_spec {rl : Addr} {vs : List Value} {nn : Nat} {rows : List Row} {pc : Int} {tp : Tok}
    (N : News h₀ L s.heap news) (hrl : (rl, listOf vs.toArray nn) ∈ news) (hda : DatAll news vs (rows.map rowDat)) (hlen : rows.length < 2 ^ 20)
    (hd : dp + 4 < recursionLimit) (hu : un + 100 < cLine)
    (hQ : ∀ t h' tk', Fr h₀ L h' m → News h₀ L h' news → Q (optI (unitAt rows pc) t) { s with heap := h', toks := tk' }) :
    wpAny (model PySem.Challenge.rw_og0206_01.row.prog w) (ktrTop dp un gd cn cs L a ccd cl outer) (call (.ref 367) [.ref rl, .int pc tp]) Q E s := by
  refine wpAny_call ?_
  walk_at "myenter"
  walk_at "ks"
  unfold Stop
  rename Fr _ _ _ _ => F1
  rename News _ _ _ _ => N1
  generalize bindL _ _ _ = mm at F1 ⊢
  rename Obj => oc
  k_dflt (refine' compListA (nn := nn) (vs := vs) (fun i v m => ∃ (r : Row) (tb tz tu : Tok), rows[i]? = some r ∧ m (Str.ofString "low") = some (.int r.1 tb) ∧ m (Str.ofString "size") = some (.int r.2.1 tz) ∧ m (Str.ofString "unit") = some (.int r.2.2 tu)) (fun i ys nw => nw = _ ∧ IntsAre ys (hits (rows.take i) pc)) ?hh F1 N1 (.tail _ hrl) ?hc ?hd ?hsz ⟨rfl, .nil⟩ ?hJl ?hlen ?asg ?turn ?fin; (case hh => exact rfl); (case hc => exact rfl); (case hd => exact rfl); k_whole)
  case hsz => have := datAll_len hda; rw [List.length_map] at this; rw [sizeLine_eq]; lia
  case hJl => exact fun i ys nw h => h.1 ▸ .tail _ hrl
  case hlen =>
    intro i ys nw h
    have h1 := PyProof.Rows.IntsAre.length h.2
    rw [h1]
    unfold hits
    rw [List.length_map]
    exact Nat.le_trans (List.length_filter_le _ _) (List.length_take_le _ _)
  case asg =>
    intro s2 i v ys nw C h tk m1 Q' E' hv hJ N' hn k
    refine cps fun G kG => ?_
    obtain ⟨rfl, hI⟩ := hJ
    obtain ⟨r, T, n, tb, tz, tu, hr, rfl, hT⟩ := row_get hda hv
    refine kG ?_
    clear kG G
    k_dflt (refine asg_tup3 rfl rfl rfl rfl rfl rfl (N' _ (.tail _ hT)).1 rfl rfl hn fun h3 tk3 hn3 hk3 => k h3 tk3 _ ⟨r, tb, tz, tu, hr, rfl, rfl, rfl⟩ hn3 hk3)
  case turn =>
    intro s2 hs2 I i v ys nw oI C oC D m2 h tk E' hv hJ hT hoC F' N' off ne
    refine cps fun G kG => ?_
    obtain ⟨g, rfl⟩ := hs2
    obtain ⟨rfl, hI⟩ := hJ
    obtain ⟨r, tb, tz, tu, hr, hlow, hsize, hunit⟩ := hT
    refine kG ?_
    clear kG G
    refine wpAny_tests_one ?_
    try k_unmd
    try walk_at "fo"
    walk_at "ks"
    · exact compNext_intro F' N' off ⟨rfl, by rw [hits_yes hr (decide_eq_true (by lia))]; exact intsAre_append hI (.cons _ _ .nil)⟩
    · exact compNext_intro F' N' off ⟨rfl, by rw [hits_no hr (decide_eq_false (by lia))]; exact hI⟩
    · exact compNext_intro F' N' off ⟨rfl, by rw [hits_no hr (decide_eq_false (by lia))]; exact hI⟩
  case fin =>
    intro s2 hs2 ys nw hJ
    refine cps fun G kG => ?_
    obtain ⟨g, rfl⟩ := hs2
    obtain ⟨rfl, hI⟩ := hJ
    refine kG ?_
    clear kG G
    clear F1 N1
    have hvl := datAll_len hda
    rw [List.length_map] at hvl
    rw [hvl, List.take_length] at hI
    have hhd := hits_head rows pc
    intro D h tk F1 N1 off
    replace N1 : News _ _ _ ((D, listOf ys.toArray ys.length) :: _) := N1
    generalize hits rows pc = us at hI hhd
    dsimp only
    rcases us with _ | ⟨u, us⟩
    · walk_at "ks"
      rename Fr _ _ _ _ => kF; rename News _ _ _ _ => kN
      have h := fun tk => hQ tp _ tk kF (cb_drop kN (fun p hp => by repeat (first | with_reducible exact hp | with_reducible refine List.mem_cons_of_mem _ ?_)))
      rw [← hhd] at h
      exact h _
    · have hpos : (0 : Int) < ((u :: us).length : Int) := by rw [List.length_cons]; lia
      walk_at "ks"
      · rename Fr _ _ _ _ => kF; rename News _ _ _ _ => kN
        have h := fun t tk => hQ t _ tk kF (cb_drop kN (fun p hp => by repeat (first | with_reducible exact hp | with_reducible refine List.mem_cons_of_mem _ ?_)))
        rw [← hhd] at h
        exact h _ _
end
end
end
end
end
end
section
local macro_rules | `(tactic| walk_at "call ref") => `(tactic| (k_here; (with_reducible show wpAny _ _ (call (Value.ref _) _) _ _ _); refine Stop.out ?_))
section
local macro_rules | `(tactic| walk_at "binaryOp Add ref ref") => `(tactic| (k_here; (with_reducible show wpAny _ _ (binaryOp _ (Value.ref _) (Value.ref _)) _ _ _); k_dflt (apply kmk_add_ints; k_asm; k_asm; kmk_list; kmk_list; l_ints; l_ints; rotate_left; (simp only [sizeLine_eq, leB_len, List.length_append, List.length_cons, List.length_nil]; lia)); intro D' ws' h' F' N' l1 hI'; (try k_lt l1); (try k_sweep)))
section
local macro_rules | `(tactic| walk_at "subscriptTail Name Slice ref ref") => `(tactic| (k_here; k_dflt (apply sliceE; k_asm; k_asm; kmk_list; kmk_part; kmk_part; l_ints; (first | (with_reducible apply kmk_upto; l_ints; kmk_sign) | (with_reducible apply kmk_from; l_ints; kmk_sign)); kmk_len; rotate_left; (with_unfolding_all rfl); kmk_pure; kmk_size; intro D' ws' h' F' N' l1 hI' hC' hL'; (try simp only [Int.reduceNeg, Int.neg_neg, Int.reduceToNat] at hI' hC' hL'); (try k_lt l1); (try k_sweep))))
section
theorem lb_led {α : Type} {r x l : α} {tl : List α} : ∀ p ∈ r :: x :: tl, p ∈ r :: x :: l :: tl :=
  SegT.sub (segs := [[r], [x], tl, [l]]) (.a (.l 0) (.a (.l 1) (.l 2))) (.a (.l 0) (.a (.l 1) (.a (.l 3) (.l 2)))) rfl
theorem lb_tup {nw : List (Addr × Obj)} {v : Value} {c : Int × Int} (h : DatIn nw v (pairDat c)) : ∃ T n t1 t2, v = .ref T ∧ (T, ({ cls := .type "tuple", data := .seq #[.int c.1 t1, .int c.2 t2] n } : Obj)) ∈ nw := by
  obtain ⟨T, n, v1, v2, rfl, hm, a1, a2⟩ := inv_two h
  obtain ⟨tb, rfl⟩ := inv_int a1
  obtain ⟨tz, rfl⟩ := inv_int a2
  exact ⟨_, _, _, _, rfl, hm⟩
theorem lb_led2 {α : Type} {l r x : α} {tl : List α} : ∀ p ∈ x :: tl, p ∈ l :: r :: x :: tl := fun p hp => .tail _ (.tail _ hp)
theorem wordw_bnd {ns : List Int} (h : ∀ y ∈ ns, 0 ≤ y ∧ y < 256) (a k : Nat) (hk : (k : Int) ≤ 4) : 0 ≤ wordOf ns a k ∧ wordOf ns a k < 4294967296 := by
  have h4 := word4_bnd h a
  have h0 := getD_nonneg h (a + 0)
  have h1 := getD_nonneg h (a + 1)
  have h2 := getD_nonneg h (a + 2)
  have h3 := getD_nonneg h (a + 3)
  have : k = 0 ∨ k = 1 ∨ k = 2 ∨ k = 3 ∨ k = 4 := by lia
  rcases this with rfl | rfl | rfl | rfl | rfl <;> simp only [wordOf] <;> lia
theorem leB_byte (v : Int) (n : Nat) : ∀ y ∈ leB v n, 0 ≤ y ∧ y < 256 := by
  intro y hy
  obtain ⟨k, _, rfl⟩ := List.mem_map.mp hy
  lia
theorem lb_mix {os : List Int} {a b n : Nat} {v : Int} (h : ∀ y ∈ os, 0 ≤ y ∧ y < 256) : ∀ y ∈ os.take a ++ leB v n ++ os.drop b, 0 ≤ y ∧ y < 256 := by
  intro y hy
  rcases List.mem_append.mp hy with hy | hy
  · rcases List.mem_append.mp hy with hy | hy
    · exact h y (List.mem_of_mem_take hy)
    · exact leB_byte v n y hy
  · exact h y (List.mem_of_mem_drop hy)
theorem lb_flat {k : Nat} : (List.replicate k [(0 : Int)]).flatten = List.replicate k 0 := by
  induction k with
  | zero => rfl
  | succ k ih => rw [List.replicate_succ, List.flatten_cons, ih]; rfl
theorem lb_rep {os : List Int} {k : Nat} (h : ∀ y ∈ os, 0 ≤ y ∧ y < 256) : ∀ y ∈ os ++ (List.replicate k [(0 : Int)]).flatten, 0 ≤ y ∧ y < 256 := by
  intro y hy
  rw [lb_flat] at hy
  rcases List.mem_append.mp hy with hy | hy
  · exact h y hy
  · rw [(List.mem_replicate.mp hy).2]; decide
theorem lb_len {os : List Int} {g : Int} : (os ++ (List.replicate (1 + g.fmod 20).toNat [(0 : Int)]).flatten).length = os.length + (1 + g % 20).toNat := by
  rw [lb_flat, List.length_append, List.length_replicate, Int.fmod_eq_emod_of_nonneg _ (by decide)]
section
variable {w : World} {mean : ExcName → Option Value} {mg mb : Str → Option Value}
    {dp un : Nat} {gd : Option (List Code)} {cn : Str} {cs : Scope} {a : Addr} {ccd : Value} {cl : List (Str × Addr)} {outer : List Env} {A₀ : Around} {base h₀ : Heap} {L : Addr} {m : Str → Option Value} {s : Shared} {Q E : Value → Shared → Prop}
    {news : List (Addr × Obj)} (dm : KdMark)
    (B : Below A₀ base outer h₀) (F : Fr h₀ L s.heap m) (X : (heapK w.params).In h₀)
    (T : Top view (looseW view [Str.ofString "MEMORY_END"]) mean mg mb h₀) (hk : cs.kind = .function)
include dm B F X T hk
theorem law_bent_spec {x nl ol ca : Addr} {nn n0 n1 n2 : Nat} {vs ov cv : List Value} {ns os : List Int} {cells : List (Int × Int)} {i e : Int} {t1 t2 : Tok} {tl : List (Addr × Obj)}
    (N : News h₀ L s.heap ((x, listOf #[.ref nl, .int i t1, .int e t2] nn) :: tl)) (off : ∀ p ∈ tl, p.1 ≠ x)
    (hl : (nl, listOf vs.toArray n0) ∈ tl) (hi : IntsAre vs ns) (ho : (ol, listOf ov.toArray n1) ∈ tl) (hoi : IntsAre ov os) (hby : ∀ y ∈ os, 0 ≤ y ∧ y < 256) (hol : os.length < 2 ^ 19)
    (hc : (ca, listOf cv.toArray n2) ∈ tl) (hcd : DatAll tl cv (cells.map pairDat)) (hcg : ∀ c ∈ cells, goodCell c) (hcl : cells.length ≤ 500)
    (h0 : 0 ≤ i) (h1 : i < 2 ^ 20) (h2 : ns.length < 2 ^ 20) (h3 : 0 ≤ e) (h4 : e < 65537)
    (hd : dp + 6 < recursionLimit) (hu : un + 100 < cLine)
    (hQ : ∀ (r : Addr) (rv : List Value) (rn : Nat) (os' : List Int) (new : List (Addr × Obj)) (e' : Int) (ta te : Tok) (n' : Nat) (h' : Heap) (tk' : Nat), (r, listOf rv.toArray rn) ∈ new ++ [(ol, listOf ov.toArray n1)] → (∀ p ∈ new, p.1 ≠ x ∧ ∀ q ∈ tl, p.1 ≠ q.1) → IntsAre rv os' → (∀ y ∈ os', 0 ≤ y ∧ y < 256) → os'.length ≤ os.length + 20 → 0 ≤ e' → e' < 65537 →
      Fr h₀ L h' m → News h₀ L h' ((x, listOf #[.ref nl, .int (i + 1) ta, .int e' te] n') :: (new ++ tl)) → Q (.ref r) { s with heap := h', toks := tk' }) :
    wpAny (model PySem.Challenge.rw_og0206_01.row.prog w) (ktrTop dp un gd cn cs L a ccd cl outer) (call (.ref 355) [.ref x, .ref ol, .ref ca]) Q E s := by
  refine wpAny_call ?_
  walk_at "myenter"
  walk_at "ks"
  unfold Stop
  rename Fr _ _ _ _ => F1
  rename News _ _ _ _ => N1
  rename (x < _ ∧ AllLt _ tl) => lx
  k_dflt (refine' law_draw3 ?zdm ?zB ?zF ?zX ?zT ?zhk (news_swap N1) ?zoff (.tail _ hl) hi (.head _) h0 h1 h2 h3 h4 ?zhd ?zhu ?_; (case zdm => first | assumption | exact kdMark); (case zB => k_asm); (case zF => k_asm); (case zX => k_asm); (case zT => k_asm); (case zhk => first | exact rfl | assumption); (case zhd => ktr_room); (case zhu => ktr_units); (case zoff => exact List.forall_mem_cons.mpr ⟨Nat.ne_of_gt lx.1, off⟩))
  clear F1 N1
  intro g0 g1 g2 u0 u1 u2 ta te e' r n n' h' tk' p0 q0 p1 q1 p2 q2 p3 q3 F1 N2 lr
  have lr2 := kst_ltOf lr.2
  have N1 := cb_drop N2 (show ∀ p ∈ (_ :: _ :: tl : List (Addr × Obj)), p ∈ _ from fun p hp => lb_led p hp)
  have lxr : @LT.lt Nat _ x r := lr.1
  clear N2 lr lx
  have htl : ∀ p ∈ tl, p.1 < r := fun p hp => lr2 p (.tail _ hp)
  clear lr2
  walk_at "ks"
  · rename IntsAre _ (List.take _ os) => hI
    rename Fr h₀ L _ m => kF
    rename News h₀ L _ _ => kN
    rename (r < _ ∧ x < _ ∧ AllLt _ tl) => lD
    exact hQ _ _ _ _ [_] _ _ _ _ _ _ (.head _) (List.forall_mem_singleton.mpr ⟨Nat.ne_of_gt lD.2.1, fun q hq => Nat.ne_of_gt (kst_ltOf lD.2.2 q hq)⟩) hI (fun y hy => hby y (List.mem_of_mem_take hy)) (by rw [List.length_take]; lia) p3 q3 kF (cb_drop kN (List.forall_mem_cons.mpr ⟨by k_mem, List.forall_mem_cons.mpr ⟨.head _, fun p hp => by have hp : p ∈ tl := hp; repeat (first | with_reducible exact hp | with_reducible refine List.mem_cons_of_mem _ ?_)⟩⟩))
  · rename IntsAre _ (List.take _ os) => hI
    rename Fr h₀ L _ m => kF
    rename News h₀ L _ _ => kN
    rename (_ < _ ∧ r < _ ∧ x < _ ∧ AllLt _ tl) => lD
    exact hQ _ _ _ _ [_] _ _ _ _ _ _ (.head _) (List.forall_mem_singleton.mpr ⟨Nat.ne_of_gt lD.2.2.1, fun q hq => Nat.ne_of_gt (kst_ltOf lD.2.2.2 q hq)⟩) hI (fun y hy => hby y (List.mem_of_mem_take hy)) (by rw [List.length_take]; lia) p3 q3 kF (cb_drop kN (List.forall_mem_cons.mpr ⟨by k_mem, List.forall_mem_cons.mpr ⟨.head _, fun p hp => by have hp : p ∈ tl := hp; repeat (first | with_reducible exact hp | with_reducible refine List.mem_cons_of_mem _ ?_)⟩⟩))
  · rename IntsAre _ (os ++ _) => hI
    rename Fr h₀ L _ m => kF
    rename News h₀ L _ _ => kN
    rename (_ < _ ∧ _ < _ ∧ _ < _ ∧ r < _ ∧ x < _ ∧ AllLt _ tl) => lD
    exact hQ _ _ _ _ [_] _ _ _ _ _ _ (.head _) (List.forall_mem_singleton.mpr ⟨Nat.ne_of_gt lD.2.2.2.2.1, fun q hq => Nat.ne_of_gt (kst_ltOf lD.2.2.2.2.2 q hq)⟩) hI (lb_rep hby) (by rw [lb_len]; lia) p3 q3 kF (cb_drop kN (List.forall_mem_cons.mpr ⟨by k_mem, List.forall_mem_cons.mpr ⟨.head _, fun p hp => by have hp : p ∈ tl := hp; repeat (first | with_reducible exact hp | with_reducible refine List.mem_cons_of_mem _ ?_)⟩⟩))
  · rename Fr _ _ _ _ => F3
    rename News _ _ _ _ => N3
    have hpos : (0 : Int) < (cells.length : Int) := by
      rename decide (List.map pairDat cells = []) = false => hd9
      cases cells with
      | nil => simp at hd9
      | cons c cs => rw [List.length_cons]; lia
    have hpos2 : (cells.length : Int) ≠ 0 := Int.ne_of_gt hpos
    refine kd_len N3 (by k_mem) hcd (by rw [List.length_map]; lia) ?_
    rw [List.length_map]
    walk_at "ks"
    rename Fr _ _ _ _ => F4
    rename News _ _ _ _ => N4
    refine kd_item N4 (by k_mem) hcd (fmod_ge hpos) (by rw [List.length_map]; exact fmod_lt hpos) (Int.lt_trans (fmod_lt hpos) (by lia)) ?_
    intro v d hdk hdm hdi
    refine cps fun G kG => ?_
    obtain ⟨c, hcm, rfl⟩ := List.mem_map.mp hdm
    obtain ⟨T, nT, tt1, tt2, rfl, hT⟩ := lb_tup hdi
    have hgc := hcg c hcm
    obtain ⟨c1, c2⟩ := c
    obtain ⟨gc1, gc2, gc3⟩ := hgc
    refine kG ?_
    clear kG G
    dsimp only at gc1 gc2 gc3 hT
    clear hdk hdm hdi hcm
    have N5 := cb_drop N4 (lb_led2)
    clear N4
    have gw : 0 ≤ c2 ∧ c2 ≤ 4 := by lia
    walk_at "ks"
    · rename Fr h₀ L _ m => kF
      rename News h₀ L _ _ => kN
      exact hQ ol ov n1 os [] _ _ _ _ _ _ (.head _) (fun p hp => nomatch hp) hoi hby (Nat.le_add_right _ _) p3 q3 kF kN
    · unfold Stop
      rename Fr _ _ _ _ => F5
      rename News _ _ _ _ => N5
      k_dflt (refine' law_word ?zdm ?zB ?zF ?zX ?zT ?zhk N5 (.tail _ ho) hoi hby gc1 gw.1 gw.2 (by lia) (by lia) ?zhd ?zhu ?_; (case zdm => first | assumption | exact kdMark); (case zB => k_asm); (case zF => k_asm); (case zX => k_asm); (case zT => k_asm); (case zhk => first | exact rfl | assumption); (case zhd => ktr_room); (case zhu => ktr_units))
      clear F5 N5
      intro t5 h5 tk5 F5 N5
      have wb := wordw_bnd hby c1.toNat c2.toNat (by lia)
      generalize wordOf os c1.toNat c2.toNat = old at wb
      walk_at "ks"
      unfold Stop
      rename Fr _ _ _ _ => F7
      rename News _ _ _ _ => N7
      rename IntsAre _ (List.take c1.toNat os) => hI1
      k_dflt (refine' law_octets ?zdm ?zB ?zF ?zX ?zT ?zhk N7 gw.1 gw.2 ?zhd ?zhu ?_; (case zdm => first | assumption | exact kdMark); (case zB => k_asm); (case zF => k_asm); (case zX => k_asm); (case zT => k_asm); (case zhk => first | exact rfl | assumption); (case zhd => ktr_room); (case zhu => ktr_units))
      clear F7 N7
      intro R rv rn h8 tk8 F8 N8 hR hRo
      rename (_ < _ ∧ x < _ ∧ AllLt _ tl) => lD
      have hRx : @Ne Nat x R := hRo _ (.tail _ (.tail _ (.head _)))
      walk_at "ks"
      rename IntsAre _ (List.take c1.toNat os ++ _ ++ List.drop _ os) => hI
      rename Fr h₀ L _ m => kF
      rename News h₀ L _ _ => kN
      rename (_ < _ ∧ _ < _ ∧ R < _ ∧ _ < _ ∧ _ < _ ∧ x < _ ∧ AllLt _ tl) => lE
      exact hQ _ _ _ _ [_] _ _ _ _ _ _ (.head _) (List.forall_mem_singleton.mpr ⟨Nat.ne_of_gt lE.2.2.2.2.2.1, fun q hq => Nat.ne_of_gt (kst_ltOf lE.2.2.2.2.2.2 q hq)⟩) hI (lb_mix hby) (by rw [List.length_append, List.length_append, leB_len, List.length_take, List.length_drop]; have q := cut_size (n := os.length) (k := c2.toNat) gc1 (Int.le_add_of_nonneg_right gw.1) (Int.not_lt.mp (by assumption)) (by rw [Int.toNat_of_nonneg gw.1]); rw [Nat.sub_zero, Nat.min_self] at q; exact Nat.le_trans (Nat.le_of_eq q) (Nat.le_add_right _ _)) p3 q3 kF (cb_drop kN (List.forall_mem_cons.mpr ⟨by k_mem, List.forall_mem_cons.mpr ⟨.head _, fun p hp => by have hp : p ∈ tl := hp; repeat (first | with_reducible exact hp | with_reducible refine List.mem_cons_of_mem _ ?_)⟩⟩))
end
end
end
end
end
end
section
local macro_rules | `(tactic| walk_at "ci") => `(tactic| (intros; (try (rename News _ _ _ _ => nN; dsimp only at nN)); (try dsimp only); (try k_sweep)))
section
local macro_rules | `(tactic| walk_at "call ref") => `(tactic| (k_here; (with_reducible show wpAny _ _ (call (Value.ref 310) [Value.ref _, Value.ref _]) _ _ _); k_dflt (focus (apply law_draw4; exact kdMark; k_asm; k_asm; k_asm; k_asm; exact rfl; exact news_swap (by k_asm); k_all; k_mem; assumption; k_mem; assumption; assumption; assumption; assumption; assumption; ktr_room; ktr_units; intros; (try dsimp only); (try k_fold); (try k_sweep)))))
section
section
variable {w : World} {mean : ExcName → Option Value} {mg mb : Str → Option Value}
    {dp un : Nat} {gd : Option (List Code)} {cn : Str} {cs : Scope} {a : Addr} {ccd : Value} {cl : List (Str × Addr)} {outer : List Env} {A₀ : Around} {base h₀ : Heap} {L : Addr} {m : Str → Option Value} {s : Shared} {Q E : Value → Shared → Prop}
    {news : List (Addr × Obj)} (dm : KdMark)
    (B : Below A₀ base outer h₀) (F : Fr h₀ L s.heap m) (X : (heapK w.params).In h₀)
    (T : Top view (looseW view [Str.ofString "MEMORY_END"]) mean mg mb h₀) (hk : cs.kind = .function)
include dm B F X T hk

theorem law_row {x nl : Addr} {nn n0 : Nat} {vs : List Value} {ns : List Int} {i e : Int} {t1 t2 : Tok} {tl : List (Addr × Obj)}
    (N : News h₀ L s.heap ((x, listOf #[.ref nl, .int i t1, .int e t2] nn) :: tl)) (off : ∀ p ∈ tl, p.1 ≠ x)
    (hl : (nl, listOf vs.toArray n0) ∈ tl) (hi : IntsAre vs ns)
    (h0 : 0 ≤ i) (h1 : i < 2 ^ 20) (h2 : ns.length < 2 ^ 20) (h3 : 0 ≤ e) (h4 : e < 65537)
    (hd : dp + 5 < recursionLimit) (hu : un + 40 < cLine)
    (hQ : ∀ low size unit good r q n q1 q2 q3 n1 n2 ta te e' h' tk', Fr h₀ L h' m → News h₀ L h' ((r, tupOf [.ref q, .bool good] n1) :: (q, tupOf [.int low q1, .int size q2, .int unit q3] n2) :: (x, listOf #[.ref nl, .int (i + 1) ta, .int e' te] n) :: tl) →
      RowFact low size unit good → 0 ≤ e' → e' < 65537 → q ≠ r → x ≠ r → x ≠ q → (∀ p ∈ tl, p.1 ≠ r) → (∀ p ∈ tl, p.1 ≠ q) → Q (.ref r) { s with heap := h', toks := tk' }) :
    wpAny (model PySem.Challenge.rw_og0206_01.row.prog w) (ktrTop dp un gd cn cs L a ccd cl outer) (call (.ref 317) [.ref x]) Q E s := by
  refine wpAny_call ?_
  walk_at "myenter"
  walk_at "ks"
  all_goals (rename Fr _ _ _ _ => kF; rename News _ _ _ _ => kN; refine hQ _ _ _ _ _ _ _ _ _ _ _ _ _ _ _ _ _ kF (cb_drop kN (by kst_allIn)) ?_ (by assumption) (by assumption) (by k_ne) (by k_ne) (by k_ne) (by k_all) (by k_all))
  all_goals first | exact row1 (by assumption) (by assumption) | exact row2 (by assumption) (by assumption) (by assumption) | exact row3 (by assumption) (by assumption) | exact row4 (by assumption) (by assumption) (by assumption)
end
end
end
section
local macro_rules | `(tactic| walk_at "cp") => `(tactic| (exact kdMark; k_asm; k_asm; k_asm; k_asm; exact rfl; k_asm))
section
local macro_rules | `(tactic| walk_at "leaving ref") => `(tactic| (k_here; (apply leave_fault; assumption; k_asm; k_asm; k_mem; k_whole); intro h' R' U'; (try dsimp only)))
section
local macro_rules | `(tactic| walk_at "call type:bytes") => `(tactic| ((with_reducible show wpAny _ _ (call (Value.type "bytes") [Value.bytes _ _]) _ _ _); refine bytes_of_bytes ?_))
section
section
variable {w : World} {mean : ExcName → Option Value} {mg mb : Str → Option Value}
    {dp un : Nat} {gd : Option (List Code)} {cn : Str} {cs : Scope} {a : Addr} {ccd : Value} {cl : List (Str × Addr)} {outer : List Env} {A₀ : Around} {base h₀ : Heap} {L : Addr} {m : Str → Option Value} {s : Shared} {Q E : Value → Shared → Prop}
    {news : List (Addr × Obj)} (dm : KdMark)
    (B : Below A₀ base outer h₀) (F : Fr h₀ L s.heap m) (X : (heapK w.params).In h₀)
    (T : Top view (looseW view [Str.ofString "MEMORY_END"]) mean mg mb h₀) (hk : cs.kind = .function)
include dm B F X T hk

theorem oct_take {x dx : Addr} {bs : Array UInt8} {ns : List Int} {p q k : Int} {tb tp tq tk1 tk2 tk3 tk4 : Tok} {h1 h2 h3 : Int} {g : Obj → List (Addr × Obj)}
    (N : News h₀ L s.heap news) (hx : (x, instObj 152 dx) ∈ news) (ox : @Ne Nat x dx) (U : UpdF dx (rdDict h1 h2 h3 tk1 tk2 tk3 bs p q tb tp tq) news g)
    (hbi : KBw.bInts bs = ns) (hp : 0 ≤ p) (hq : p ≤ q) (hb : q ≤ ns.length) (hz : ns.length < 2 ^ 20)
    (hd : dp + 8 < recursionLimit) (hu : un + 60 < cLine)
    (hQ : ∀ b' tb' tp' h' tk', 0 ≤ k → p + k ≤ q → KBw.bInts b' = (ns.drop p.toNat).take k.toNat → Fr h₀ L h' m → News h₀ L h' (g (rdDict h1 h2 h3 tk1 tk2 tk3 bs (p + k) q tb tp' tq)) → Q (.bytes b' tb') { s with heap := h', toks := tk' })
    (hE : ∀ e g₂ h' tk', ¬ (0 ≤ k ∧ p + k ≤ q) → Fr h₀ L g₂ m → RaisedN base (envX cn cs L a ccd cl :: outer) e (.ref 58) (butFor dx news) h' → g₂.UpToSlots h' → E (.ref e) { s with heap := h', toks := tk' }) :
    wpAny (model PySem.Challenge.rw_og0206_01.row.prog w) (ktrTop dp un gd cn cs L a ccd cl outer) (call (.ref 100) [.ref x, .int k tk4]) Q E s := by
  refine cps fun G kG => ?_
  obtain ⟨pre, post, rfl, hg, a1, a2⟩ := U.split
  refine kG ?_
  clear kG G
  have off := off_front a1 a2
  have hx' := mem_front hx ox
  replace N := news_front N
  simp only [hg] at hQ
  clear U hx hg
  generalize htl : pre ++ post = tl at *
  refine wpAny_call ?_
  walk_at "myenter"
  walk_at "ks"
  · rename Fr _ _ _ _ => kF; rename News _ _ _ _ => kN
    refine cps fun G kG => ?_
    subst htl
    refine kG ?_
    clear kG G
    refine hQ _ _ _ _ _ (by lia) (by lia) ?_ kF (news_back kN)
    rename KBw.bInts (KBy.picked _ _ _) = _ => hk
    rw [hk, clip_in (by lia) (by lia), clip_in (by lia) (by lia)]
    congr 1
    · rw [Int.add_sub_cancel, Int.toNat_add (by assumption) (by assumption), Nat.add_sub_cancel_left]
    · congr 1; lia
  all_goals (rename_i R U; subst htl; exact hE _ _ _ _ (by lia) (by assumption) (R _ (fun p hp => .tail _ (.tail _ (butFor_front hp))) fun p hp => tl_ne1 (by assumption) p (butFor_front hp)) U)
end
end
end
section
local macro_rules | `(tactic| walk_at "cs") => `(tactic| (ktr_room; ktr_units; all_goals walk_at "ci"))
section
local macro_rules | `(tactic| walk_at "call type:bytes") => `(tactic| ((with_reducible show wpAny _ _ (call (Value.type "bytes") [Value.bytes _ _]) _ _ _); refine bytes_of_bytes ?_))
section
local macro_rules | `(tactic| walk_at "oc") => `(tactic| (walk_at "cp"; k_mem; k_ne; k_updF; assumption; lia; lia; lia; lia; walk_at "cs"))
section
local macro_rules | `(tactic| walk_at "call ref") => `(tactic| (k_here; (with_reducible show wpAny _ _ (call (Value.ref 100) [Value.ref _, Value.int _ _]) _ _ _); k_dflt (focus (apply oct_take; walk_at "oc"; rotate_left))))
section
local macro_rules | `(tactic| walk_at "call ref") => `(tactic| (k_here; (with_reducible show wpAny _ _ (call (Value.ref _) [Value.bytes _ _, Value.str _ _]) _ _ _); k_dflt (refine KFB.call_little (by k_asm) (by k_mem) (by assumption) (by simp only [List.length_take]; lia) ?_); intro _ _))
section
section
variable {w : World} {mean : ExcName → Option Value} {mg mb : Str → Option Value}
    {dp un : Nat} {gd : Option (List Code)} {cn : Str} {cs : Scope} {a : Addr} {ccd : Value} {cl : List (Str × Addr)} {outer : List Env} {A₀ : Around} {base h₀ : Heap} {L : Addr} {m : Str → Option Value} {s : Shared} {Q E : Value → Shared → Prop}
    {news : List (Addr × Obj)} (dm : KdMark)
    (B : Below A₀ base outer h₀) (F : Fr h₀ L s.heap m) (X : (heapK w.params).In h₀)
    (T : Top view (looseW view [Str.ofString "MEMORY_END"]) mean mg mb h₀) (hk : cs.kind = .function)
include dm B F X T hk

theorem oct_u32 {x dx : Addr} {bs : Array UInt8} {ns : List Int} {p q : Int} {tb tp tq tk1 tk2 tk3 : Tok} {h1 h2 h3 : Int} {g : Obj → List (Addr × Obj)}
    (N : News h₀ L s.heap news) (hx : (x, instObj 152 dx) ∈ news) (ox : @Ne Nat x dx) (U : UpdF dx (rdDict h1 h2 h3 tk1 tk2 tk3 bs p q tb tp tq) news g)
    (hbi : KBw.bInts bs = ns) (hp : 0 ≤ p) (hq : p ≤ q) (hb : q ≤ ns.length) (hz : ns.length < 2 ^ 20)
    (hd : dp + 9 < recursionLimit) (hu : un + 70 < cLine)
    (hQ : ∀ t tp' h' tk', p + 4 ≤ q → Fr h₀ L h' m → News h₀ L h' (g (rdDict h1 h2 h3 tk1 tk2 tk3 bs (p + 4) q tb tp' tq)) → Q (.int (wordOf ns p.toNat 4) t) { s with heap := h', toks := tk' })
    (hE : ∀ e g₂ h' tk', ¬ (p + 4 ≤ q) → Fr h₀ L g₂ m → RaisedN base (envX cn cs L a ccd cl :: outer) e (.ref 58) (butFor dx news) h' → g₂.UpToSlots h' → E (.ref e) { s with heap := h', toks := tk' }) :
    wpAny (model PySem.Challenge.rw_og0206_01.row.prog w) (ktrTop dp un gd cn cs L a ccd cl outer) (call (.ref 128) [.ref x]) Q E s := by
  refine cps fun G kG => ?_
  obtain ⟨pre, post, rfl, hg, a1, a2⟩ := U.split
  refine kG ?_
  clear kG G
  have off := off_front a1 a2
  have hx' := mem_front hx ox
  replace N := news_front N
  simp only [hg] at hQ
  clear U hx hg
  generalize htl : pre ++ post = tl at *
  refine wpAny_call ?_
  walk_at "myenter"
  walk_at "ks"
  · rename_i R U
    refine cps fun G kG => ?_
    subst htl
    refine kG ?_
    clear kG G
    exact hE _ _ _ _ (by lia) (by assumption) (raised_back R a1 a2 fun p hp => .tail _ (.tail _ hp)) U
  · rename Fr _ _ _ _ => kF; rename News _ _ _ _ => kN
    refine cps fun G kG => ?_
    subst htl
    refine kG ?_
    clear kG G
    refine (congrArg (fun z => Q (.int z _) _) (show KFB.value (List.take (4 : Int).toNat (List.drop p.toNat ns)).reverse = wordOf ns p.toNat 4 from le_word4 (by lia))).mpr ?_
    exact hQ _ _ _ _ (by lia) kF (news_back (cb_drop kN (by kst_allIn)))

theorem oct_u16 {x dx : Addr} {bs : Array UInt8} {ns : List Int} {p q : Int} {tb tp tq tk1 tk2 tk3 : Tok} {h1 h2 h3 : Int} {g : Obj → List (Addr × Obj)}
    (N : News h₀ L s.heap news) (hx : (x, instObj 152 dx) ∈ news) (ox : @Ne Nat x dx) (U : UpdF dx (rdDict h1 h2 h3 tk1 tk2 tk3 bs p q tb tp tq) news g)
    (hbi : KBw.bInts bs = ns) (hp : 0 ≤ p) (hq : p ≤ q) (hb : q ≤ ns.length) (hz : ns.length < 2 ^ 20)
    (hd : dp + 9 < recursionLimit) (hu : un + 70 < cLine)
    (hQ : ∀ t tp' h' tk', p + 2 ≤ q → Fr h₀ L h' m → News h₀ L h' (g (rdDict h1 h2 h3 tk1 tk2 tk3 bs (p + 2) q tb tp' tq)) → Q (.int (wordOf ns p.toNat 2) t) { s with heap := h', toks := tk' })
    (hE : ∀ e g₂ h' tk', ¬ (p + 2 ≤ q) → Fr h₀ L g₂ m → RaisedN base (envX cn cs L a ccd cl :: outer) e (.ref 58) (butFor dx news) h' → g₂.UpToSlots h' → E (.ref e) { s with heap := h', toks := tk' }) :
    wpAny (model PySem.Challenge.rw_og0206_01.row.prog w) (ktrTop dp un gd cn cs L a ccd cl outer) (call (.ref 121) [.ref x]) Q E s := by
  refine cps fun G kG => ?_
  obtain ⟨pre, post, rfl, hg, a1, a2⟩ := U.split
  refine kG ?_
  clear kG G
  have off := off_front a1 a2
  have hx' := mem_front hx ox
  replace N := news_front N
  simp only [hg] at hQ
  clear U hx hg
  generalize htl : pre ++ post = tl at *
  refine wpAny_call ?_
  walk_at "myenter"
  walk_at "ks"
  · rename_i R U
    refine cps fun G kG => ?_
    subst htl
    refine kG ?_
    clear kG G
    exact hE _ _ _ _ (by lia) (by assumption) (raised_back R a1 a2 fun p hp => .tail _ (.tail _ hp)) U
  · rename Fr _ _ _ _ => kF; rename News _ _ _ _ => kN
    refine cps fun G kG => ?_
    subst htl
    refine kG ?_
    clear kG G
    refine (congrArg (fun z => Q (.int z _) _) (show KFB.value (List.take (2 : Int).toNat (List.drop p.toNat ns)).reverse = wordOf ns p.toNat 2 from le_word2 (by lia))).mpr ?_
    exact hQ _ _ _ _ (by lia) kF (news_back (cb_drop kN (by kst_allIn)))

theorem oct_u8 {x dx : Addr} {bs : Array UInt8} {ns : List Int} {p q : Int} {tb tp tq tk1 tk2 tk3 : Tok} {h1 h2 h3 : Int} {g : Obj → List (Addr × Obj)}
    (N : News h₀ L s.heap news) (hx : (x, instObj 152 dx) ∈ news) (ox : @Ne Nat x dx) (U : UpdF dx (rdDict h1 h2 h3 tk1 tk2 tk3 bs p q tb tp tq) news g)
    (hbi : KBw.bInts bs = ns) (hp : 0 ≤ p) (hq : p ≤ q) (hb : q ≤ ns.length) (hz : ns.length < 2 ^ 20)
    (hd : dp + 9 < recursionLimit) (hu : un + 70 < cLine)
    (hQ : ∀ t tp' h' tk', p + 1 ≤ q → Fr h₀ L h' m → News h₀ L h' (g (rdDict h1 h2 h3 tk1 tk2 tk3 bs (p + 1) q tb tp' tq)) → Q (.int (ns.getD p.toNat 0) t) { s with heap := h', toks := tk' })
    (hE : ∀ e g₂ h' tk', ¬ (p + 1 ≤ q) → Fr h₀ L g₂ m → RaisedN base (envX cn cs L a ccd cl :: outer) e (.ref 58) (butFor dx news) h' → g₂.UpToSlots h' → E (.ref e) { s with heap := h', toks := tk' }) :
    wpAny (model PySem.Challenge.rw_og0206_01.row.prog w) (ktrTop dp un gd cn cs L a ccd cl outer) (call (.ref 107) [.ref x]) Q E s := by
  refine cps fun G kG => ?_
  obtain ⟨pre, post, rfl, hg, a1, a2⟩ := U.split
  refine kG ?_
  clear kG G
  have off := off_front a1 a2
  have hx' := mem_front hx ox
  replace N := news_front N
  simp only [hg] at hQ
  clear U hx hg
  generalize htl : pre ++ post = tl at *
  refine wpAny_call ?_
  walk_at "myenter"
  walk_at "ks"
  · rename_i R U
    refine cps fun G kG => ?_
    subst htl
    refine kG ?_
    clear kG G
    exact hE _ _ _ _ (by lia) (by assumption) (raised_back R a1 a2 fun p hp => .tail _ hp) U
  · rename Fr _ _ _ _ => kF; rename News _ _ _ _ => kN
    refine cps fun G kG => ?_
    subst htl
    refine kG ?_
    clear kG G
    refine (congrArg (fun z => Q (.int z _) _) (show (List.take (1 : Int).toNat (List.drop p.toNat ns)).getD (0 : Int).toNat 0 = ns.getD p.toNat 0 from by rw [show (1 : Int).toNat = 1 from rfl, one_of (by lia)]; rfl)).mpr ?_
    exact hQ _ _ _ _ (by lia) kF (news_back (cb_drop kN (by kst_allIn)))
end
end
section
local macro_rules | `(tactic| walk_at "call ref") => `(tactic| (k_here; (with_reducible show wpAny _ _ (call (Value.ref 152) [Value.bytes _ _, Value.int _ _, Value.int _ _]) _ _ _); k_dflt (apply call_cls; k_asm; k_asm; k_asm; k_is; k_is; k_is; k_whole; intro x' d' h' F' N' l1 l2; (try k_lt l1); (try k_lt2 l2); (try k_sweep); walk_at "myenter")))
section
local macro_rules | `(tactic| walk_at "testChain") => `(tactic| (k_dflt (refine test_link ?_)))
section
section
variable {w : World} {mean : ExcName → Option Value} {mg mb : Str → Option Value}
    {dp un : Nat} {gd : Option (List Code)} {cn : Str} {cs : Scope} {a : Addr} {ccd : Value} {cl : List (Str × Addr)} {outer : List Env} {A₀ : Around} {base h₀ : Heap} {L : Addr} {m : Str → Option Value} {s : Shared} {Q E : Value → Shared → Prop}
    {news : List (Addr × Obj)} (dm : KdMark)
    (B : Below A₀ base outer h₀) (F : Fr h₀ L s.heap m) (X : (heapK w.params).In h₀)
    (T : Top view (looseW view [Str.ofString "MEMORY_END"]) mean mg mb h₀) (hk : cs.kind = .function)
include dm B F X T hk

theorem oct_new {bs : Array UInt8} {ns : List Int} {p q : Int} {tb tp tq : Tok}
    (N : News h₀ L s.heap news) (hbi : KBw.bInts bs = ns) (hp : 0 ≤ p) (hq : p ≤ q) (hb : q ≤ ns.length) (hz : ns.length < 2 ^ 20)
    (hd : dp + 9 < recursionLimit) (hu : un + 70 < cLine)
    (hQ : ∀ x dx h1 h2 h3 tk1 tk2 tk3 h' tk', Fr h₀ L h' m → News h₀ L h' ((x, instObj 152 dx) :: (dx, rdDict h1 h2 h3 tk1 tk2 tk3 bs p q tb tp tq) :: news) → (∀ p ∈ news, p.1 ≠ dx) → (∀ p ∈ news, p.1 ≠ x) → @Ne Nat x dx → Q (.ref x) { s with heap := h', toks := tk' }) :
    wpAny (model PySem.Challenge.rw_og0206_01.row.prog w) (ktrTop dp un gd cn cs L a ccd cl outer) (call (.ref 152) [.bytes bs tb, .int p tp, .int q tq]) Q E s := by
  walk_at "call ref"
  walk_at "ks"
  rename Fr _ _ _ _ => kF; rename News _ _ _ _ => kN
  have l1 := kN _ (.tail _ (.head _))
  exact hQ _ _ _ _ _ _ _ _ _ _ kF kN (by k_all) (fun p hp => Nat.ne_of_lt (Nat.lt_trans ((by assumption : ∀ p ∈ news, p.1 < _) p hp) (by assumption))) (by k_ne)
theorem oct_done {x dx : Addr} {bs : Array UInt8} {p q : Int} {tb tp tq tk1 tk2 tk3 : Tok} {h1 h2 h3 : Int}
    (N : News h₀ L s.heap news) (hx : (x, instObj 152 dx) ∈ news) (hdx : (dx, rdDict h1 h2 h3 tk1 tk2 tk3 bs p q tb tp tq) ∈ news)
    (hd : dp + 9 < recursionLimit) (hu : un + 70 < cLine)
    (hQ : ∀ h' tk', Fr h₀ L h' m → News h₀ L h' news → Q (.bool (p == q)) { s with heap := h', toks := tk' }) :
    wpAny (model PySem.Challenge.rw_og0206_01.row.prog w) (ktrTop dp un gd cn cs L a ccd cl outer) (call (.ref 93) [.ref x]) Q E s := by
  refine wpAny_call ?_
  walk_at "myenter"
  walk_at "ks"
  rename Fr _ _ _ _ => kF; rename News _ _ _ _ => kN
  exact hQ _ _ kF kN
end
end
end
end
end
end
end
end
end
section
local macro_rules | `(tactic| walk_at "getMethod ref") => `(tactic| (k_here; k_dflt (first | ((with_reducible show wpAny _ _ (getMethod _ (PySem.Str.ofString "extend") _) _ _ _); apply ba_method; k_asm; k_mem; exact FB.sl_extend; exact FB.ty_extend) | (apply ba_method; k_asm; k_mem; exact FB.sl_append; exact FB.ty_append))))
section
local macro_rules | `(tactic| walk_at "myenterN") => `(tactic| k_dflt (focus (apply entryN; walk_at "into"; exact locs rfl; rotate_left; exact rfl; exact rfl; exact rfl; decide; k_whole; intros; (try dsimp only); refine (let vk : Env := _; let ak : Around := _; (?_ : wpN _ ak (execs _ vk) _ _ _)))))
section
local macro_rules | `(tactic| walk_at "call type:bytes") => `(tactic| ((with_reducible show wpAny _ _ (call (Value.type "bytes") [Value.ref _]) _ _ _); k_dflt (apply bytes_of_baN; k_asm; k_mem; assumption; k_whole)))
section
local macro_rules | `(tactic| walk_at "call builtin:len") => `(tactic| ((with_reducible show wpAny _ _ (call (Value.builtin _) [Value.ref _]) _ _ _); k_dflt (apply len_baN; k_asm; k_mem; lia; k_whole)))
section
section
variable {w : World} {mean : ExcName → Option Value} {mg mb : Str → Option Value}
    {dp un : Nat} {gd : Option (List Code)} {cn : Str} {cs : Scope} {a : Addr} {ccd : Value} {cl : List (Str × Addr)} {outer : List Env} {A₀ : Around} {base h₀ : Heap} {L : Addr} {m : Str → Option Value} {s : Shared} {Q E : Value → Shared → Prop}
    {news : List (Addr × Obj)} (dm : KdMark)
    (B : Below A₀ base outer h₀) (F : Fr h₀ L s.heap m) (X : (heapK w.params).In h₀)
    (T : Top view (looseW view [Str.ofString "MEMORY_END"]) mean mg mb h₀) (hk : cs.kind = .function)
include dm B F X T hk
theorem wr_u32 {x dx b : Addr} {h1 : Int} {tk1 tv : Tok} {arr : Array UInt8} {k : Int} {g : Obj → List (Addr × Obj)}
    (N : News h₀ L s.heap news) (hx : (x, instObj 243 dx) ∈ news) (hdx : (dx, dictOf [⟨h1, .str (Str.ofString "written") tk1, .ref b⟩] 1) ∈ news) (U : UpdF b (baObj arr) news g)
    (hz : arr.size + 4 ≤ sizeLine) (hgd : gd = some []) (k0 : 0 ≤ k) (k1 : k < 4294967296)
    (hd : dp + 8 < recursionLimit) (hu : un + 60 < cLine)
    (hQ : ∀ arr' h' tk', KBw.bInts arr' = KBw.bInts arr ++ KTBy.little 4 k → arr'.size = arr.size + 4 → Fr h₀ L h' m → News h₀ L h' (g (baObj arr')) → Q .none { s with heap := h', toks := tk' }) :
    wpN (model PySem.Challenge.rw_og0206_01.row.prog w) (ktrTop dp un gd cn cs L a ccd cl outer) (call (.ref 212) [.ref x, .int k tv]) Q E s := by
  have hb := updF_mem U
  refine wpN_call ?_
  walk_at "myenterN"
  refine execsN_cons ?_
  refine exprN ?_
  refine methodN ?_
  walk_at "ks"
  refine withN_builtin1 ?_
  walk_at "ks"
  rw [band32 k0 k1]
  refine KTBy.to_little (k := 4) (B := 4294967296) (by decide) (by decide +kernel) k0 k1 ?_
  intro more t' k' hm hl
  walk_at "ks"
  rename Fr _ _ _ (fun y => List.lookup y _) => F1
  rename News _ _ _ news => N1
  have hsz := bInts_size more
  rw [hm, hl] at hsz
  refine ba_extend hgd F1 N1 U (by rw [Array.size_append]; lia) ?_
  intro h2 F2 N2
  dsimp only
  refine wpN_nil ?_
  walk_at "ks"
  rename Fr _ _ _ _ => kF; rename News _ _ _ _ => kN
  exact hQ (arr ++ more) _ _ (by rw [bInts_append, hm]) (by rw [Array.size_append]; lia) kF kN
theorem wr_u16 {x dx b : Addr} {h1 : Int} {tk1 tv : Tok} {arr : Array UInt8} {k : Int} {g : Obj → List (Addr × Obj)}
    (N : News h₀ L s.heap news) (hx : (x, instObj 243 dx) ∈ news) (hdx : (dx, dictOf [⟨h1, .str (Str.ofString "written") tk1, .ref b⟩] 1) ∈ news) (U : UpdF b (baObj arr) news g)
    (hz : arr.size + 2 ≤ sizeLine) (hgd : gd = some []) (k0 : 0 ≤ k) (k1 : k < 65536)
    (hd : dp + 8 < recursionLimit) (hu : un + 60 < cLine)
    (hQ : ∀ arr' h' tk', KBw.bInts arr' = KBw.bInts arr ++ KTBy.little 2 k → arr'.size = arr.size + 2 → Fr h₀ L h' m → News h₀ L h' (g (baObj arr')) → Q .none { s with heap := h', toks := tk' }) :
    wpN (model PySem.Challenge.rw_og0206_01.row.prog w) (ktrTop dp un gd cn cs L a ccd cl outer) (call (.ref 205) [.ref x, .int k tv]) Q E s := by
  have hb := updF_mem U
  refine wpN_call ?_
  walk_at "myenterN"
  refine execsN_cons ?_
  refine exprN ?_
  refine methodN ?_
  walk_at "ks"
  refine withN_builtin1 ?_
  walk_at "ks"
  rw [band16 k0 k1]
  refine KTBy.to_little (k := 2) (B := 65536) (by decide) (by decide +kernel) k0 k1 ?_
  intro more t' k' hm hl
  walk_at "ks"
  rename Fr _ _ _ (fun y => List.lookup y _) => F1
  rename News _ _ _ news => N1
  have hsz := bInts_size more
  rw [hm, hl] at hsz
  refine ba_extend hgd F1 N1 U (by rw [Array.size_append]; lia) ?_
  intro h2 F2 N2
  dsimp only
  refine wpN_nil ?_
  walk_at "ks"
  rename Fr _ _ _ _ => kF; rename News _ _ _ _ => kN
  exact hQ (arr ++ more) _ _ (by rw [bInts_append, hm]) (by rw [Array.size_append]; lia) kF kN
theorem wr_u8 {x dx b : Addr} {h1 : Int} {tk1 tv : Tok} {arr : Array UInt8} {k : Int} {g : Obj → List (Addr × Obj)}
    (N : News h₀ L s.heap news) (hx : (x, instObj 243 dx) ∈ news) (hdx : (dx, dictOf [⟨h1, .str (Str.ofString "written") tk1, .ref b⟩] 1) ∈ news) (U : UpdF b (baObj arr) news g)
    (hz : arr.size + 1 ≤ sizeLine) (hgd : gd = some []) (k0 : 0 ≤ k) (k1 : k < 256)
    (hd : dp + 8 < recursionLimit) (hu : un + 60 < cLine)
    (hQ : ∀ arr' h' tk', KBw.bInts arr' = KBw.bInts arr ++ [k] → arr'.size = arr.size + 1 → Fr h₀ L h' m → News h₀ L h' (g (baObj arr')) → Q .none { s with heap := h', toks := tk' }) :
    wpN (model PySem.Challenge.rw_og0206_01.row.prog w) (ktrTop dp un gd cn cs L a ccd cl outer) (call (.ref 198) [.ref x, .int k tv]) Q E s := by
  have hb := updF_mem U
  refine wpN_call ?_
  walk_at "myenterN"
  refine execsN_cons ?_
  refine exprN ?_
  refine methodN ?_
  walk_at "ks"
  refine withN_builtin1 ?_
  walk_at "ks"
  rw [band8 k0 k1]
  rename Fr _ _ _ (fun y => List.lookup y _) => F1
  rename News _ _ _ news => N1
  refine ba_append hgd F1 N1 U hz k0 k1 ?_
  intro h2 F2 N2
  dsimp only
  refine wpN_nil ?_
  walk_at "ks"
  rename Fr _ _ _ _ => kF; rename News _ _ _ _ => kN
  exact hQ _ _ _ (bInts_push arr k0 k1) (by rw [Array.size_push]) kF kN
theorem wr_size {x dx b : Addr} {h1 : Int} {tk1 : Tok} {arr : Array UInt8}
    (N : News h₀ L s.heap news) (hx : (x, instObj 243 dx) ∈ news) (hdx : (dx, dictOf [⟨h1, .str (Str.ofString "written") tk1, .ref b⟩] 1) ∈ news) (hb : (b, baObj arr) ∈ news)
    (hz : arr.size < 2 ^ 24) (hd : dp + 8 < recursionLimit) (hu : un + 60 < cLine)
    (hQ : ∀ t' h' tk', Fr h₀ L h' m → News h₀ L h' news → Q (.int arr.size t') { s with heap := h', toks := tk' }) :
    wpAny (model PySem.Challenge.rw_og0206_01.row.prog w) (ktrTop dp un gd cn cs L a ccd cl outer) (call (.ref 177) [.ref x]) Q E s := by
  refine wpAny_call ?_
  walk_at "myenter"
  walk_at "ks"
  rename Fr _ _ _ _ => kF; rename News _ _ _ _ => kN
  exact hQ _ _ _ kF kN
theorem wr_octets {x dx b : Addr} {h1 : Int} {tk1 : Tok} {arr : Array UInt8}
    (N : News h₀ L s.heap news) (hx : (x, instObj 243 dx) ∈ news) (hdx : (dx, dictOf [⟨h1, .str (Str.ofString "written") tk1, .ref b⟩] 1) ∈ news) (hb : (b, baObj arr) ∈ news)
    (hz : arr.size < 2 ^ 24) (hzl : arr.size ≤ sizeLine) (hd : dp + 8 < recursionLimit) (hu : un + 60 < cLine)
    (hQ : ∀ t' h' tk', Fr h₀ L h' m → News h₀ L h' news → Q (.bytes arr t') { s with heap := h', toks := tk' }) :
    wpAny (model PySem.Challenge.rw_og0206_01.row.prog w) (ktrTop dp un gd cn cs L a ccd cl outer) (call (.ref 184) [.ref x]) Q E s := by
  refine wpAny_call ?_
  walk_at "myenter"
  walk_at "ks"
  rename Fr _ _ _ _ => kF; rename News _ _ _ _ => kN
  exact hQ _ _ _ kF kN
end
end
section
local macro_rules | `(tactic| walk_at "pad") => `(tactic| skip)
section
variable {w : World} {mean : ExcName → Option Value} {mg mb : Str → Option Value}
    {dp un : Nat} {gd : Option (List Code)} {cn : Str} {cs : Scope} {a : Addr} {ccd : Value} {cl : List (Str × Addr)} {outer : List Env} {A₀ : Around} {base h₀ : Heap} {L : Addr} {m : Str → Option Value} {s : Shared} {Q E : Value → Shared → Prop}
    {news : List (Addr × Obj)} (dm : KdMark)
    (B : Below A₀ base outer h₀) (F : Fr h₀ L s.heap m) (X : (heapK w.params).In h₀)
    (T : Top view (looseW view [Str.ofString "MEMORY_END"]) mean mg mb h₀) (hk : cs.kind = .function)
include dm B F X T hk
theorem wr_new (N : News h₀ L s.heap news) (hgd : gd = some []) (hd : dp + 8 < recursionLimit) (hu : un + 60 < cLine)
    (hQ : ∀ x dx b h1 tk1 h' tk', Fr h₀ L h' m → News h₀ L h' ((x, instObj 243 dx) :: (dx, dictOf [⟨h1, .str (Str.ofString "written") tk1, .ref b⟩] 1) :: (b, baObj #[]) :: news) → (∀ p ∈ news, p.1 ≠ x) → (∀ p ∈ news, p.1 ≠ dx) → (∀ p ∈ news, p.1 ≠ b) → @Ne Nat x dx → @Ne Nat x b → @Ne Nat dx b → Q (.ref x) { s with heap := h', toks := tk' }) :
    wpN (model PySem.Challenge.rw_og0206_01.row.prog w) (ktrTop dp un gd cn cs L a ccd cl outer) (call (.ref 243) []) Q E s := by
  refine makeN (K := heapK w.params) (fI := 170) F N X (by k_is) (by k_is) (by k_is) ?_
  intro x dx h' F1 N1 l1 l2
  (try k_lt l1); (try k_lt2 l2); (try k_sweep)
  walk_at "myenterN"
  refine execsN_cons ?_
  refine assignAttrN ?_
  refine nameCallN ?_
  walk_at "ks"
  refine withN_type0 ?_
  rename Fr _ _ _ (fun y => List.lookup y _) => F2
  rename News _ _ _ (_ :: _ :: news) => N2
  refine ba_new0 (by exact hgd) F2 N2 ?_
  intro b h2 F3 N3 lt
  (try k_lt lt)
  walk_at "ks"
  try dsimp only
  refine wpN_nil ?_
  walk_at "ks"
  rename Fr _ _ _ _ => kF; rename News _ _ _ _ => kN
  have lb := kst_ltOf lt.2.2
  refine' hQ x dx b _ _ _ _ kF ?n9 (fun p hp => Nat.ne_of_lt (Nat.lt_trans (l1 p hp) l2)) (fun p hp => Nat.ne_of_lt (l1 p hp)) (fun p hp => Nat.ne_of_lt (lb p hp)) (Nat.ne_of_gt l2) (Nat.ne_of_lt lt.1) (Nat.ne_of_lt lt.2.1)
  case n9 => exact cb_drop kN (List.forall_mem_cons.mpr ⟨by k_memK, List.forall_mem_cons.mpr ⟨by k_memK, List.forall_mem_cons.mpr ⟨by k_memK, by (intro p hp; repeat (first | with_reducible exact hp | with_reducible refine List.mem_cons_of_mem _ ?_))⟩⟩⟩)
theorem wr_patch {x dx b : Addr} {h1 : Int} {tk1 ta tv : Tok} {arr : Array UInt8} {at_ k : Int} {g : Obj → List (Addr × Obj)}
    (N : News h₀ L s.heap news) (hx : (x, instObj 243 dx) ∈ news) (hdx : (dx, dictOf [⟨h1, .str (Str.ofString "written") tk1, .ref b⟩] 1) ∈ news) (U : UpdF b (baObj arr) news g)
    (hz : arr.size < 2 ^ 24) (hzl : arr.size ≤ sizeLine) (hgd : gd = some []) (k0 : 0 ≤ k) (k1 : k < 4294967296) (a0 : 0 ≤ at_) (a1 : at_ + 4 ≤ arr.size)
    (hd : dp + 8 < recursionLimit) (hu : un + 60 < cLine)
    (hQ : ∀ arr' h' tk', KBw.bInts arr' = (KBw.bInts arr).take at_.toNat ++ KTBy.little 4 k ++ (KBw.bInts arr).drop (at_ + 4).toNat → arr'.size = arr.size → Fr h₀ L h' m → News h₀ L h' (g (baObj arr')) → Q .none { s with heap := h', toks := tk' }) :
    wpN (model PySem.Challenge.rw_og0206_01.row.prog w) (ktrTop dp un gd cn cs L a ccd cl outer) (call (.ref 240) [.ref x, .int at_ ta, .int k tv]) Q E s := by
  have hb := updF_mem U
  refine wpN_call ?_
  walk_at "myenterN"
  refine execsN_cons (wpN_any ?_)
  walk_at "ks"
  try dsimp only
  refine execsN_cons ?_
  refine assignSliceN ?_
  walk_at "ks"
  rw [band32 k0 k1]
  refine KTBy.to_little (k := 4) (B := 4294967296) (by decide) (by decide +kernel) k0 k1 ?_
  intro more t' k' hm hl
  walk_at "ks"
  try dsimp only
  have hsz := bInts_size more
  rw [hm, hl] at hsz
  rename Fr _ _ _ (fun y => List.lookup y _) => F1
  rename News _ _ _ news => N1
  refine' ba_patch ?hg F1 N1 U a0 ?h1 ?h2 ?h3 hzl ?_
  case hg => exact hgd
  case h1 => lia
  case h2 => lia
  case h3 => lia
  intro h2 F2 N2
  refine wpN_nil ?_
  walk_at "ks"
  rename Fr _ _ _ _ => kF; rename News _ _ _ _ => kN
  refine hQ _ _ _ ?_ ?_ kF kN
  · rw [bInts_append, bInts_append, bInts_extract, bInts_extract, hm, List.drop_zero, Nat.sub_zero, List.take_of_length_le (l := (KBw.bInts arr).drop _)]
    rw [List.length_drop, bInts_size]
    exact Nat.le_refl _
  · simp only [Array.size_append, Array.size_extract]; exact cut_size a0 (Int.le_add_of_nonneg_right (by decide)) a1 (by rw [← hsz]; rfl)
end
end
end
end
end
end
end
section
local macro_rules | `(tactic| walk_at "cs") => `(tactic| (ktr_room; ktr_units; all_goals walk_at "ci"))
section
local macro_rules | `(tactic| walk_at "getMethod ref") => `(tactic| (k_here; k_dflt (first | ((with_reducible show wpAny _ _ (getMethod _ (PySem.Str.ofString "extend") _) _ _ _); apply ba_method; k_asm; k_mem; exact FB.sl_extend; exact FB.ty_extend) | (apply ba_method; k_asm; k_mem; exact FB.sl_append; exact FB.ty_append))))
section
local macro_rules | `(tactic| walk_at "myenterN") => `(tactic| k_dflt (focus (apply entryN; walk_at "into"; exact locs rfl; rotate_left; exact rfl; exact rfl; exact rfl; decide; k_whole; intros; (try dsimp only); refine (let vk : Env := _; let ak : Around := _; (?_ : wpN _ ak (execs _ vk) _ _ _)))))
section
local macro_rules | `(tactic| walk_at "call type:bytes") => `(tactic| ((with_reducible show wpAny _ _ (call (Value.type "bytes") [Value.ref _]) _ _ _); k_dflt (apply bytes_of_baN; k_asm; k_mem; assumption; k_whole)))
section
local macro_rules | `(tactic| walk_at "call builtin:len") => `(tactic| ((with_reducible show wpAny _ _ (call (Value.builtin _) [Value.ref _]) _ _ _); k_dflt (apply len_baN; k_asm; k_mem; lia; k_whole)))
section
local macro_rules | `(tactic| walk_at "call ref") => `(tactic| (k_here; (with_reducible show wpAny _ _ (call (Value.ref 177) [Value.ref _]) _ _ _); k_dflt (focus (apply wr_size; walk_at "cp"; k_mem; k_mem; k_mem; lia; walk_at "cs"))))
section
local macro_rules | `(tactic| walk_at "call ref") => `(tactic| (k_here; (with_reducible show wpAny _ _ (call (Value.ref 184) [Value.ref _]) _ _ _); k_dflt (focus (apply wr_octets; walk_at "cp"; k_mem; k_mem; k_mem; lia; (rw [sizeLine_eq]; lia); walk_at "cs"))))
section
local macro_rules | `(tactic| walk_at "eval Name") => `(tactic| (k_here; (with_reducible show wpAny _ _ (eval (Expr.Name ("MEMORY_END" : Str) _) _) _ _ _); k_dflt (apply tp_bound; k_asm; k_asm; assumption)))
section
local macro_rules | `(tactic| walk_at "leaving ref") => `(tactic| (k_here; (apply leave_faultX; assumption; k_asm; k_asm; k_mem; k_whole); intro h' R' U'; (try dsimp only)))
section
section
variable {w : World} {mean : ExcName → Option Value} {mg mb : Str → Option Value}
    {dp un : Nat} {gd : Option (List Code)} {cn : Str} {cs : Scope} {a : Addr} {ccd : Value} {cl : List (Str × Addr)} {outer : List Env} {A₀ : Around} {base h₀ : Heap} {L : Addr} {m : Str → Option Value} {s : Shared} {Q E : Value → Shared → Prop}
    {news : List (Addr × Obj)} (dm : KdMark)
    (B : Below A₀ base outer h₀) (F : Fr h₀ L s.heap m) (X : (heapK w.params).In h₀)
    (T : Top view (looseW view [Str.ofString "MEMORY_END"]) mean mg mb h₀) (hk : cs.kind = .function)
include dm B F X T hk
theorem write_set_spec {x dx b rl : Addr} {h1 : Int} {tk1 tu tME : Tok} {arr : Array UInt8} {tl : List (Addr × Obj)} {vs : List Value} {nn : Nat} {rows : List (Int × Int)} {u : Int}
    (hME : mg (Str.ofString "MEMORY_END") = some (.int 4294967296 tME))
    (N : News h₀ L s.heap ((b, baObj arr) :: tl)) (off : ∀ p ∈ tl, p.1 ≠ b) (hx : (x, instObj 243 dx) ∈ tl) (hdx : (dx, dictOf [⟨h1, .str (Str.ofString "written") tk1, .ref b⟩] 1) ∈ tl) (hrl : (rl, listOf vs.toArray nn) ∈ tl) (hda : DatAll tl vs (rows.map pairDat))
    (hz : arr.size + 24 + 8 * rows.length < 2 ^ 20) (hgd : gd = some []) (u0 : 0 ≤ u) (u1 : u < 4294967296)
    (hd : dp + 12 < recursionLimit) (hu : un + 90 < cLine)
    (hQ : ∀ arr' h' tk', (∀ r ∈ rows, goodPair r) → KBw.bInts arr' = KBw.bInts arr ++ setW u rows → arr'.size = arr.size + 24 + 8 * rows.length → Fr h₀ L h' m → News h₀ L h' ((b, baObj arr') :: tl) → Q .none { s with heap := h', toks := tk' })
    (hE : ∀ e g₂ h' tk', ¬ (∀ r ∈ rows, goodPair r) → Fr h₀ L g₂ m → RaisedX base (envX cn cs L a ccd cl :: outer) e (.ref 70) tl h' → g₂.UpToSlots h' → E (.ref e) { s with heap := h', toks := tk' }) :
    wpN (model PySem.Challenge.rw_og0206_01.row.prog w) (ktrTop dp un gd cn cs L a ccd cl outer) (call (.ref 254) [.ref x, .int u tu, .ref rl]) Q E s := by
  refine wpN_call ?_
  walk_at "myenterN"
  refine execsN_cons (wpN_any ?_)
  walk_at "ks"
  refine execsN_cons (exprN (methodN ?_))
  walk_at "ks"
  refine withN_K (K := heapK w.params) (by k_is) ?_
  walk_at "ks"
  k_dflt (focus (apply wr_u32; exact kdMark; k_asm; k_asm; k_asm; k_asm; exact rfl; k_asm; k_mem; k_mem; k_updF; (rw [sizeLine_eq]; lia); (first | assumption | exact rfl); lia; lia; ktr_room; ktr_units; all_goals walk_at "ci"))
  rename KBw.bInts _ = _ => a1
  rename Array.size _ = _ => z1
  refine execsN_cons (exprN (methodN ?_))
  walk_at "ks"
  refine withN_K (K := heapK w.params) (by k_is) ?_
  walk_at "ks"
  k_dflt (focus (apply wr_u16; exact kdMark; k_asm; k_asm; k_asm; k_asm; exact rfl; k_asm; k_mem; k_mem; k_updF; (rw [sizeLine_eq]; lia); (first | assumption | exact rfl); lia; lia; ktr_room; ktr_units; all_goals walk_at "ci"))
  rename KBw.bInts _ = _ => a2
  rename Array.size _ = _ => z2
  refine execsN_cons (exprN (methodN ?_))
  walk_at "ks"
  refine withN_K (K := heapK w.params) (by k_is) ?_
  walk_at "ks"
  k_dflt (focus (apply wr_u32; exact kdMark; k_asm; k_asm; k_asm; k_asm; exact rfl; k_asm; k_mem; k_mem; k_updF; (rw [sizeLine_eq]; lia); (first | assumption | exact rfl); lia; lia; ktr_room; ktr_units; all_goals walk_at "ci"))
  rename KBw.bInts _ = _ => a3
  rename Array.size _ = _ => z3
  refine execsN_cons (exprN (methodN ?_))
  walk_at "ks"
  refine withN_K (K := heapK w.params) (by k_is) ?_
  walk_at "ks"
  k_dflt (focus (apply wr_u8; exact kdMark; k_asm; k_asm; k_asm; k_asm; exact rfl; k_asm; k_mem; k_mem; k_updF; (rw [sizeLine_eq]; lia); (first | assumption | exact rfl); lia; lia; ktr_room; ktr_units; all_goals walk_at "ci"))
  rename KBw.bInts _ = _ => a4
  rename Array.size _ = _ => z4
  refine execsN_cons (exprN (methodN ?_))
  walk_at "ks"
  refine withN_K (K := heapK w.params) (by k_is) ?_
  walk_at "ks"
  k_dflt (focus (apply wr_u8; exact kdMark; k_asm; k_asm; k_asm; k_asm; exact rfl; k_asm; k_mem; k_mem; k_updF; (rw [sizeLine_eq]; lia); (first | assumption | exact rfl); lia; lia; ktr_room; ktr_units; all_goals walk_at "ci"))
  rename KBw.bInts _ = _ => a5
  rename Array.size _ = _ => z5
  refine execsN_cons (exprN (methodN ?_))
  walk_at "ks"
  refine withN_K (K := heapK w.params) (by k_is) ?_
  walk_at "ks"
  k_dflt (focus (apply wr_u32; exact kdMark; k_asm; k_asm; k_asm; k_asm; exact rfl; k_asm; k_mem; k_mem; k_updF; (rw [sizeLine_eq]; lia); (first | assumption | exact rfl); lia; lia; ktr_room; ktr_units; all_goals walk_at "ci"))
  rename KBw.bInts _ = _ => a6
  rename Array.size _ = _ => z6
  have hb16 : (KBw.bInts arr ++ setHead u).length = arr.size + 16 := by
    rw [List.length_append, bInts_size, show (setHead u).length = 16 by simp [setHead, KTBy.little_length]]
  have hvl : vs.length = rows.length := by rw [datAll_len hda, List.length_map]
  refine execsN_cons (forN ?_)
  walk1
  rename Fr _ _ _ _ => F1
  rename News _ _ _ _ => N1
  have hlist := (N1 _ (.tail _ hrl)).1
  refine wpAny_pyIter_list (items := vs.toArray) ⟨_, hlist, rfl, nn, rfl⟩ ?_
  have lts : ∀ p ∈ tl, p.1 < _ := fun p hp => Heap.lt_size (N1 p (.tail _ hp)).1
  have ltb := Heap.lt_size (N1 _ (.head _)).1
  refine loopListN (vs := vs) (nn := nn) (WsE b tl (.ref x) (.int u tu) (.ref rl) arr.size (KBw.bInts arr ++ setHead u) rows) ?hh ?hE ?hgo ?turn ?fin vs.length 0 _ _ _ _ _ (Nat.zero_add _) ?J0 (F1.push _) (N1.push F1 _) rfl rfl (.tail _ hrl) ?hne
  case hh => exact rfl
  case hE => passes_own
  case hne =>
    intro p hp
    rcases List.mem_cons.mp hp with rfl | hp
    · exact Nat.ne_of_lt ltb
    · exact Nat.ne_of_lt (lts p hp)
  case hgo =>
    intro I v s' i Q' E' hv hit q
    refine cps fun gG kG => ?_
    obtain ⟨j, hj⟩ := List.getElem?_of_mem hv
    obtain ⟨r, T, n, tb, tz, _, rfl, _⟩ := pair_get hda hj
    refine kG ?_
    clear kG gG
    exact wpAny_letOwnedTupleGo_listiter hit q
  case J0 =>
    refine WsE.mk ⟨rfl, ?_, ?_, (fun r hr => nomatch hr), wsM_cut rfl rfl rfl rfl⟩
    · rw [a6, a5, a4, a3, a2, a1]
      simp [setHead, flatW]
    · rw [hb16]; lia
  case turn =>
    intro I i v h tk m' news' o hv hJ F' N' hl hne
    refine cps fun gG kG => ?_
    refine WsE.out hJ ?_
    intro tst arr' J
    obtain ⟨r, T, n, tb, tz, hr, rfl, hT⟩ := pair_get hda hv
    obtain rfl := J.led
    refine kG ?_
    clear kG gG
    have hF := F'
    rw [← J.loc] at hF
    unfold wsM at hF
    clear F' F1 N1 lts ltb hlist
    have hIb : @Ne Nat I b := Ne.symm (hne _ (.head _))
    have hsz := J.size
    rw [hb16] at hsz
    have hi : i < rows.length := (List.getElem?_eq_some_iff.mp hr).1
    try k_unmd
    try walk_at "fo"
    walk_at "ks"
    refine execsN_cons (wpN_any ?_)
    walk_at "ks"
    all_goals first
      | (with_reducible show E _ _
         with_reducible rename Heap.UpToSlots _ _ => U'
         with_reducible refine hE _ _ _ _ ?n0 ?F9 ?R9 U'
         case F9 => with_reducible assumption
         case R9 =>
           rename_i R'
           with_reducible refine R' tl ?k1 ?k2
           (case k1 => (intro p hp; repeat (first | with_reducible exact hp | with_reducible refine List.mem_cons_of_mem _ ?_))); (case k2 => (first | with_reducible assumption | (intro p hp; with_reducible refine ne_mem (by with_reducible assumption) ?_; repeat (first | with_reducible exact hp | with_reducible refine List.mem_cons_of_mem _ ?_))))
         case n0 =>
           clear U'
           intro hall
           have hg := hall r (List.mem_of_getElem? hr)
           unfold goodPair at hg
           lia)
      | skip
    have hg : goodPair r := by unfold goodPair; lia
    unfold goodPair at hg
    try dsimp only
    refine execsN_cons (exprN (methodN ?_))
    walk_at "ks"
    refine withN_K (K := heapK w.params) (by k_is) ?_
    walk_at "ks"
    k_dflt (focus (apply wr_u32; exact kdMark; k_asm; k_asm; k_asm; k_asm; exact rfl; k_asm; k_mem; k_mem; k_updF; (rw [sizeLine_eq]; lia); (first | assumption | exact rfl); lia; lia; ktr_room; ktr_units; all_goals walk_at "ci"))
    rename KBw.bInts _ = _ => c1
    rename Array.size _ = _ => y1
    refine execsN_cons (exprN (methodN ?_))
    walk_at "ks"
    refine withN_K (K := heapK w.params) (by k_is) ?_
    walk_at "ks"
    k_dflt (focus (apply wr_u32; exact kdMark; k_asm; k_asm; k_asm; k_asm; exact rfl; k_asm; k_mem; k_mem; k_updF; (rw [sizeLine_eq]; lia); (first | assumption | exact rfl); lia; lia; ktr_room; ktr_units; all_goals walk_at "ci"))
    rename KBw.bInts _ = _ => c2
    rename Array.size _ = _ => y2
    refine wpN_nil ?_
    try dsimp only
    rename Fr _ _ _ _ => F3
    rename News _ _ _ _ => N3
    refine stepN_mk F3 N3 (.tail _ hrl) ?_ (WsE.mk (tst := tst) ⟨rfl, ?_, ?_, ?_, wsM_cut rfl rfl rfl rfl⟩)
    · intro p hp
      rcases List.mem_cons.mp hp with rfl | hp
      · exact Ne.symm hIb
      · exact hne p (.tail _ hp)
    · rw [c2, c1, J.oct, flatW_snoc rows hr]
      simp only [List.append_assoc]
    · rw [hb16]; lia
    · intro q hq
      rw [List.take_succ, hr] at hq
      rcases List.mem_append.mp hq with hq | hq
      · exact J.good q hq
      · obtain rfl := List.mem_singleton.mp hq
        exact hg
  case fin =>
    intro h tk m' news' hJ F' N'
    refine cps fun gG kG => ?_
    refine WsE.out hJ ?_
    intro tst arr' J
    obtain rfl := J.led
    refine kG ?_
    clear kG gG
    have hF := F'
    rw [← J.loc] at hF
    unfold wsM at hF
    clear F' F1 N1 lts ltb hlist
    have hsz := J.size
    rw [hb16, hvl] at hsz
    have hoct := J.oct
    have hgood := J.good
    rw [hvl, List.take_length] at hoct hgood
    try dsimp only
    refine execsN_cons (exprN (methodN ?_))
    walk_at "ks"
    refine withN_K (K := heapK w.params) (by k_is) ?_
    walk_at "ks"
    k_dflt (focus (apply wr_u32; exact kdMark; k_asm; k_asm; k_asm; k_asm; exact rfl; k_asm; k_mem; k_mem; k_updF; (rw [sizeLine_eq]; lia); (first | assumption | exact rfl); lia; lia; ktr_room; ktr_units; all_goals walk_at "ci"))
    rename KBw.bInts _ = _ => c1
    rename Array.size _ = _ => y1
    refine execsN_cons (exprN (methodN ?_))
    walk_at "ks"
    refine withN_K (K := heapK w.params) (by k_is) ?_
    walk_at "ks"
    k_dflt (focus (apply wr_u32; exact kdMark; k_asm; k_asm; k_asm; k_asm; exact rfl; k_asm; k_mem; k_mem; k_updF; (rw [sizeLine_eq]; lia); (first | assumption | exact rfl); lia; lia; ktr_room; ktr_units; all_goals walk_at "ci"))
    rename KBw.bInts _ = _ => c2
    rename Array.size _ = _ => y2
    refine execsN_cons (exprN (methodN ?_))
    walk_at "ks"
    refine withN_K (K := heapK w.params) (by k_is) ?_
    walk_at "ks"
    k_dflt (focus (apply wr_patch; exact kdMark; k_asm; k_asm; k_asm; k_asm; exact rfl; k_asm; k_mem; k_mem; k_updF; lia; (rw [sizeLine_eq]; lia); (first | assumption | exact rfl); lia; lia; lia; lia; ktr_room; ktr_units; all_goals walk_at "ci"))
    rename KBw.bInts _ = _ => c3
    rename Array.size _ = _ => y3
    refine wpN_nil ?_
    walk_at "ks"
    rename Fr _ _ _ _ => kF; rename News _ _ _ _ => kN
    refine hQ _ _ _ hgood ?_ (by lia) kF kN
    rw [c3, c2, c1, hoct]
    exact set_patch (by rw [bInts_size]) (by lia)
end
end
end
end
end
end
section
local macro_rules | `(tactic| walk_at "subscriptTail") => `(tactic| (k_here; (with_reducible show wpAny _ _ (subscriptTail _ _ (Value.ref _) (Value.int _ _)) _ _ _); refine kda_item (knd := PySem.intKind _ _) (by k_asm) (by k_mem) (by k_asm) (intKind_is _ _ _ _) (by assumption) ?_))
section
local macro_rules | `(tactic| walk_at "call ref") => `(tactic| (k_here; (with_reducible show wpAny _ _ (call (Value.ref 177) [Value.ref _]) _ _ _); k_dflt (focus (apply wr_size; walk_at "cp"; k_mem; k_mem; k_mem; lia; walk_at "cs"))))
section
local macro_rules | `(tactic| walk_at "call ref") => `(tactic| (k_here; (with_reducible show wpAny _ _ (call (Value.ref 184) [Value.ref _]) _ _ _); k_dflt (focus (apply wr_octets; walk_at "cp"; k_mem; k_mem; k_mem; lia; (rw [sizeLine_eq]; lia); walk_at "cs"))))
section
local macro_rules | `(tactic| walk_at "eval Name") => `(tactic| (k_here; (with_reducible show wpAny _ _ (eval (Expr.Name ("MEMORY_END" : Str) _) _) _ _ _); k_dflt (apply tp_bound; k_asm; k_asm; assumption)))
section
local macro_rules | `(tactic| walk_at "leaving ref") => `(tactic| (k_here; (apply leave_faultX; assumption; k_asm; k_asm; k_mem; k_whole); intro h' R' U'; (try dsimp only)))
section
local macro_rules | `(tactic| walk_at "getMethod ref") => `(tactic| (k_here; (with_reducible show wpAny _ _ (getMethod (Value.ref _) (PySem.Str.ofString "setdefault") _) _ _ _); k_dflt (refine' kob_method PySem.F.slot_dict_setdefault PySem.F.type_dict_setdefault ?N ?m ?d ?_; (case N => k_asm); (case m => k_mem); (case d => assumption))))
section
local macro_rules | `(tactic| walk_at "leaving ref") => `(tactic| (k_here; (apply leave_onX; assumption; assumption; assumption; assumption; k_whole); intro h' R' U'; (try dsimp only)))
section
section
variable {w : World} {mean : ExcName → Option Value} {mg mb : Str → Option Value}
    {dp un : Nat} {gd : Option (List Code)} {cn : Str} {cs : Scope} {a : Addr} {ccd : Value} {cl : List (Str × Addr)} {outer : List Env} {A₀ : Around} {base h₀ : Heap} {L : Addr} {m : Str → Option Value} {s : Shared} {Q E : Value → Shared → Prop}
    {news : List (Addr × Obj)} (dm : KdMark)
    (B : Below A₀ base outer h₀) (F : Fr h₀ L s.heap m) (X : (heapK w.params).In h₀)
    (T : Top view (looseW view [Str.ofString "MEMORY_END"]) mean mg mb h₀) (hk : cs.kind = .function)
include dm B F X T hk
theorem write_aranges_spec {rl : Addr} {vs : List Value} {nn : Nat} {rows : List Row} {tME : Tok}
    (hME : mg (Str.ofString "MEMORY_END") = some (.int 4294967296 tME))
    (N : News h₀ L s.heap news) (hrl : (rl, listOf vs.toArray nn) ∈ news) (hda : DatAll news vs (rows.map rowDat)) (hun : ∀ r ∈ rows, 0 ≤ r.2.2 ∧ r.2.2 < 4294967296) (hlen : rows.length ≤ 5) (hgd : gd = some [])
    (hd : dp + 16 < recursionLimit) (hu : un + 130 < cLine)
    (hQ : ∀ arr t' h' tk', (∀ q ∈ groups rows, ∀ p ∈ q.2, goodPair p) → KBw.bInts arr = (groups rows).flatMap (fun q => setW q.1 q.2) → Fr h₀ L h' m → News h₀ L h' news → Q (.bytes arr t') { s with heap := h', toks := tk' })
    (hE : ∀ e g₂ h' tk', ¬ (∀ q ∈ groups rows, ∀ p ∈ q.2, goodPair p) → Fr h₀ L g₂ m → RaisedX base (envX cn cs L a ccd cl :: outer) e (.ref 70) news h' → g₂.UpToSlots h' → E (.ref e) { s with heap := h', toks := tk' }) :
    wpN (model PySem.Challenge.rw_og0206_01.row.prog w) (ktrTop dp un gd cn cs L a ccd cl outer) (call (.ref 261) [.ref rl]) Q E s := by
  refine wpN_call ?_
  walk_at "myenterN"
  refine execsN_cons (assignTupN ?_)
  refine tuple2N ?_
  walk_at "ks"
  refine nameCallN ?_
  walk_at "ks"
  rename Fr _ _ _ _ => F1
  rename News _ _ _ _ => N1
  refine withN_cls0 (K := heapK w.params) F1 (by k_asm) (by k_is) ?_
  k_dflt (refine' wr_new ?zdm ?zB ?zF ?zX ?zT ?zhk ?zN ?zhgd ?zhd ?zhu ?_; (case zdm => first | assumption | exact kdMark); (case zB => k_asm); (case zF => k_asm); (case zX => k_asm); (case zT => k_asm); (case zhk => first | exact rfl | assumption); (case zN => k_asm); (case zhgd => assumption); (case zhd => ktr_room); (case zhu => ktr_units); k_whole)
  intro x dx b h1 tk1 h' tk' F2 N2 ox odx ob n1 n2 n3
  clear F1 N1
  walk_at "ks"
  try dsimp only
  refine execsN_cons (forN ?_)
  walk1
  rename Fr _ _ _ _ => F1
  rename News _ _ _ _ => N1
  rename Obj.IsDictOf (intKind _ _) _ [] => hd0
  rename PyProof.V.FlatPairs _ _ _ => qf
  clear qf
  rename PyProof.V.FlatPairs _ _ _ => qf
  clear qf
  refine cps fun gG kG => ?_
  obtain ⟨tl, htl⟩ : ∃ tl, tl = (x, instObj 243 dx) :: (dx, dictOf [⟨h1, .str (Str.ofString "written") tk1, .ref b⟩] 1) :: (b, baObj #[]) :: news := ⟨_, rfl⟩
  refine kG ?_
  clear kG gG
  have hsub : ∀ p ∈ news, p ∈ tl := fun p hp => htl ▸ .tail _ (.tail _ (.tail _ hp))
  have N3 := cb_drop (news := _) N1 (show ∀ p ∈ (_ :: tl : List (Addr × Obj)), p ∈ _ from List.forall_mem_cons.mpr ⟨.tail _ (.tail _ (.tail _ (.tail _ (.head _)))), by
    rw [htl]
    intro p hp
    rcases List.mem_cons.mp hp with rfl | hp
    · exact .tail _ (.head _)
    rcases List.mem_cons.mp hp with rfl | hp
    · exact .tail _ (.tail _ (.head _))
    rcases List.mem_cons.mp hp with rfl | hp
    · exact .tail _ (.tail _ (.tail _ (.head _)))
    · exact .tail _ (.tail _ (.tail _ (.tail _ (.tail _ hp))))⟩)
  have hlist := (N3 _ (.tail _ (hsub _ hrl))).1
  refine wpAny_pyIter_list (items := vs.toArray) ⟨_, hlist, rfl, nn, rfl⟩ ?_
  refine loopListN (vs := vs) (nn := nn) (WaE PySem.Challenge.rw_og0206_01.row.prog w tl rows (.ref rl) (.ref x)) ?zhh ?zhE ?zhgo ?zturn ?zfin vs.length 0 _ _ _ _ _ (Nat.zero_add _) ?zJ0 (F1.push _) (N3.push F1 _) rfl rfl (.tail _ (hsub _ hrl)) ?zhne
  case zhh => exact rfl
  case zhE => passes_own
  case zhne => exact fun p hp => Nat.ne_of_lt (Heap.lt_size (N3 p hp).1)
  case zhgo =>
    intro I v s' i Q' E' hv hit q
    refine cps fun gG kG => ?_
    obtain ⟨j, hj⟩ := List.getElem?_of_mem hv
    obtain ⟨r, T, n, tb, tz, tu, _, rfl, _⟩ := row_get hda hj
    refine kG ?_
    clear kG gG
    exact wpAny_letOwnedTupleGo_listiter hit q
  case zJ0 =>
    refine WaE.mk (kvs := []) (ls := []) (tup := []) ⟨rfl, hd0, .nil, ?_, (fun a ha => nomatch ha), .nil, (fun a ha => nomatch ha), fun t ht => nomatch ht⟩ (waM_cut rfl rfl rfl) (by assumption)
    show ∀ p ∈ tl, _
    rw [htl]
    intro p hp
    rcases List.mem_cons.mp hp with rfl | hp
    · exact Ne.symm (ox _ (.head _))
    rcases List.mem_cons.mp hp with rfl | hp
    · exact Ne.symm (odx _ (.head _))
    rcases List.mem_cons.mp hp with rfl | hp
    · exact Ne.symm (ob _ (.head _))
    · rename ∀ p ∈ news, p.1 < _ => l9
      exact Nat.ne_of_lt (l9 p hp)
  case zturn =>
    intro I i v h tk m' news' o hv hJ F' N' hl hne
    clear hlist F1 N1 N3 hd0
    refine cps fun gG kG => ?_
    refine WaE.out hJ ?_
    intro d od kvs ls tup W hm lo
    obtain ⟨r, T, n, tb, tz, tu, hr, rfl, hT⟩ := row_get hda hv
    obtain rfl := W.led
    refine kG ?_
    clear kG gG
    have hF := F'
    rw [← hm] at hF
    unfold waM at hF
    clear F'
    have mT : _ ∈ ls ++ (tup ++ tl) := List.mem_append_right ls (List.mem_append_right tup (hsub _ hT))
    have Id : @Ne Nat I d := Ne.symm (hne _ (.head _))
    have hsm := W.small hlen
    have hdi := W.dict
    have hof := W.off
    generalize hrest : ls ++ (tup ++ tl) = rest at N' mT hl hne hof
    try k_unmd
    try walk_at "fo"
    walk_at "ks"
    refine execsN_cons (wpN_any ?_)
    walk_at "ks"
    rename Fr _ _ _ _ => F4
    rename News _ _ _ _ => N4
    rename (_ < _ ∧ _ < _ ∧ AllLt _ _) => lt4
    by_cases hu : r.2.2 ∈ (groups (rows.take i)).map (·.1)
    · obtain ⟨l, vs1, nn1, ls1, ls2, e1, e2, ⟨qq, e4, e5⟩, e3⟩ := grp_at W.grp hu
      have hvs : vs1.length ≤ 5 := by
        have h1 := groups_small _ _ e4
        have h2 : (rows.take i).length ≤ rows.length := by rw [List.length_take]; lia
        lia
      refine kob_setdef_there (k := r.2.2) N4 (.tail _ (.tail _ (.head _))) hdi lo (intKind_is _ _ _ _) (ok_setd _ _ _) e1 hsm ?_
      have N5 := cb_drop N4 (hrest ▸ led_mid (a := (I, o)) (b := (d, od)) (l0 := _) (tup := tup) (tl := tl) e2)
      have offl := W.offl e2
      have Il : @Ne Nat I l := Ne.symm (hne _ (.tail _ (hrest ▸ List.mem_append_left _ (e2 ▸ List.mem_append_right _ (.head _)))))
      have dl : @Ne Nat d l := Ne.symm (W.lsd l (by rw [e2, List.map_append]; exact List.mem_append_right _ (.head _)))
      clear N4 lt4
      generalize hrest2 : ls1 ++ (ls2 ++ (tup ++ tl)) = rest2 at N5 offl
      dsimp only at offl
      have hall : ∀ p ∈ ((I, o) :: (d, od) :: rest2 : List (Addr × Obj)), p.1 ≠ l := List.forall_mem_cons.mpr ⟨Il, List.forall_mem_cons.mpr ⟨dl, offl⟩⟩
      walk_at "ks"
      rename Fr _ _ _ _ => F5
      rename News _ _ _ _ => N6
      rename (_ < _ ∧ _ < _ ∧ _ < _ ∧ AllLt _ _) => lt5
      have lrest := kst_ltOf lt5.2.2.2
      try dsimp only
      refine wpN_nil ?_
      try dsimp only
      refine cps fun gG kG => ?_
      obtain ⟨news₃, q1, q2, q3, q4⟩ := WaJ.there W hr e2 e3 hrest2 N6 (hsub _ hrl) (hrest ▸ hne) ⟨lt5.1, lt5.2.1, lt5.2.2.1⟩ lrest
      obtain ⟨od₃, kvs₃, ls₃, tup₃, W₃⟩ := q4
      refine kG ?_
      clear kG gG
      exact stepN_mk F5 q1 q2 q3 (WaE.mk W₃ (waM_cut rfl rfl rfl) lo)
    · have e1 := (grp_new (tup' := _ :: tup) (fun p hp => .tail _ hp) W.grp hu (l := 0) (nn := 0) (T := 0) (n := 0) (b := 0) (z := 0) (tb := 0) (tz := 0) (.head _)).1
      have l0 := kst_ltOf lt4.2.2
      refine kob_setdef_new (k := r.2.2) F4 N4 (UpdF.tail (Nat.ne_of_gt lt4.2.1) (UpdF.tail Id (UpdF.head hof))) hdi lo (intKind_is _ _ _ _) (ok_setd _ _ _) e1 hsm ?_
      intro h5 od' F5 N5 hd5
      have hIl := lt4.1
      have hdl := lt4.2.1
      clear N4 F4 lt4
      walk_at "ks"
      rename Fr _ _ _ _ => F6
      rename News _ _ _ _ => N6
      rename (_ < _ ∧ _ < _ ∧ _ < _ ∧ AllLt _ _) => lt5
      have lrest := kst_ltOf lt5.2.2.2
      try dsimp only
      refine wpN_nil ?_
      try dsimp only
      refine cps fun gG kG => ?_
      obtain ⟨news₃, q1, q2, q3, q4⟩ := WaJ.fresh W hr hd5 hu hrest N6 (hsub _ hrl) (hrest ▸ hne) ⟨lt5.1, lt5.2.1, lt5.2.2.1⟩ lrest ⟨hIl, hdl⟩ l0
      obtain ⟨od₃, kvs₃, ls₃, tup₃, W₃⟩ := q4
      refine kG ?_
      clear kG gG
      exact stepN_mk F6 q1 q2 q3 (WaE.mk W₃ (waM_cut rfl rfl rfl) lo)
  case zfin =>
    intro h tk m' news' hJ F' N'
    clear hlist F1 N1 N3 hd0
    refine cps fun gG kG => ?_
    refine WaE.out hJ ?_
    intro d od kvs ls tup W hm lo
    have hvl : vs.length = rows.length := by rw [datAll_len hda, List.length_map]
    obtain rfl := W.led
    refine kG ?_
    clear kG gG
    have hg := W.grp
    rw [hvl, List.take_length] at hg
    have hF := F'
    rw [← hm] at hF
    unfold waM at hF
    clear F'
    try dsimp only
    refine execsN_cons (forN ?_)
    walk1
    rename Fr _ _ _ _ => F4
    rename News _ _ _ _ => N4
    refine cps fun gG kG => ?_
    obtain ⟨es, ep, hes⟩ := W.dict
    refine kG ?_
    clear kG gG
    refine wpAny_pyIter_dict (knd := intKind _ _) lo ⟨od, es, (N4 _ (.head _)).1, hes⟩ ?_
    refine cps fun gG kG => ?_
    subst htl
    refine kG ?_
    clear kG gG
    have hob : ∀ p ∈ news, p.1 ≠ b := fun p hp => ob p (.tail _ hp)
    have offb := W.offb n2 n3 hob
    have N5 := cb_drop N4 led_b
    clear N4
    have memx : (x, instObj 243 dx) ∈ tl2Of d x dx od (instObj 243 dx) (dictOf [⟨h1, .str (Str.ofString "written") tk1, .ref b⟩] 1) ls tup news := .tail _ (List.mem_append_right _ (List.mem_append_right _ (.head _)))
    have memdx : (dx, dictOf [⟨h1, .str (Str.ofString "written") tk1, .ref b⟩] 1) ∈ tl2Of d x dx od (instObj 243 dx) (dictOf [⟨h1, .str (Str.ofString "written") tk1, .ref b⟩] 1) ls tup news := .tail _ (List.mem_append_right _ (List.mem_append_right _ (.tail _ (.head _))))
    have memd : (d, od) ∈ tl2Of d x dx od (instObj 243 dx) (dictOf [⟨h1, .str (Str.ofString "written") tk1, .ref b⟩] 1) ls tup news := .head _
    have subl : ∀ p ∈ ls, p ∈ tl2Of d x dx od (instObj 243 dx) (dictOf [⟨h1, .str (Str.ofString "written") tk1, .ref b⟩] 1) ls tup news := fun p hp => .tail _ (List.mem_append_left _ hp)
    have subt : ∀ p ∈ tup, p ∈ tl2Of d x dx od (instObj 243 dx) (dictOf [⟨h1, .str (Str.ofString "written") tk1, .ref b⟩] 1) ls tup news := fun p hp => .tail _ (List.mem_append_right _ (List.mem_append_left _ hp))
    have subn : ∀ p ∈ news, p ∈ tl2Of d x dx od (instObj 243 dx) (dictOf [⟨h1, .str (Str.ofString "written") tk1, .ref b⟩] 1) ls tup news := fun p hp => .tail _ (List.mem_append_right _ (List.mem_append_right _ (.tail _ (.tail _ hp))))
    generalize tl2Of d x dx od (instObj 243 dx) (dictOf [⟨h1, .str (Str.ofString "written") tk1, .ref b⟩] 1) ls tup news = tl2 at N5 offb memx memdx memd subl subt subn
    have hnod : (kvs.map (·.1)).Nodup := hes.2.2.2.2
    have hdict := W.dict
    have hGn : (groups rows).length ≤ 5 := Nat.le_trans (groups_length rows) hlen
    have hkl := hg.len
    refine loopDictN (d := d) (od := od) (ep := ep) (kvs := kvs) (WbE b tl2 (.ref rl) (.ref d) (.ref x) (groups rows)) ?zhh2 ?zhE2 ?zhdat ?zhgo2 ?zturn2 ?zfin2 kvs.length 0 _ _ _ _ _ (Nat.zero_add _) (WbE.mk ⟨rfl, rfl, (fun q hq => nomatch hq), Nat.le_refl _, waM_cut rfl rfl rfl⟩) (F4.push _) (N5.push F4 _) rfl rfl (.tail _ memd) ?zhne2
    case zhh2 => exact rfl
    case zhE2 => passes_own
    case zhdat => exact fun h ho => ⟨od, es, ho, hes⟩
    case zhgo2 => exact fun I v s' Q' E' q => wpAny_of_eq (a := ()) rfl q
    case zhne2 => exact fun p hp => Nat.ne_of_lt (Heap.lt_size (N5 p hp).1)
    case zturn2 =>
      intro I i k v t h tk m' news' o hkv hJ F' N' hd2 hne2
      clear F4 N5
      refine cps fun gG kG => ?_
      refine WbE.out hJ ?_
      intro arr J
      obtain rfl := J.led
      obtain ⟨ps, l, vs1, nn1, g1, g2, g3, g4⟩ := grp_get hg hnod hkv
      refine kG ?_
      clear kG gG
      have hps : ps.length ≤ rows.length := groups_small rows _ (List.mem_of_getElem? g1)
      have hi : i < (groups rows).length := (List.getElem?_eq_some_iff.mp g1).1
      have hsz := J.size
      have hku : 0 ≤ k ∧ k < 4294967296 := groups_units hun _ (List.mem_of_getElem? g1)
      have hF := F'
      rw [← J.loc] at hF
      unfold waM at hF
      clear F'
      have hIb : @Ne Nat I b := Ne.symm (hne2 _ (.head _))
      try k_unmd
      try walk_at "fo"
      walk_at "ks"
      refine execsN_cons (exprN (nameCallN ?_))
      walk_at "ks"
      refine withN_K (K := heapK w.params) (by k_is) ?_
      walk_at "ks"
      rename Fr _ _ _ _ => F6
      rename News _ _ _ _ => N6
      have N7 := cb_drop N6 (show ∀ p ∈ ((b, baObj arr) :: (I, o) :: tl2 : List (Addr × Obj)), p ∈ (I, o) :: (b, baObj arr) :: tl2 from fun p hp => by
        rcases List.mem_cons.mp hp with rfl | hp
        · exact .tail _ (.head _)
        rcases List.mem_cons.mp hp with rfl | hp
        · exact .head _
        · exact .tail _ (.tail _ hp))
      clear N6
      k_dflt (refine' write_set_spec ?zdm ?zB ?zF ?zX ?zT ?zhk hME ?zN ?zoff ?zhx ?zhdx ?zhrl ?zhda ?zhz ?zhgd hku.1 hku.2 ?zhd ?zhu ?zq ?ze; (case zdm => first | assumption | exact kdMark); (case zB => k_asm); (case zF => k_asm); (case zX => k_asm); (case zT => k_asm); (case zhk => first | exact rfl | assumption); (case zN => exact N7); (case zoff => exact List.forall_mem_cons.mpr ⟨hIb, offb⟩); (case zhx => exact .tail _ memx); (case zhdx => exact .tail _ memdx); (case zhrl => exact .tail _ (subl _ g3)); (case zhda => exact g4.mono fun p hp => .tail _ (subt p hp)); (case zhz => lia); (case zhgd => assumption); (case zhd => ktr_room); (case zhu => ktr_units))
      case zq =>
        intro arr' h8 tk8 hgood8 hoct8 hsz8 F8 N8
        try dsimp only
        refine wpN_nil ?_
        try dsimp only
        refine stepN_mk (news₃ := (b, baObj arr') :: tl2) F8 (cb_drop N8 (fun p hp => ?_)) (.tail _ memd) ?_ (WbE.mk (J.next g1 hoct8 hgood8 hsz8 (by lia) (waM_cut rfl rfl rfl)))
        · rcases List.mem_cons.mp hp with rfl | hp
          · exact .tail _ (.head _)
          rcases List.mem_cons.mp hp with rfl | hp
          · exact .head _
          · exact .tail _ (.tail _ hp)
        · intro p hp
          rcases List.mem_cons.mp hp with rfl | hp
          · exact Ne.symm hIb
          · exact hne2 p (.tail _ hp)
      case ze =>
        intro e9 g9 h9 tk9 hbad F9 R9 U9
        walk_at "ks"
        with_reducible rename Heap.UpToSlots _ _ => U'
        with_reducible refine hE _ _ _ _ ?zn0 ?zF9 ?zR9 U'
        case zF9 => with_reducible assumption
        case zR9 =>
          with_reducible rename RaisedX base (envX cn cs L a ccd cl :: outer) _ _ _ _ => R'
          exact raisedX_sub R' (fun p hp => .tail _ (subn p hp))
        case zn0 => exact fun hall => hbad (hall _ (List.mem_of_getElem? g1))
    case zfin2 =>
      intro h tk m' news' hJ F' N'
      refine cps fun gG kG => ?_
      refine WbE.out hJ ?_
      intro arr J
      obtain rfl := J.led
      refine kG ?_
      clear kG gG
      have hoct := J.oct
      have hgood := J.good
      have hsz := J.size
      rw [hkl, List.take_length] at hoct hgood
      have hF := F'
      rw [← J.loc] at hF
      unfold waM at hF
      clear F' F4 N5
      try dsimp only
      refine wpN_any ?_
      iterate 6 walk1
      show wpAny _ _ (call (Value.ref 184) [Value.ref x]) _ _ _
      k_dflt (refine' wr_octets ?zdm ?zB ?zF ?zX ?zT ?zhk ?zN ?zhx ?zhdx ?zhb ?zhz ?zhzl ?zhd ?zhu ?_; (case zdm => first | assumption | exact kdMark); (case zB => k_asm); (case zF => k_asm); (case zX => k_asm); (case zT => k_asm); (case zhk => first | exact rfl | assumption))
      case zN => k_asm
      case zhx => k_mem
      case zhdx => k_mem
      case zhb => k_mem
      case zhz => lia
      case zhzl => (rw [sizeLine_eq]; lia)
      case zhd => ktr_room
      case zhu => ktr_units
      intro t' h8 tk8 F8 N8
      try dsimp only
      walk_at "ks"
      rename Fr _ _ _ _ => kF; rename News _ _ _ _ => kN
      exact hQ _ _ _ _ hgood hoct kF (cb_drop kN fun p hp => .tail _ (subn p hp))
end
end
end
end
end
end
end
end
end
end
end
end
end
end
end
end
section
local macro_rules | `(tactic| k_all) => `(tactic| with_reducible exact tl_ne2 (by assumption))
section
local macro_rules | `(tactic| walk_at "ci") => `(tactic| (intros; (try (rename News _ _ _ _ => nN; dsimp only at nN)); (try dsimp only); (try k_sweep)))
section
local macro_rules | `(tactic| walk_at "cp") => `(tactic| (exact kdMark; k_asm; k_asm; k_asm; k_asm; exact rfl; k_asm))
section
local macro_rules | `(tactic| walk_at "leaving ref") => `(tactic| (k_here; (apply leave_fault; assumption; k_asm; k_asm; k_mem; k_whole); intro h' R' U'; (try dsimp only)))
section
local macro_rules | `(tactic| walk_at "cs") => `(tactic| (ktr_room; ktr_units; all_goals walk_at "ci"))
section
local macro_rules | `(tactic| walk_at "call type:bytes") => `(tactic| ((with_reducible show wpAny _ _ (call (Value.type "bytes") [Value.bytes _ _]) _ _ _); refine bytes_of_bytes ?_))
section
local macro_rules | `(tactic| walk_at "oc") => `(tactic| (walk_at "cp"; k_mem; k_ne; k_updF; assumption; lia; lia; lia; lia; walk_at "cs"))
section
local macro_rules | `(tactic| walk_at "exec While Compare") => `(tactic| (k_here; refine Stop.out ?_))
section
local macro_rules | `(tactic| walk_at "exec While BoolOp") => `(tactic| (k_here; refine Stop.out ?_))
section
local macro_rules | `(tactic| walk_at "exec While") => `(tactic| (k_here; refine Stop.out ?_))
section
local macro_rules | `(tactic| walk_at "KswEnd") => `(tactic| refine Stop.out ?_)
section
local macro_rules | `(tactic| walk_at "call ref") => `(tactic| (k_here; (with_reducible show wpAny _ _ (call (Value.ref 100) [Value.ref _, Value.int _ _]) _ _ _); k_dflt (focus (apply oct_take; walk_at "oc"))))
section
local macro_rules | `(tactic| walk_at "call ref") => `(tactic| (k_here; (with_reducible show wpAny _ _ (call (Value.ref 128) _) _ _ _); k_dflt (focus (apply oct_u32; walk_at "oc"))))
section
local macro_rules | `(tactic| walk_at "call ref") => `(tactic| (k_here; (with_reducible show wpAny _ _ (call (Value.ref 121) _) _ _ _); k_dflt (focus (apply oct_u16; walk_at "oc"))))
section
local macro_rules | `(tactic| walk_at "call ref") => `(tactic| (k_here; (with_reducible show wpAny _ _ (call (Value.ref 107) _) _ _ _); k_dflt (focus (apply oct_u8; walk_at "oc"))))
section
local macro_rules | `(tactic| walk_at "call ref") => `(tactic| (k_here; (with_reducible show wpAny _ _ (call (Value.ref 152) [Value.bytes _ _, Value.int _ _, Value.int _ _]) _ _ _); k_dflt (focus (apply oct_new; walk_at "cp"; assumption; lia; lia; lia; lia; walk_at "cs"))))
section
local macro_rules | `(tactic| walk_at "call ref") => `(tactic| (k_here; (with_reducible show wpAny _ _ (call (Value.ref 93) _) _ _ _); k_dflt (focus (apply oct_done; walk_at "cp"; k_mem; k_mem; walk_at "cs"))))
section
section
variable {w : World} {mean : ExcName → Option Value} {mg mb : Str → Option Value}
    {dp un : Nat} {gd : Option (List Code)} {cn : Str} {cs : Scope} {a : Addr} {ccd : Value} {cl : List (Str × Addr)} {outer : List Env} {A₀ : Around} {base h₀ : Heap} {L : Addr} {m : Str → Option Value} {s : Shared} {Q E : Value → Shared → Prop}
    {news : List (Addr × Obj)} (dm : KdMark)
    (B : Below A₀ base outer h₀) (F : Fr h₀ L s.heap m) (X : (heapK w.params).In h₀)
    (T : Top view (looseW view [Str.ofString "MEMORY_END"]) mean mg mb h₀) (hk : cs.kind = .function)
include dm B F X T hk
theorem read_set_spec {bs : Array UInt8} {ns : List Int} {st : Int} {tb ts : Tok}
    (N : News h₀ L s.heap news) (hbi : KBw.bInts bs = ns) (hby : ∀ y ∈ ns, 0 ≤ y ∧ y < 256) (h0 : 0 ≤ st) (h1 : st ≤ ns.length) (hz : ns.length < 2 ^ 20)
    (hd : dp + 12 < recursionLimit) (hu : un + 90 < cLine)
    (hQ : ∀ r f n1 (vs : List Value) nn rows e te new h' tk', readSet ns st.toNat = some (rows, e) → Fr h₀ L h' m → News h₀ L h' ((r, { cls := .type "tuple", data := .seq #[.ref f, .int (e : Nat) te] n1 }) :: (f, listOf vs.toArray nn) :: (new ++ news)) →
      DatAll new vs (rows.map rowDat) → (∀ p ∈ new, ∀ q ∈ news, p.1 ≠ q.1) → (∀ p ∈ new ++ news, p.1 ≠ f) → (∀ p ∈ new ++ news, p.1 ≠ r) → @Ne Nat r f → Q (.ref r) { s with heap := h', toks := tk' })
    (hE : ∀ e g₂ h' tk', readSet ns st.toNat = none → Fr h₀ L g₂ m → RaisedN base (envX cn cs L a ccd cl :: outer) e (.ref 58) news h' → g₂.UpToSlots h' → E (.ref e) { s with heap := h', toks := tk' }) :
    wpAny (model PySem.Challenge.rw_og0206_01.row.prog w) (ktrTop dp un gd cn cs L a ccd cl outer) (call (.ref 268) [.bytes bs tb, .int st ts]) Q E s := by
  obtain ⟨k, rfl⟩ := Int.eq_ofNat_of_zero_le h0
  have w0 := (word4_bnd hby (k : Int).toNat).1
  refine wpAny_call ?_
  walk_at "myenter"
  walk_at "ks"
  all_goals first
    | (with_reducible show E _ _
       with_reducible rename Heap.UpToSlots _ _ => U'
       with_reducible refine hE _ _ _ _ ?n0 ?F9 ?R9 U'
       case F9 => with_reducible assumption
       case R9 =>
         skip
         first
         | (with_reducible rename RaisedN base (envX cn cs L a ccd cl :: outer) _ _ _ _ => R'
            with_reducible refine raised_tl R' ?k1 ?k2
            (case k1 => (first | with_reducible assumption | (intro p hp; with_reducible refine ne_mem (by with_reducible assumption) ?_; repeat (first | with_reducible exact hp | with_reducible refine List.mem_cons_of_mem _ ?_)))); (case k2 => (intro p hp; repeat (first | with_reducible exact hp | with_reducible refine List.mem_cons_of_mem _ ?_))))
         | (rename_i R'
            with_reducible refine R' news ?k1 ?k2
            (case k1 => (intro p hp; repeat (first | with_reducible exact hp | with_reducible refine List.mem_cons_of_mem _ ?_))); (case k2 => (first | with_reducible assumption | (intro p hp; with_reducible refine ne_mem (by with_reducible assumption) ?_; repeat (first | with_reducible exact hp | with_reducible refine List.mem_cons_of_mem _ ?_)))))
       clear U'
       case n0 =>
         first
         | exact readSet_len (by lia)
         | exact readSet_shortI h0 w0 (by lia))
    | skip
  unfold Stop
  rename Fr _ _ _ _ => F1
  rename News _ _ _ _ => N1
  have e5 : ((k : Int) + 4 + 2 + 4 + 1 + 1 + (16 - 12)).toNat = (k : Int).toNat + 16 := rfl
  have e6 : ((k : Int) + 4 + 2 + 4 + 1 + 1 + (16 - 12) + 4).toNat = (k : Int).toNat + 16 + 4 := rfl
  refine rs_while (news := news) (u0 := wordOf ns ((k : Int) + 4 + 2).toNat 4) ((k : Int).toNat + 16) F1 N1 (by k_mem) (by k_mem) (by k_mem) (by (intro p hp; repeat (first | with_reducible exact hp | with_reducible refine List.mem_cons_of_mem _ ?_))) (by rw [← e5]; rfl) (by rw [← e6]; rfl) (by rfl) (by rfl) (by rfl) (by rfl) (by lia) (by lia) (by k_all) (by k_all) (by k_all) ?_
  intro m₂ q tb' tz tp vs nn rows nw hh tk hq hrr hda hnn hvl od ol ox F2 N2
  have hset := readSet_loop h0 w0 (by lia) (by lia) (by assumption) (by assumption) (by assumption) hrr
  unfold rsM at F2
  clear F1 N1
  generalize htl : nw ++ news = tl at *
  have hsub : ∀ p ∈ news, p ∈ tl := fun p hp => htl ▸ List.mem_append.mpr (.inr hp)
  iterate 110 (all_goals (try walk1))
  all_goals first
    | (with_reducible show E _ _
       with_reducible rename Heap.UpToSlots _ _ => U'
       with_reducible refine hE _ _ _ _ ?n0 ?F9 ?R9 U'
       case F9 => with_reducible assumption
       case R9 =>
         with_reducible refine raised_sub (keep := tl) ?_ hsub
         first
         | (with_reducible rename RaisedN base (envX cn cs L a ccd cl :: outer) _ _ _ _ => R'
            with_reducible refine raised_tl R' ?k1 ?k2
            (case k1 => (first | with_reducible assumption | (intro p hp; with_reducible refine ne_mem (by with_reducible assumption) ?_; repeat (first | with_reducible exact hp | with_reducible refine List.mem_cons_of_mem _ ?_)))); (case k2 => (intro p hp; repeat (first | with_reducible exact hp | with_reducible refine List.mem_cons_of_mem _ ?_))))
         | (rename_i R'
            with_reducible refine R' tl ?k1 ?k2
            (case k1 => (intro p hp; repeat (first | with_reducible exact hp | with_reducible refine List.mem_cons_of_mem _ ?_))); (case k2 => (first | with_reducible assumption | (intro p hp; with_reducible refine ne_mem (by with_reducible assumption) ?_; repeat (first | with_reducible exact hp | with_reducible refine List.mem_cons_of_mem _ ?_)))))
       clear U'
       case n0 =>
         have p3 : q + 8 ≤ ((k : Int) + 4 + wordOf ns (k : Int).toNat 4).toNat := by first | exact toNat_ge (by assumption) | lia
         refine hset.trans ?_
         first
         | (rw [readRows_more p3 (by lia), readRows_short (by lia)]; rfl)
         | (rw [readRows_stop p3 (by assumption) (by assumption), if_neg (by lia)]; rfl))
    | skip
  · unfold Stop
    with_reducible rename Fr _ _ _ _ => F3
    with_reducible rename News _ _ _ _ => N3
    with_reducible rename (_ < _ ∧ _ < _ ∧ _ < _ ∧ AllLt _ _) => l9
    have p1 : (q : Int) + 16 ≤ (k : Int) + 4 + wordOf ns (k : Int).toNat 4 := by lia
    have p2 : ¬ (wordOf ns q 4 = 0 ∧ wordOf ns (q + 4) 4 = 0) := by lia
    refine cps fun G kG => ?_
    subst htl
    refine kG ?_
    clear kG G
    refine' rs_end F3 N3 ?m1 ?m2 ?m3 ?m4 ?ms ?e1 ?e2 ?e3 ?e4 p1 p2 ?eb ?ez hrr hda hnn hvl od ol ox ?o1 l9.1 l9.2.1 l9.2.2.1
    case o1 => exact (kst_ltOf l9.2.2.2)
    case m1 => k_mem
    case m2 => k_mem
    case m3 => k_mem
    case m4 => k_mem
    case ms => (intro p hp; repeat (first | with_reducible exact hp | with_reducible refine List.mem_cons_of_mem _ ?_))
    case eb => exact rfl
    case ez => exact rfl
    case e1 => first | rfl | lia
    case e2 => exact rfl
    case e3 => exact rfl
    case e4 => (intro y g1 g2; refine (if_neg g1).trans ((if_neg g2).trans ?_); simp only [rsM, if_neg g1, if_neg g2])
  · unfold Stop
    with_reducible rename Fr _ _ _ _ => F3
    with_reducible rename News _ _ _ _ => N3
    with_reducible rename (_ < _ ∧ _ < _ ∧ _ < _ ∧ AllLt _ _) => l9
    have p1 : (q : Int) + 16 ≤ (k : Int) + 4 + wordOf ns (k : Int).toNat 4 := by lia
    have p2 : ¬ (wordOf ns q 4 = 0 ∧ wordOf ns (q + 4) 4 = 0) := by lia
    refine cps fun G kG => ?_
    subst htl
    refine kG ?_
    clear kG G
    refine' rs_end F3 N3 ?m1 ?m2 ?m3 ?m4 ?ms ?e1 ?e2 ?e3 ?e4 p1 p2 ?eb ?ez hrr hda hnn hvl od ol ox ?o1 l9.1 l9.2.1 l9.2.2.1
    case o1 => exact (kst_ltOf l9.2.2.2)
    case m1 => k_mem
    case m2 => k_mem
    case m3 => k_mem
    case m4 => k_mem
    case ms => (intro p hp; repeat (first | with_reducible exact hp | with_reducible refine List.mem_cons_of_mem _ ?_))
    case eb => exact rfl
    case ez => exact rfl
    case e1 => first | rfl | lia
    case e2 => exact rfl
    case e3 => exact rfl
    case e4 => (intro y g1 g2; refine (if_neg g1).trans ((if_neg g2).trans ?_); simp only [rsM, if_neg g1, if_neg g2])
  · rename Fr _ _ _ _ => kF; rename News _ _ _ _ => kN
    with_reducible rename (_ < _ ∧ _ < _ ∧ _ < _ ∧ AllLt _ _) => l9
    have p3 : q + 8 ≤ ((k : Int) + 4 + wordOf ns (k : Int).toNat 4).toNat := by first | exact toNat_ge (by assumption) | lia
    have p1 : q + 8 = ((k : Int) + 4 + wordOf ns (k : Int).toNat 4).toNat := by lia
    have ee : (((k : Int) + 4 + wordOf ns (k : Int).toNat 4).toNat : Int) = (k : Int) + 4 + wordOf ns (k : Int).toNat 4 := by lia
    have hso : readRows ns ((k : Int) + 4 + wordOf ns (k : Int).toNat 4).toNat (wordOf ns ((k : Int) + 4 + 2).toNat 4) q = some [] := by
      rw [readRows_stop p3 (by assumption) (by assumption), if_pos p1]
    refine cps fun G kG => ?_
    subst htl
    refine kG ?_
    clear kG G
    refine' hQ _ _ _ _ _ _ _ _ _ _ _ (hset.trans (by rw [hso, Option.map_some, List.append_nil])) kF ?n9 hda hnn ol ?o1 ?o2
    case n9 => (rw [ee]; exact cb_drop kN (List.forall_mem_cons.mpr ⟨by k_memK, List.forall_mem_cons.mpr ⟨by k_memK, by (intro p hp; repeat (first | with_reducible exact hp | with_reducible refine List.mem_cons_of_mem _ ?_))⟩⟩))
    case o1 => exact fun p hp => Nat.ne_of_lt (kst_ltOf l9.2.2.2 p hp)
    case o2 => exact Nat.ne_of_gt l9.2.1
end
end
end
end
end
end
end
end
end
end
end
end
end
section
local macro_rules | `(tactic| walk_at "exec While Compare") => `(tactic| (k_here; refine Stop.out ?_))
section
local macro_rules | `(tactic| walk_at "exec While BoolOp") => `(tactic| (k_here; refine Stop.out ?_))
section
local macro_rules | `(tactic| walk_at "exec While") => `(tactic| (k_here; refine Stop.out ?_))
section
local macro_rules | `(tactic| walk_at "KswEnd") => `(tactic| refine Stop.out ?_)
section
local macro_rules | `(tactic| walk_at "call ref") => `(tactic| (k_here; (with_reducible show wpAny _ _ (call (Value.ref 268) _) _ _ _); k_dflt (focus (apply read_set_spec; walk_at "cp"; assumption; assumption; lia; lia; lia; walk_at "cs"))))
section
section
variable {w : World} {mean : ExcName → Option Value} {mg mb : Str → Option Value}
    {dp un : Nat} {gd : Option (List Code)} {cn : Str} {cs : Scope} {a : Addr} {ccd : Value} {cl : List (Str × Addr)} {outer : List Env} {A₀ : Around} {base h₀ : Heap} {L : Addr} {m : Str → Option Value} {s : Shared} {Q E : Value → Shared → Prop}
    {news : List (Addr × Obj)} (dm : KdMark)
    (B : Below A₀ base outer h₀) (F : Fr h₀ L s.heap m) (X : (heapK w.params).In h₀)
    (T : Top view (looseW view [Str.ofString "MEMORY_END"]) mean mg mb h₀) (hk : cs.kind = .function)
include dm B F X T hk
theorem read_aranges_spec {bs : Array UInt8} {ns : List Int} {tb : Tok}
    (N : News h₀ L s.heap news) (hbi : KBw.bInts bs = ns) (hby : ∀ y ∈ ns, 0 ≤ y ∧ y < 256) (hz : ns.length < 2 ^ 20)
    (hd : dp + 16 < recursionLimit) (hu : un + 130 < cLine)
    (hQ : ∀ f (vs : List Value) nn rows new h' tk', readAll ns 0 = some rows → Fr h₀ L h' m → News h₀ L h' ((f, listOf vs.toArray nn) :: (new ++ news)) → DatAll new vs (rows.map rowDat) → (∀ p ∈ new, ∀ q ∈ news, p.1 ≠ q.1) → (∀ p ∈ new ++ news, p.1 ≠ f) → vs.length ≤ ns.length → Q (.ref f) { s with heap := h', toks := tk' })
    (hE : ∀ e g₂ h' tk', readAll ns 0 = none → Fr h₀ L g₂ m → RaisedN base (envX cn cs L a ccd cl :: outer) e (.ref 58) news h' → g₂.UpToSlots h' → E (.ref e) { s with heap := h', toks := tk' }) :
    wpAny (model PySem.Challenge.rw_og0206_01.row.prog w) (ktrTop dp un gd cn cs L a ccd cl outer) (call (.ref 275) [.bytes bs tb]) Q E s := by
  refine wpAny_call ?_
  walk_at "myenter"
  walk_at "ks"
  unfold Stop
  rename Fr _ _ _ _ => F1
  rename News _ _ _ _ => N1
  rename ∀ p ∈ news, p.1 < _ => l1
  refine While_inv2 (RaE ns news (.bytes bs tb)) (n₀ := ns.length) F1 (cb_drop N1 ?sub) (RaE.mk (k := 0) (vs := []) (nn := 0) (rows := []) (nw := []) ⟨rfl, Nat.zero_le _, ?_, .nil, (fun p hp => nomatch hp), (fun p hp => Nat.ne_of_lt (l1 p hp)), rfl, Nat.le_refl _, _, raM_cut rfl rfl rfl⟩) ?turn
  case sub =>
    intro p hp
    rcases List.mem_cons.mp hp with rfl | hp
    · exact .tail _ (.head _)
    · exact .tail _ (.tail _ hp)
  · cases readAll ns 0 <;> rfl
  case turn =>
    intro n m' nx h tk F' N' hJ
    clear F1 N1 l1
    refine cps fun G kG => ?_
    refine RaE.out hJ ?_
    intro fd k vs nn rows nw J
    obtain rfl := J.led
    have hkl := J.kle
    have hfew := J.few
    have hF := F'
    obtain ⟨t, hlo⟩ := J.loc
    refine kG ?_
    clear kG G
    rw [← hlo] at hF
    unfold raM at hF
    clear F'
    have hoff := J.off
    generalize htl : nw ++ news = tl at N' hoff
    try k_unmd
    try walk_at "fo"
    walk_at "ks"
    · rename Fr _ _ _ _ => F5
      rename News _ _ _ _ => N5
      rename readSet _ _ = some _ => hrs
      rename DatAll _ _ (List.map rowDat _) => hda5
      rename ∀ p : Addr × Obj, p ∈ (_ : List (Addr × Obj)) → ∀ q : Addr × Obj, q ∈ (fd, listOf vs.toArray nn) :: tl → p.1 ≠ q.1 => hap5
      rename ∀ p : Addr × Obj, p ∈ (_ : List (Addr × Obj)) ++ (fd, listOf vs.toArray nn) :: tl → p.1 ≠ (_ : Addr) => hor5
      clear hor5
      rename ∀ p : Addr × Obj, p ∈ (_ : List (Addr × Obj)) ++ (fd, listOf vs.toArray nn) :: tl → p.1 ≠ (_ : Addr) => hof5
      have N6 := cb_drop N5 led_ra
      clear N5
      have hkn : k < ns.length := by lia
      rw [Int.toNat_natCast] at hrs
      have hgt := readSet_gt hrs
      have hfw := readSet_few hrs
      have hlv := datAll_len' hda5
      rw [List.length_map] at hlv
      have hall : ∀ {of : Obj}, ∀ p ∈ (_, of) :: (_ ++ tl), p.1 ≠ fd := fun {of} => off_ra hof5 hap5 hoff
      walk_at "ks"
      rename Fr _ _ _ _ => F6
      rename News _ _ _ _ => N7
      k_dflt (refine' extend_any F6 N7 (.head _) (hall (of := _)) ?hz ?_)
      case hz => lia
      intro h8 n8 F8 N8
      dsimp only
      walk_at "ks"
      rename Fr _ _ _ _ => F9
      rename News _ _ _ _ => N9
      refine cps fun G kG => ?_
      subst htl
      refine kG ?_
      clear kG G
      refine' wh2_mk F9 (cb_drop N9 led_ra2) ?lt (RaE.mk (fd := fd) ?J)
      case J =>
        refine (J.next hrs hkn hda5 hap5 ?hm).2
        exact ⟨_, raM_cut rfl rfl (if_pos rfl)⟩
      case lt =>
        exact meas_lt J.meas hkn (readSet_gt hrs).1
    · with_reducible rename Heap.UpToSlots _ _ => U'
      with_reducible refine hE _ _ _ _ ?n0 ?F9 ?R9 U'
      case F9 => with_reducible assumption
      case R9 =>
        with_reducible rename RaisedN base (envX cn cs L a ccd cl :: outer) _ _ _ _ => R'
        refine cps fun G kG => ?_
        subst htl
        refine kG ?_
        clear kG G
        exact raised_sub R' (fun p hp => .tail _ (List.mem_append_right _ hp))
      case n0 =>
        rename readSet _ _ = none => hno
        rw [Int.toNat_natCast] at hno
        rw [J.all, readAll_none (by lia) hno]
        rfl
    · rename Fr _ _ _ _ => kF; rename News _ _ _ _ => kN
      refine cps fun G kG => ?_
      subst htl
      refine kG ?_
      clear kG G
      have hend : ¬ k < ns.length := by lia
      refine hQ fd vs nn rows nw _ _ ?_ kF kN J.dat J.apart hoff (by lia)
      rw [J.all, readAll_end hend]
      simp
end
end
end
end
end
end
end
end
end
section
local macro_rules | `(tactic| walk_at "call ref") => `(tactic| (k_here; (with_reducible show wpAny _ _ (call (Value.ref 275) [Value.bytes _ _]) _ _ _); refine Stop.out ?_))
section
section
variable {w : World} {mean : ExcName → Option Value} {mg mb : Str → Option Value}
    {dp un : Nat} {gd : Option (List Code)} {cn : Str} {cs : Scope} {a : Addr} {ccd : Value} {cl : List (Str × Addr)} {outer : List Env} {A₀ : Around} {base h₀ : Heap} {L : Addr} {m : Str → Option Value} {s : Shared} {Q E : Value → Shared → Prop}
    {news : List (Addr × Obj)} (dm : KdMark)
    (B : Below A₀ base outer h₀) (F : Fr h₀ L s.heap m) (X : (heapK w.params).In h₀)
    (T : Top view (looseW view [Str.ofString "MEMORY_END"]) mean mg mb h₀) (hk : cs.kind = .function)
include dm B F X T hk
theorem law_seen_spec {l : Addr} {vs : List Value} {ns : List Int} {nn : Nat} (hbe : base = h₀) (hou : outer = [])
    (N : News h₀ L s.heap news) (hl : (l, listOf vs.toArray nn) ∈ news) (hi : IntsAre vs ns) (hby : ∀ y ∈ ns, 0 ≤ y ∧ y < 256) (hz : ns.length < 2 ^ 20)
    (hd : dp + 20 < recursionLimit) (hu : un + 160 < cLine)
    (hQ1 : ∀ f (ws : List Value) n' rows new h' tk', readAll ns 0 = some rows → Fr h₀ L h' m → News h₀ L h' ((f, listOf ws.toArray n') :: (new ++ news)) → DatAll new ws (rows.map rowDat) → (∀ p ∈ new, ∀ q ∈ news, p.1 ≠ q.1) → (∀ p ∈ new ++ news, p.1 ≠ f) → ws.length ≤ ns.length → Q (.ref f) { s with heap := h', toks := tk' })
    (hQ2 : ∀ h' tk', readAll ns 0 = none → Fr h₀ L h' m → News h₀ L h' news → Q .none { s with heap := h', toks := tk' }) :
    wpAny (model PySem.Challenge.rw_og0206_01.row.prog w) (ktrTop dp un gd cn cs L a ccd cl outer) (call (.ref 362) [.ref l]) Q E s := by
  refine cps fun G kG => ?_
  subst hbe hou
  refine kG ?_
  clear kG G
  refine wpAny_call ?_
  k_dflt (refine' code_defR ?k1 ?k2 ?k3 ?k4 ?k5 ?kA ?kF ?kK ?k6 ?k7 ?k8 ?k9 ?kB ?_ ?c2 ?c3 ?c4 ?c5; (case kA => exact rfl); (case kF => exact rfl); (case kK => first | exact rfl | assumption); (case k1 => k_asm); (case k2 => k_asm); (case k3 => k_asm); (case k4 => k_asm); (case k5 => k_asm); (case k6 => k_is); (case k7 => k_is); (case k8 => ktr_room); (case k9 => first | exact bt (l := [(_, _)]) rfl | exact bt (l := [(_, _), (_, _)]) rfl | exact bt (l := [(_, _), (_, _), (_, _)]) rfl | exact BindsTo.of_eq rfl); (case c5 => decide); (case kB => exact locs rfl); (case c2 => exact rfl); (case c3 => exact rfl); (case c4 => exact rfl); k_whole)
  intro g L1 h1 FG st F1 N1 B1 X1 T1
  dsimp only
  walk_at "fo"
  walk_at "ks"
  unfold Stop
  k_dflt (refine' read_aranges_spec (base := hideAll g _) ?dm (below_hide B1) ?F X1 T1 ?hk ?N ?hbi hby hz ?hd ?hu ?hQ ?hE; (case F => k_asm); (case N => k_asm); (case dm => assumption); (case hk => exact rfl); (case hd => ktr_room); (case hu => ktr_units); k_whole)
  case hbi => exact KBa.ints_make hby
  case hQ =>
    generalize (fun (y : Str) => List.lookup y _) = mm
    intro f ws n' rows new h' tk' hr F2 N2 hda hap hof hle
    walk_at "ks"
    exact hQ1 f ws n' rows new h' tk' hr (fr_ground FG st F2) (news_ground FG st N2) hda hap hof hle
  case hE =>
    generalize (fun (y : Str) => List.lookup y _) = mm
    intro e g2 h' tk' hn F2 R U
    have st1 := hide_base B1
    k_dflt (refine' caught_own (C := 58) (KF := heapK w.params) ?hst (fr_hide F2) U R (X.keeps st1) (topRead_of (T.keeps st1)) ?ex ?q ?k; (case hst => exact rfl); (case ex => k_is); (case q => exact k58 _); k_whole)
    intro h2 F3 hin U2
    walk_at "ks"
    show Q Value.none _
    refine hQ2 h2 _ hn ⟨((Heap.UpToSlots.of_keeps F2.keep).trans U2).ns FG.ns, fun b o e => F3.keep b o (st1 b o e), FG.above⟩ fun q hq => ⟨hin q hq, (N q hq).2⟩
end
end
end
end
end
end
section
local macro_rules | `(tactic| walk_at "TurnA") => `(tactic| refine Stop.out ?_)
section
local macro_rules | `(tactic| walk_at "call ref") => `(tactic| (k_here; (with_reducible show wpAny _ _ (call (Value.ref _) _) _ _ _); refine Stop.out ?_))
section
local macro_rules | `(tactic| walk_at "pyIter ref") => `(tactic| (k_here; (with_reducible show wpAny _ _ (pyIter (Value.ref _)) (fun it s₂ => TurnsAt _ _ _ _ _ _ _ _ _ it s₂) _ _); refine Stop.out ?_))
section
noncomputable def l4M (v0 v1 v2 : Value) (m₂ : Str → Option Value) : Str → Option Value :=
  fun z => if z = Str.ofString "rows" then some v0 else if z = Str.ofString "octets" then some v1 else if z = Str.ofString "cells_at" then some v2 else m₂ z
theorem l4M_cut {v0 v1 v2 : Value} {m : Str → Option Value} (h0 : m (Str.ofString "rows") = some v0) (h1 : m (Str.ofString "octets") = some v1) (h2 : m (Str.ofString "cells_at") = some v2) : l4M v0 v1 v2 m = m := by
  funext z
  simp only [l4M]
  split
  · rename_i e; rw [e, h0]
  split
  · rename_i e; rw [e, h1]
  split
  · rename_i e; rw [e, h2]
  · rfl
noncomputable def l4aM (v0 v1 v2 v3 v4 v5 : Value) (m₂ : Str → Option Value) : Str → Option Value :=
  fun z => if z = Str.ofString "low" then some v0 else if z = Str.ofString "size" then some v1 else if z = Str.ofString "unit" then some v2 else if z = Str.ofString "rows" then some v3 else if z = Str.ofString "octets" then some v4 else if z = Str.ofString "cells_at" then some v5 else m₂ z
theorem l4aM_cut {v0 v1 v2 v3 v4 v5 : Value} {m : Str → Option Value} (h0 : m (Str.ofString "low") = some v0) (h1 : m (Str.ofString "size") = some v1) (h2 : m (Str.ofString "unit") = some v2) (h3 : m (Str.ofString "rows") = some v3) (h4 : m (Str.ofString "octets") = some v4) (h5 : m (Str.ofString "cells_at") = some v5) : l4aM v0 v1 v2 v3 v4 v5 m = m := by
  funext z
  simp only [l4aM]
  split
  · rename_i e; rw [e, h0]
  split
  · rename_i e; rw [e, h1]
  split
  · rename_i e; rw [e, h2]
  split
  · rename_i e; rw [e, h3]
  split
  · rename_i e; rw [e, h4]
  split
  · rename_i e; rw [e, h5]
  · rfl
noncomputable def l4bM (v0 v1 : Value) (m₂ : Str → Option Value) : Str → Option Value :=
  fun z => if z = Str.ofString "bent" then some v0 else if z = Str.ofString "cells_at" then some v1 else m₂ z
theorem l4bM_cut {v0 v1 : Value} {m : Str → Option Value} (h0 : m (Str.ofString "bent") = some v0) (h1 : m (Str.ofString "cells_at") = some v1) : l4bM v0 v1 m = m := by
  funext z
  simp only [l4bM]
  split
  · rename_i e; rw [e, h0]
  split
  · rename_i e; rw [e, h1]
  · rfl
structure BJ (x nl ca : Addr) (tl : List (Addr × Obj)) (i : Int) (k : Nat) (m' : Str → Option Value) (nx : List (Addr × Obj)) (b : Addr) (bv : List Value) (bn : Nat) (bs : List Int) (nx0 : List (Addr × Obj)) (i' : Int) (ta : Tok) (e' : Int) (te : Tok) (n' : Nat) : Prop where
  led : nx = (x, listOf #[.ref nl, .int i' ta, .int e' te] n') :: nx0
  ival : i' = i + k
  mem : (b, listOf bv.toArray bn) ∈ nx0
  oct : IntsAre bv bs
  byte : ∀ y ∈ bs, 0 ≤ y ∧ y < 256
  len : bs.length ≤ 400 + 20 * k
  sub : ∀ p ∈ tl, p ∈ nx0
  off : ∀ p ∈ nx0, p.1 ≠ x
  e0 : 0 ≤ e'
  e1 : e' < 65537
  loc : l4bM (.ref b) (.ref ca) m' = m'
noncomputable def BE (x : Addr) (nl : Addr) (ca : Addr) (tl : List (Addr × Obj)) (i : Int) (k : Nat) (m' : Str → Option Value) (nx : List (Addr × Obj)) : Prop := ∃ b bv bn bs nx0 i' ta e' te n', BJ x nl ca tl i k m' nx b bv bn bs nx0 i' ta e' te n'
theorem BE.mk {x : Addr} {nl : Addr} {ca : Addr} {tl : List (Addr × Obj)} {i : Int} {k : Nat} {m' : Str → Option Value} {nx : List (Addr × Obj)} {b : Addr} {bv : List Value} {bn : Nat} {bs : List Int} {nx0 : List (Addr × Obj)} {i' : Int} {ta : Tok} {e' : Int} {te : Tok} {n' : Nat} (J : BJ x nl ca tl i k m' nx b bv bn bs nx0 i' ta e' te n') : BE x nl ca tl i k m' nx := ⟨_, _, _, _, _, _, _, _, _, _, J⟩
theorem BE.out {x : Addr} {nl : Addr} {ca : Addr} {tl : List (Addr × Obj)} {i : Int} {k : Nat} {m' : Str → Option Value} {nx : List (Addr × Obj)} {gG : Prop} (hh : BE x nl ca tl i k m' nx) (kk : ∀ b bv bn bs nx0 i' ta e' te n', BJ x nl ca tl i k m' nx b bv bn bs nx0 i' ta e' te n' → gG) : gG := by
  obtain ⟨b, bv, bn, bs, nx0, i', ta, e', te, n', J⟩ := hh
  exact kk b bv bn bs nx0 i' ta e' te n' J
theorem rowDat_ok {rows : List Row} : ∀ d ∈ rows.map rowDat, kqdOk 8 d = true := by
  intro d hd
  obtain ⟨r, _, rfl⟩ := List.mem_map.mp hd
  rfl
theorem lb_l4 {α : Type} {I x : α} {new nx0 : List α} : ∀ p ∈ I :: x :: (new ++ nx0), p ∈ x :: (new ++ I :: nx0) :=
  SegT.sub (segs := [[I], [x], new, nx0]) (.a (.l 0) (.a (.l 1) (.a (.l 2) (.l 3)))) (.a (.l 1) (.a (.l 2) (.a (.l 0) (.l 3)))) rfl
theorem lb_l4n {α : Type} {r b : α} {new nx0 : List α} (hb : b ∈ nx0) (h : r ∈ new ++ [b]) : r ∈ new ++ nx0 :=
  (List.mem_append.mp h).elim (fun q => List.mem_append_left _ q) fun q => List.mem_append_right _ (List.mem_singleton.mp q ▸ hb)
theorem lb_l4m {α : Type} {r b p0 : α} {new nx0 : List α} (hb : b ∈ nx0) (h : r ∈ new ++ [b]) : r ∈ new ++ p0 :: nx0 := lb_l4n (.tail _ hb) h
theorem lb_l4o {I x : Addr} {o ox ox' : Obj} {new nx0 : List (Addr × Obj)} (h : ∀ p ∈ (x, ox) :: nx0, p.1 ≠ I) (hn : ∀ p ∈ new, p.1 ≠ x ∧ ∀ q ∈ (I, o) :: nx0, p.1 ≠ q.1) : ∀ p ∈ (x, ox') :: (new ++ nx0), p.1 ≠ I := by
  intro p hp
  rcases List.mem_cons.mp hp with rfl | hp
  · exact h (x, ox) (.head _)
  rcases List.mem_append.mp hp with hp | hp
  · exact (hn p hp).2 (I, o) (.head _)
  · exact h p (.tail _ hp)
theorem lb_l4x {x : Addr} {p0 : Addr × Obj} {new nx0 : List (Addr × Obj)} (hn : ∀ p ∈ new, p.1 ≠ x ∧ ∀ q ∈ p0 :: nx0, p.1 ≠ q.1) (h : ∀ p ∈ nx0, p.1 ≠ x) : ∀ p ∈ new ++ nx0, p.1 ≠ x := fun p hp => (List.mem_append.mp hp).elim (fun q => (hn p q).1) (h p)
section
variable {w : World} {mean : ExcName → Option Value} {mg mb : Str → Option Value}
    {dp un : Nat} {gd : Option (List Code)} {A₀ : Around} {h₀ : Heap} {L : Addr} {m : Str → Option Value} {s : Shared} {R : Result → Shared → Prop}
    {Q : Flow → Shared → Prop} {oc : Value} {od : Option Addr} {name qual : Str} {params : Arguments} {body : List Stmt} {scope : Scope} {dV kV doc pm cdv ct : Value} {an : Option Addr} {osl : Array (Option Value)}
    (dm : KdMark)
    (B : Below A₀ h₀ [] h₀) (F : Fr h₀ L s.heap m) (X : (heapK w.params).In h₀)
    (T : Top view (looseW view [Str.ofString "MEMORY_END"]) mean mg mb h₀)
    (ho : (heapK w.params).lookup 372 = some ⟨oc, od, .func (fnOf name qual params body scope dV kV doc pm an cdv ct), osl⟩)
include dm B F X T ho
theorem law_segD {x nl rl ol ca : Addr} {cobj : Obj} {nn n0 nr n1 n2 : Nat} {vs rv ov cv : List Value} {ns os : List Int} {rows : List Row} {cells : List (Int × Int)} {i e : Int} {t1 t2 : Tok} {tl : List (Addr × Obj)}
    (hm1 : m (Str.ofString "rows") = some (.ref rl)) (hm2 : m (Str.ofString "octets") = some (.ref ol)) (hm3 : m (Str.ofString "cells_at") = some (.ref ca))
    (N : News h₀ L s.heap ((x, listOf #[.ref nl, .int i t1, .int e t2] nn) :: tl)) (off : ∀ p ∈ tl, p.1 ≠ x)
    (hcw : (L + 1, cobj) ∈ tl) (hco : cobj.data = .cell (some (.ref x)))
    (hl : (nl, listOf vs.toArray n0) ∈ tl) (hi : IntsAre vs ns) (h2 : ns.length < 2 ^ 20)
    (hr : (rl, listOf rv.toArray nr) ∈ tl) (hrd : DatAll tl rv (rows.map rowDat)) (hrn : rows.length ≤ 5) (hrb : ∀ r ∈ rows, -8589934592 < r.1 ∧ r.1 < 8589934592 ∧ -8589934592 < r.2.1 ∧ r.2.1 < 8589934592)
    (hoo : (ol, listOf ov.toArray n1) ∈ tl) (hoi : IntsAre ov os) (hby : ∀ y ∈ os, 0 ≤ y ∧ y < 256) (hol : os.length ≤ 400)
    (hc : (ca, listOf cv.toArray n2) ∈ tl) (hcd : DatAll tl cv (cells.map pairDat)) (hcg : ∀ c ∈ cells, goodCell c) (hcl : cells.length ≤ 500)
    (h0 : 0 ≤ i) (h1 : i < 100) (h3 : 0 ≤ e) (h4 : e < 65537)
    (hd : dp + 40 < recursionLimit) (hu : un + 400 < cLine)
    (hQ : ∀ h' tk' m', Fr h₀ L h' m' → Q (.ret (.bool true)) { s with heap := h', toks := tk' }) :
    wpAny (model PySem.Challenge.rw_og0206_01.row.prog w) (ktrTop dp un gd qual scope L 372 cdv (cellsFrom (L + 1) scope.names []) []) (execs (body.drop 10) (envOfC qual scope L 372 cdv)) Q (fun e s' => wpAny (model PySem.Challenge.rw_og0206_01.row.prog w) (ktrTop dp un gd qual scope L 372 cdv (cellsFrom (L + 1) scope.names []) []) (leaving (envOfC qual scope L 372 cdv) e) (fun _ s'' => R (.error e) s'') (fun e' s'' => R (.error e') s'') s') s := by
  refine' seg_lit (G := fun body scope qual cdv => wpAny (model PySem.Challenge.rw_og0206_01.row.prog w) (ktrTop dp un gd qual scope L 372 cdv (cellsFrom (L + 1) scope.names []) []) (execs (body.drop 10) (envOfC qual scope L 372 cdv)) Q (fun e s' => wpAny (model PySem.Challenge.rw_og0206_01.row.prog w) (ktrTop dp un gd qual scope L 372 cdv (cellsFrom (L + 1) scope.names []) []) (leaving (envOfC qual scope L 372 cdv) e) (fun _ s'' => R (.error e) s'') (fun e' s'' => R (.error e') s'') s') s) ho ?ze ?_
  case ze => k_is
  clear ho
  simp only [List.drop]
  have hcut := l4M_cut hm1 hm2 hm3
  rw [← hcut] at F
  unfold l4M at F
  walk_at "ks"
  unfold Stop
  rename Fr _ _ _ _ => F1
  rename News _ _ _ _ => N1
  refine iterListA (nn := nr) (vs := rv) (fun k m' nx => nx = (x, listOf #[.ref nl, .int i t1, .int e t2] nn) :: tl ∧ l4M (.ref rl) (.ref ol) (.ref ca) m' = m') rfl F1 N1 (.tail _ hr) rfl rfl ⟨rfl, l4M_cut rfl rfl rfl⟩ (fun k m nx h => by rw [h.1]; exact .tail _ hr) ?zturn ?zfin
  case zturn =>
    clear F1 N1
    intro I k v m1 nx h1' tk1 o hv hJ offI F1 N1
    refine cps fun G kG => ?_
    obtain ⟨rfl, hlo⟩ := hJ
    obtain ⟨r, T, nT, tb, tz, tu, hrk, rfl, hT⟩ := row_get hrd hv
    refine kG ?_
    clear kG G
    have hb9 := hrb r (List.mem_of_getElem? hrk)
    rw [← hlo] at F1
    unfold l4M at F1
    try k_unmd
    try walk_at "fo"
    walk_at "ks"
    unfold Stop
    rename Fr _ _ _ _ => F2
    rename News _ _ _ _ => N2
    refine iterListA (nn := 0) (vs := [_, _, _, _, _, _]) (fun k m' nx => nx = _ :: (I, o) :: (x, listOf #[.ref nl, .int i t1, .int e t2] nn) :: tl ∧ l4M (.ref rl) (.ref ol) (.ref ca) m' = m') rfl F2 N2 (.head _) rfl rfl ⟨rfl, l4M_cut rfl rfl rfl⟩ (fun k m nx h => by rw [h.1]; exact .head _) ?zturn2 ?zfin2
    case zturn2 =>
      intro I2 k2 v2 m2 nx2 h2' tk2 o2 hv2 hJ2 offI2 F3 N3
      refine cps fun G kG => ?_
      obtain ⟨rfl, hlo2⟩ := hJ2
      obtain ⟨z, tz2, -, rfl⟩ := ints_get (.cons _ _ (.cons _ _ (.cons _ _ (.cons _ _ (.cons _ _ (.cons _ _ .nil)))))) hv2
      refine kG ?_
      clear kG G
      clear hv2 F2 N2
      rw [← hlo2] at F3
      unfold l4M at F3
      try k_unmd
      try walk_at "fo"
      walk_at "ks"
      unfold Stop
      rename Fr _ _ _ _ => F4
      rename News _ _ _ _ => N4
      k_dflt (refine' unit_at_spec ?zdm ?zB ?zF ?zX ?zT ?zhk N4 (.tail _ (.tail _ (.tail _ (.tail _ hr)))) (hrd.mono fun p hp => .tail _ (.tail _ (.tail _ (.tail _ hp)))) ?zhd ?zhu ?_; (case zdm => first | assumption | exact kdMark); (case zB => k_asm); (case zF => k_asm); (case zX => k_asm); (case zT => k_asm); (case zhk => exact rfl); (case zhd => ktr_room); (case zhu => ktr_units))
      clear F4 N4
      intro t4 h4' tk4 F4 N4
      walk_at "ks"
      unfold Stop
      rename Fr _ _ _ _ => F5
      rename News _ _ _ _ => N5
      k_dflt (refine' law_unit_spec ?zdm ?zB ?zF ?zX ?zT ?zhk N5 (.tail _ (.tail _ (.tail _ (.tail _ hr)))) (hrd.mono fun p hp => .tail _ (.tail _ (.tail _ (.tail _ hp)))) (by lia) ?zhd ?zhu ?_; (case zdm => first | assumption | exact kdMark); (case zB => k_asm); (case zF => k_asm); (case zX => k_asm); (case zT => k_asm); (case zhk => exact rfl); (case zhd => ktr_room); (case zhu => ktr_units))
      clear F5 N5
      intro t5 h5' tk5 F5 N5
      generalize unitAt rows z = uo
      cases uo
      · unfold optI
        walk_at "ks"
        unfold Stop
        rename Fr _ _ _ _ => F6
        rename News _ _ _ _ => N6
        exact turnA_next F6 N6 (fun p hp => hp) offI2 ⟨rfl, l4M_cut rfl rfl rfl⟩
      · unfold optI
        walk_at "ks"
        · rename _ ≠ _ => hne9
          exact absurd rfl hne9
        · unfold Stop
          rename Fr _ _ _ _ => F6
          rename News _ _ _ _ => N6
          exact turnA_next F6 N6 (fun p hp => hp) offI2 ⟨rfl, l4M_cut rfl rfl rfl⟩
    case zfin2 =>
      clear F2 N2
      intro h2' tk2 m2 nx2 hJ2 F3 N3
      refine cps fun G kG => ?_
      obtain ⟨rfl, hlo2⟩ := hJ2
      refine kG ?_
      clear kG G
      rw [← hlo2] at F3
      unfold l4M at F3
      try dsimp only
      walk_at "ks"
      unfold Stop
      rename Fr _ _ _ _ => F4
      rename News _ _ _ _ => N4
      exact turnA_next F4 N4 (fun p hp => .tail _ hp) offI ⟨rfl, l4M_cut rfl rfl rfl⟩
  case zfin =>
    clear F1 N1
    intro h1' tk1 m1 nx hJ F1 N1
    refine cps fun G kG => ?_
    obtain ⟨rfl, hlo⟩ := hJ
    refine kG ?_
    clear kG G
    rw [← hlo] at F1
    unfold l4M at F1
    try dsimp only
    walk_at "ks"
    unfold Stop
    rename Fr _ _ _ _ => F2
    rename News _ _ _ _ => N2
    rename IsRange _ _ _ _ _ _ _ _ => hrg
    refine iterRangeA (n := 3) (BE x nl ca tl i) rfl hrg (small_one (by lia) (by lia) (by lia) (by lia)) (rng1 (by lia)) F2 N2 (BE.mk ⟨rfl, by lia, hoo, hoi, hby, by lia, (fun p hp => hp), off, h3, h4, l4bM_cut rfl rfl⟩) ?zturn3 ?zfin3
    case zturn3 =>
      clear F2 N2 hrg
      intro I k t3 m3 nx3 h3' tk3 o hk3 hJ3 offI F3 N3
      refine cps fun G kG => ?_
      refine BE.out hJ3 ?_
      intro b bv bn bs nx0 i' ta e' te n' J
      obtain rfl := J.led
      refine kG ?_
      clear kG G
      have hF := F3
      rw [← J.loc] at hF
      unfold l4bM at hF
      clear F3
      have hcw0 := J.sub _ hcw
      try k_unmd
      try walk_at "fo"
      walk_at "ks"
      unfold Stop
      rename Fr _ _ _ _ => F4
      rename News _ _ _ _ => N4
      have hlen9 := J.len
      have hiv := J.ival
      have he0 := J.e0
      have he1 := J.e1
      have offx : ∀ p ∈ (I, o) :: nx0, p.1 ≠ x := List.forall_mem_cons.mpr ⟨Ne.symm (offI _ (.head _)), J.off⟩
      k_dflt (refine' law_bent_spec ?zdm ?zB ?zF ?zX ?zT ?zhk (news_swap N4) offx (.tail _ (J.sub _ hl)) hi (.tail _ J.mem) J.oct J.byte (by lia) (.tail _ (J.sub _ hc)) (hcd.mono fun p hp => .tail _ (J.sub p hp)) hcg hcl (by lia) (by lia) h2 he0 he1 ?zhd ?zhu ?_; (case zdm => first | assumption | exact kdMark); (case zB => k_asm); (case zF => k_asm); (case zX => k_asm); (case zT => k_asm); (case zhk => exact rfl); (case zhd => ktr_room); (case zhu => ktr_units))
      clear F4 N4
      intro r rv rn os' new0 e2 ta2 te2 n2' h5 tk5 hmem hnew hI hby5 hlen5 he2 he3 F4 N4
      have hmem2 := lb_l4m (p0 := (I, o)) J.mem hmem
      have hmem1 := lb_l4n J.mem hmem
      walk_at "ks"
      unfold Stop
      rename Fr _ _ _ _ => F5
      rename News _ _ _ _ => N5
      k_dflt (refine' law_seen_spec ?zdm ?zB ?zF ?zX ?zT ?zhk rfl rfl N5 (.tail _ hmem2) hI hby5 (by lia) ?zhd ?zhu ?zq1 ?_; (case zdm => first | assumption | exact kdMark); (case zB => k_asm); (case zF => k_asm); (case zX => k_asm); (case zT => k_asm); (case zhk => exact rfl); (case zhd => ktr_room); (case zhu => ktr_units))
      case zq1 =>
        clear F5 N5
        intro f1 ws1 nf1 rws1 new1 h6 tk6 hra1 F6 N6 hda1 hap1 hof1 hwl1
        walk_at "ks"
        unfold Stop
        rename Fr _ _ _ _ => F7
        rename News _ _ _ _ => N7
        k_dflt (refine' law_read_spec ?zdm ?zB ?zF ?zX ?zT ?zhk N7 (.tail _ (List.mem_append_right _ (.tail _ hmem2))) hI hby5 (by lia) ?zhd ?zhu ?zq2 ?_; (case zdm => first | assumption | exact kdMark); (case zB => k_asm); (case zF => k_asm); (case zX => k_asm); (case zT => k_asm); (case zhk => exact rfl); (case zhd => ktr_room); (case zhu => ktr_units))
        case zq2 =>
          clear F7 N7
          intro f2 ws2 nf2 rws2 new2 h8 tk8 hra2 F8 N8 hda2 hap2 hof2 hwl2
          refine cps fun G kG => ?_
          obtain rfl : rws1 = rws2 := Option.some.inj (hra1.symm.trans hra2)
          refine kG ?_
          clear kG G
          refine kqd_ne N8 (.tail _ (List.mem_append_right _ (.head _))) rfl rfl hda1 (fun p hp => .tail _ (List.mem_append_right _ (.tail _ (List.mem_append_left _ hp)))) (.head _) rfl rfl hda2 (fun p hp => .tail _ (List.mem_append_left _ hp)) rowDat_ok rowDat_ok (by ke_room) ?_
          simp only [eq_self, decide_true, Bool.not_true]
          walk_at "ks"
          unfold Stop
          rename Fr _ _ _ _ => F9
          rename News _ _ _ _ => N9
          refine turnA_next F9 N9 (fun p hp => .tail _ (List.mem_append_right _ (.tail _ (List.mem_append_right _ (lb_l4 p hp))))) (lb_l4o offI hnew) (BE.mk (b := r) (bv := rv) (bn := rn) (bs := os') (nx0 := new0 ++ nx0) ⟨rfl, by lia, hmem1, hI, hby5, by lia, (fun p hp => List.mem_append_right _ (J.sub p hp)), lb_l4x hnew J.off, he2, he3, l4bM_cut rfl rfl⟩)
        intro h8 tk8 hra2 F8 N8
        rw [hra1] at hra2
        cases hra2
      clear F5 N5
      intro h6 tk6 hra1 F6 N6
      walk_at "ks"
      unfold Stop
      rename Fr _ _ _ _ => F7
      rename News _ _ _ _ => N7
      k_dflt (refine' law_read_spec ?zdm ?zB ?zF ?zX ?zT ?zhk N7 (.tail _ hmem2) hI hby5 (by lia) ?zhd ?zhu ?zq2 ?_; (case zdm => first | assumption | exact kdMark); (case zB => k_asm); (case zF => k_asm); (case zX => k_asm); (case zT => k_asm); (case zhk => exact rfl); (case zhd => ktr_room); (case zhu => ktr_units))
      case zq2 =>
        intro f2 ws2 nf2 rws2 new2 h8 tk8 hra2 F8 N8 hda2 hap2 hof2 hwl2
        rw [hra1] at hra2
        cases hra2
      clear F7 N7
      intro h8 tk8 hra2 F8 N8
      walk_at "ks"
      unfold Stop
      rename Fr _ _ _ _ => F9
      rename News _ _ _ _ => N9
      refine turnA_next F9 N9 lb_l4 (lb_l4o offI hnew) (BE.mk (b := r) (bv := rv) (bn := rn) (bs := os') (nx0 := new0 ++ nx0) ⟨rfl, by lia, hmem1, hI, hby5, by lia, (fun p hp => List.mem_append_right _ (J.sub p hp)), lb_l4x hnew J.off, he2, he3, l4bM_cut rfl rfl⟩)
    case zfin3 =>
      clear F2 N2 hrg
      intro h3' tk3 m3 nx3 hJ3 F3 N3
      try dsimp only
      walk_at "ks"
      exact hQ _ _ _ F3
end
end
section
local macro_rules | `(tactic| walk_at "pyIter ref") => `(tactic| (k_here; (with_reducible show wpAny _ _ (pyIter (Value.ref _)) (fun it s₂ => CompIt _ _ _ _ _ _ _ _ _ _ _ _ _ it s₂) _ _); refine Stop.out ?_))
section
local macro_rules | `(tactic| walk_at "eval ListComp") => `(tactic| (k_here; k_dflt (refine ListComp_G (F₀ := by k_asm) (by with_unfolding_all rfl) (by decide) (by rfl) (by decide) ?_)))
section
local macro_rules | `(tactic| walk_at "exec Assign cons ListComp") => `(tactic| (k_here; k_dflt (refine Assign_ListComp_G (F₀ := by k_asm) (by rfl) (by with_unfolding_all rfl) (by with_unfolding_all rfl) (by decide) (by rfl) (by decide) (by rfl) (by rfl) ?_)))
section
local macro_rules | `(tactic| walk_at "compareOp NotEq ref ref") => `(tactic| (k_here; (with_reducible show wpAny _ _ (compareOp CmpOp.NotEq (Value.ref _) (Value.ref _)) _ _ _); refine Stop.out ?_))
section
local macro_rules | `(tactic| walk_at "execs cons") => `(tactic| (k_here; (with_reducible show wpAny _ _ (execs (Stmt.For (Expr.Tuple _ _ _) (Expr.Name _ _) _ _ _ :: _) _) _ _ _); refine Stop.out ?_))
section
noncomputable def l3M (v0 v1 v2 : Value) (m₂ : Str → Option Value) : Str → Option Value :=
  fun z => if z = Str.ofString "drawn" then some v0 else if z = Str.ofString "rows" then some v1 else if z = Str.ofString "octets" then some v2 else m₂ z
theorem l3M_cut {v0 v1 v2 : Value} {m : Str → Option Value} (h0 : m (Str.ofString "drawn") = some v0) (h1 : m (Str.ofString "rows") = some v1) (h2 : m (Str.ofString "octets") = some v2) : l3M v0 v1 v2 m = m := by
  funext z
  simp only [l3M]
  split
  · rename_i e; rw [e, h0]
  split
  · rename_i e; rw [e, h1]
  split
  · rename_i e; rw [e, h2]
  · rfl
noncomputable def l3aM (v0 v1 v2 v3 v4 : Value) (m₂ : Str → Option Value) : Str → Option Value :=
  fun z => if z = Str.ofString "rows" then some v0 else if z = Str.ofString "octets" then some v1 else if z = Str.ofString "due" then some v2 else if z = Str.ofString "cells_at" then some v3 else if z = Str.ofString "grouped" then some v4 else m₂ z
theorem l3aM_cut {v0 v1 v2 v3 v4 : Value} {m : Str → Option Value} (h0 : m (Str.ofString "rows") = some v0) (h1 : m (Str.ofString "octets") = some v1) (h2 : m (Str.ofString "due") = some v2) (h3 : m (Str.ofString "cells_at") = some v3) (h4 : m (Str.ofString "grouped") = some v4) : l3aM v0 v1 v2 v3 v4 m = m := by
  funext z
  simp only [l3aM]
  split
  · rename_i e; rw [e, h0]
  split
  · rename_i e; rw [e, h1]
  split
  · rename_i e; rw [e, h2]
  split
  · rename_i e; rw [e, h3]
  split
  · rename_i e; rw [e, h4]
  · rfl
noncomputable def drDat (r : Row × Bool) : Dat := .tuple [rowDat r.1, .bool r.2]
theorem dr_get {tl : List (Addr × Obj)} {vs : List Value} {ds : List (Row × Bool)} (hda : DatAll tl vs (ds.map drDat)) {i : Nat} {v : Value} (h : vs[i]? = some v) :
    ∃ r T q n, ds[i]? = some r ∧ v = .ref T ∧ (T, ({ cls := .type "tuple", data := .seq #[.ref q, .bool r.2] n } : Obj)) ∈ tl ∧ DatIn tl (.ref q) (rowDat r.1) := by
  obtain ⟨r, hr, hd⟩ := dat_map hda h
  obtain ⟨T, n, v1, v2, rfl, hm, a1, a2⟩ := inv_two hd
  obtain rfl := inv_bool a2
  obtain ⟨q, ws, k, rfl, -, -⟩ := inv_tuple a1
  exact ⟨r, T, q, n, hr, rfl, hm, a1⟩
noncomputable def bads (ds : List (Row × Bool)) : List Int := (ds.filter fun d => !d.2).map fun _ => 1
theorem bads_snoc {ds : List (Row × Bool)} {i : Nat} {d : Row × Bool} (h : ds[i]? = some d) : bads (ds.take (i + 1)) = if d.2 = true then bads (ds.take i) else bads (ds.take i) ++ [1] := by
  unfold bads
  rw [List.take_succ, h, List.filter_append, List.map_append]
  cases hd : d.2 <;> simp [hd]
theorem bads_len (ds : List (Row × Bool)) (i : Nat) : (bads (ds.take i)).length ≤ i := by
  unfold bads
  rw [List.length_map]
  exact Nat.le_trans (List.length_filter_le _ _) (List.length_take_le _ _)
theorem bads_nil {ds : List (Row × Bool)} : bads ds = [] ↔ ∀ d ∈ ds, d.2 = true := by
  unfold bads
  simp
theorem l3_setup {h₀ h : Heap} {L V d G0 : Addr} {oV od oG : Obj} {nw r : List (Addr × Obj)} (N : News h₀ L h ((V, oV) :: (d, od) :: (nw ++ (G0, oG) :: r))) (hV : AllLt V (nw ++ (G0, oG) :: r)) (hof : ∀ p ∈ nw ++ (G0, oG) :: r, p.1 ≠ d) (hap : ∀ p ∈ nw, ∀ q ∈ (G0, oG) :: r, p.1 ≠ q.1) (hG : AllLt G0 r) :
    ∃ rest, News h₀ L h ((G0, oG) :: rest) ∧ (V, oV) ∈ rest ∧ (d, od) ∈ rest ∧ (∀ p ∈ nw, p ∈ rest) ∧ (∀ p ∈ rest, p.1 ≠ G0) ∧ ∀ p ∈ r, p ∈ rest := by
  refine ⟨(V, oV) :: (d, od) :: (nw ++ r), fun p hp => N p ?_, .head _, .tail _ (.head _), fun p hp => .tail _ (.tail _ (List.mem_append_left _ hp)), ?_, fun p hp => .tail _ (.tail _ (List.mem_append_right _ hp))⟩
  · simp only [List.mem_cons, List.mem_append] at hp ⊢
    rcases hp with h | h | h | h | h <;> simp [h]
  · intro p hp
    rcases List.mem_cons.mp hp with rfl | hp
    · exact Nat.ne_of_gt (kst_ltOf hV (G0, oG) (List.mem_append_right _ (.head _)))
    rcases List.mem_cons.mp hp with rfl | hp
    · exact Ne.symm (hof (G0, oG) (List.mem_append_right _ (.head _)))
    rcases List.mem_append.mp hp with hp | hp
    · exact hap p hp (G0, oG) (.head _)
    · exact Nat.ne_of_lt (kst_ltOf hG p hp)
theorem gathered_snoc {G : Grps} {i : Nat} {u : Int} {ps : List (Int × Int)} (h : G[i]? = some (u, ps)) : gathered (G.take (i + 1)) = gathered (G.take i) ++ rowsOf u ps := by
  rw [List.take_succ, h]
  simp [gathered, List.flatMap_append]
section
variable {prog : Program} {w : World} {A : Around} {E : Value → Shared → Prop} {s : Shared} {h₀ : Heap} {L : Addr}
theorem asgF_tup2 {env : Env} {x y : Str} {px py tp : Pos} {tk0} {t : Addr} {a b : Value} {m : Str → Option Value} {news : List (Addr × Obj)} {Q' : Unit → Shared → Prop} (hh : A.handled = none) (hL : env.locals = L) (hx : env.kindOf x = some .local) (hy : env.kindOf y = some .local) (hp : (env.scope.kind == .class || (env.scope.kind == .module && env.locals != env.globals)) = false)
    (F : Fr h₀ L s.heap m) (N : News h₀ L s.heap news) (hT : s.heap.IsTuple t #[a, b])
    (k : ∀ h' tk, Fr h₀ L h' (fun z => if z = y then some b else if z = x then some a else m z) → News h₀ L h' news → Q' () { s with heap := h', toks := tk }) :
    wpAny (model prog w) A (assign (.Tuple [.Name x px, .Name y py] tk0 tp) env (.ref t)) Q' E s := by
  subst hL
  refine assign_Tuple_tuple (items := #[a, b]) hh hT rfl rfl fun h₅ he => ?_
  have he' : ∀ b o, s.heap.get? b = some o → h₅.get? b = some o := fun b o e => he b o (Nat.ne_of_lt (Heap.lt_size e)) e
  have F5 := F.keeps he'
  refine assignInOrder_cons (wpAny_assign_Name (wpAny_storeName_local hx F5.ns (fun h₆ hn₆ hs₆ => ?_) hp))
  have F6 := F5.set hn₆ hs₆
  have N6 := News.set (fun p hp => ⟨he' _ _ (N p hp).1, (N p hp).2⟩ : News h₀ env.locals h₅ news) hs₆
  refine assignInOrder_cons (wpAny_assign_Name (wpAny_storeName_local hy F6.ns (fun h₃ hn₃ hs₃ => ?_) hp))
  refine assignInOrder_nil ?_
  exact k h₃ _ (F6.set hn₃ hs₃) (N6.set hs₃)
end
theorem octsW_byte (G : Grps) : ∀ y ∈ octsW G, 0 ≤ y ∧ y < 256 := by
  intro y hy
  obtain ⟨g, _, hy⟩ := List.mem_flatMap.mp hy
  unfold octW flatB at hy
  simp only [List.mem_append, List.mem_flatMap] at hy
  rcases hy with ((((h | h) | h) | h) | ⟨p, _, h | h⟩)
  · exact leB_byte _ _ y h
  · simp at h; lia
  · exact leB_byte _ _ y h
  · simp at h; lia
  · exact leB_byte _ _ y h
  · exact leB_byte _ _ y h
section
variable {w : World} {mean : ExcName → Option Value} {mg mb : Str → Option Value}
    {dp un : Nat} {gd : Option (List Code)} {A₀ : Around} {h₀ : Heap} {L : Addr} {m : Str → Option Value} {s : Shared} {R : Result → Shared → Prop}
    {Q : Flow → Shared → Prop} {oc : Value} {od : Option Addr} {name qual : Str} {params : Arguments} {body : List Stmt} {scope : Scope} {dV kV doc pm cdv ct : Value} {an : Option Addr} {osl : Array (Option Value)}
    (dm : KdMark)
    (B : Below A₀ h₀ [] h₀) (F : Fr h₀ L s.heap m) (X : (heapK w.params).In h₀)
    (T : Top view (looseW view [Str.ofString "MEMORY_END"]) mean mg mb h₀)
    (ho : (heapK w.params).lookup 372 = some ⟨oc, od, .func (fnOf name qual params body scope dV kV doc pm an cdv ct), osl⟩)
include dm B F X T ho
theorem law_segC {x nl rl ol dl : Addr} {cobj : Obj} {nn n0 nr n1 n2 : Nat} {vs rv ov dv : List Value} {ns os : List Int} {rows : List Row} {drawn : List (Row × Bool)} {i e : Int} {t1 t2 : Tok} {tl : List (Addr × Obj)}
    (hm0 : m (Str.ofString "drawn") = some (.ref dl)) (hm1 : m (Str.ofString "rows") = some (.ref rl)) (hm2 : m (Str.ofString "octets") = some (.ref ol))
    (N : News h₀ L s.heap ((x, listOf #[.ref nl, .int i t1, .int e t2] nn) :: tl)) (off : ∀ p ∈ tl, p.1 ≠ x)
    (hcw : (L + 1, cobj) ∈ tl) (hco : cobj.data = .cell (some (.ref x)))
    (hl : (nl, listOf vs.toArray n0) ∈ tl) (hi : IntsAre vs ns) (h2 : ns.length < 2 ^ 20)
    (hr : (rl, listOf rv.toArray nr) ∈ tl) (hrd : DatAll tl rv (rows.map rowDat)) (hrn : rows.length ≤ 5) (hrb : ∀ r ∈ rows, -8589934592 < r.1 ∧ r.1 < 8589934592 ∧ -8589934592 < r.2.1 ∧ r.2.1 < 8589934592)
    (hdl : (dl, listOf dv.toArray n2) ∈ tl) (hdd : DatAll tl dv (drawn.map drDat)) (hdn : drawn.length ≤ 5) (hgood : ∀ d ∈ drawn, d.2 = true)
    (hun : ∀ r ∈ rows, 0 ≤ r.2.2 ∧ r.2.2 < 4294967296) (hgg : ∀ q ∈ groups rows, ∀ p ∈ q.2, goodPair p)
    (hoo : (ol, listOf ov.toArray n1) ∈ tl) (hoi : IntsAre ov os) (hos : os = octsW (groups rows))
    (h0 : 0 ≤ i) (h1 : i < 100) (h3 : 0 ≤ e) (h4 : e < 65537)
    (hd : dp + 60 < recursionLimit) (hu : un + 500 < cLine)
    (hQ : ∀ h' tk' m', Fr h₀ L h' m' → Q (.ret (.bool true)) { s with heap := h', toks := tk' }) :
    wpAny (model PySem.Challenge.rw_og0206_01.row.prog w) (ktrTop dp un gd qual scope L 372 cdv (cellsFrom (L + 1) scope.names []) []) (execs (body.drop 5) (envOfC qual scope L 372 cdv)) Q (fun e s' => wpAny (model PySem.Challenge.rw_og0206_01.row.prog w) (ktrTop dp un gd qual scope L 372 cdv (cellsFrom (L + 1) scope.names []) []) (leaving (envOfC qual scope L 372 cdv) e) (fun _ s'' => R (.error e) s'') (fun e' s'' => R (.error e') s'') s') s := by
  refine' seg_lit2 (G := fun body scope qual cdv => wpAny (model PySem.Challenge.rw_og0206_01.row.prog w) (ktrTop dp un gd qual scope L 372 cdv (cellsFrom (L + 1) scope.names []) []) (execs (body.drop 5) (envOfC qual scope L 372 cdv)) Q (fun e s' => wpAny (model PySem.Challenge.rw_og0206_01.row.prog w) (ktrTop dp un gd qual scope L 372 cdv (cellsFrom (L + 1) scope.names []) []) (leaving (envOfC qual scope L 372 cdv) e) (fun _ s'' => R (.error e) s'') (fun e' s'' => R (.error e') s'') s') s) ho ?ze ?_
  case ze => k_is
  clear ho
  intro hol
  simp only [List.drop]
  have hcut := l3M_cut hm0 hm1 hm2
  rw [← hcut] at F
  unfold l3M at F
  walk_at "ks"
  unfold Stop
  rename Fr _ _ _ _ => F1
  rename News _ _ _ _ => N1
  k_dflt (refine' compListA (nn := n2) (vs := dv) (fun k v m => ∃ d, drawn[k]? = some d ∧ m (Str.ofString "is_good") = some (.bool d.2)) (fun k ys nw => nw = _ ∧ IntsAre ys (bads (drawn.take k))) ?zhh F1 N1 (.tail _ hdl) ?zhc ?zhd ?zhsz ⟨rfl, .nil⟩ ?zhJl ?zhlen ?zasg ?zturn ?zfin; (case zhh => exact rfl); (case zhc => exact rfl); (case zhd => exact rfl); k_whole)
  case zhsz => have := DatAll.length hdd; rw [List.length_map] at this; rw [sizeLine_eq]; lia
  case zhJl => exact fun i ys nw h => h.1 ▸ .tail _ hdl
  case zhlen =>
    intro i ys nw h
    rw [PyProof.Rows.IntsAre.length h.2]
    exact bads_len drawn i
  case zasg =>
    intro s2 i v ys nw C h tk m1 Q' E' hv hJ N' hn k
    refine cps fun G kG => ?_
    obtain ⟨rfl, hI⟩ := hJ
    obtain ⟨d, T, q, n, hdk, rfl, hT, _⟩ := dr_get hdd hv
    refine kG ?_
    clear kG G
    k_dflt (refine asg_tup2 rfl rfl rfl rfl rfl (N' _ (.tail _ hT)).1 rfl rfl hn fun h3 tk3 hn3 hk3 => k h3 tk3 _ ⟨d, hdk, rfl⟩ hn3 hk3)
  case zturn =>
    intro s2 hs2 I i v ys nw oI C oC D m2 h tk E' hv hJ hT hoC F' N' off ne
    refine cps fun G kG => ?_
    obtain ⟨g, rfl⟩ := hs2
    obtain ⟨rfl, hI⟩ := hJ
    obtain ⟨d, hdk, hgd⟩ := hT
    refine kG ?_
    clear kG G
    have hgd2 := hgood d (List.mem_of_getElem? hdk)
    rw [hgd2] at hgd
    refine wpAny_tests_one ?_
    try k_unmd
    try walk_at "fo"
    walk_at "ks"
    exact compNext_intro F' N' off ⟨rfl, by rw [bads_snoc hdk, if_pos hgd2]; exact hI⟩
  case zfin =>
    intro s2 hs2 ys nw hJ
    refine cps fun G kG => ?_
    obtain ⟨g, rfl⟩ := hs2
    obtain ⟨rfl, hI⟩ := hJ
    refine kG ?_
    clear kG G
    clear F1 N1
    have hdvl := DatAll.length hdd
    rw [List.length_map] at hdvl
    rw [hdvl, List.take_length, bads_nil.mpr hgood] at hI
    intro D h tk F1 N1 offD
    replace N1 : News _ _ _ ((D, listOf ys.toArray ys.length) :: _) := N1
    try dsimp only
    walk_at "ks"
    unfold Stop
    rename Fr _ _ _ _ => F9
    rename News _ _ _ _ => N9
    refine ke_ne_ints ⟨_, (N9 _ (.tail _ (.head _))).1, rfl, _, rfl⟩ ⟨_, (N9 _ (.head _)).1, rfl, _, rfl⟩ hI .nil (by ke_room) ?_
    simp only [eq_self, decide_true, Bool.not_true]
    walk_at "ks"
    unfold Stop
    rename Fr _ _ _ _ => F2
    rename News _ _ _ _ => N2
    have N3 := cb_drop N2 (fun p hp => .tail _ (.tail _ hp))
    clear N2 offD hI
    k_dflt (refine' law_written_spec ?zdm ?zB ?zF ?zX ?zT ?zhk N3 (.tail _ hr) (hrd.mono fun p hp => .tail _ hp) hrn ?zhd ?zhu ?_; (case zdm => first | assumption | exact kdMark); (case zB => k_asm); (case zF => k_asm); (case zX => k_asm); (case zT => k_asm); (case zhk => exact rfl); (case zhd => ktr_room); (case zhu => ktr_units))
    clear F2 N3
    intro R g gvs gn c cvs cn cw cells nt h5 tk5 hgi hcd hcg hcl ap1 ap2 ap3 ap4 F2 N2
    walk_at "ks"
    unfold Stop
    rename Fr _ _ _ _ => F3
    rename News _ _ _ _ => N3
    rename (R < _ ∧ g < _ ∧ c < _ ∧ AllLt _ (cw ++ _)) => lG
    k_dflt (refine' law_sets_spec ?zdm ?zB ?zF ?zX ?zT ?zhk N3 (.tail _ (.tail _ (.tail _ (.tail _ (List.mem_append_right _ (.tail _ hr)))))) (hrd.mono fun p hp => .tail _ (.tail _ (.tail _ (.tail _ (List.mem_append_right _ (.tail _ hp)))))) hrn ?zhd ?zhu ?_; (case zdm => first | assumption | exact kdMark); (case zB => k_asm); (case zF => k_asm); (case zX => k_asm); (case zT => k_asm); (case zhk => exact rfl); (case zhd => ktr_room); (case zhu => ktr_units))
    clear F3 N3
    intro d od kvs nw h6 tk6 hdi hgr hlo hof hap F3 N3
    walk_at "ks"
    unfold Stop
    rename Fr _ _ _ _ => F4
    rename News _ _ _ _ => N4
    rename (d < _ ∧ AllLt _ _) => lV
    refine cps fun G kG => ?_
    obtain ⟨rest, N5, hV5, hd5, hn5, ho5, hr5⟩ := l3_setup N4 lV.2 hof hap ⟨lG.1, lG.2.1, lG.2.2.1, lG.2.2.2⟩
    refine kG ?_
    clear kG G
    have hnod : (kvs.map (·.1)).Nodup := by obtain ⟨es, ep, hes⟩ := hdi; exact hes.2.2.2.2
    have hkl := hgr.len
    have hGn := groups_length rows
    have hsm := groups_small rows
    have hr6 : ∀ p ∈ tl, p ∈ rest := fun p hp => hr5 p (.tail _ (.tail _ (.tail _ (List.mem_append_right _ (.tail _ hp)))))
    refine iterItemsA (d := d) (od := od) (kvs := kvs) (fun k m' nx => ∃ gv gn, nx = (_, listOf gv.toArray gn) :: rest ∧ DatAll nw gv ((gathered ((groups rows).take k)).map rowDat) ∧ gv.length ≤ 5 * k ∧ l3aM (.ref rl) (.ref ol) (.ref g) (.ref c) (.ref _) m' = m') rfl F4 N5 ⟨_, (N5 _ (.tail _ hV5)).1, rfl, rfl⟩ (.tail _ hd5) hdi ⟨[], _, rfl, .nil, Nat.zero_le _, l3aM_cut rfl rfl rfl rfl rfl⟩ (fun k m nx h => by obtain ⟨gv, gn, rfl, _⟩ := h; exact .tail _ hd5) ?zturn8 ?zfin8
    case zturn8 =>
      clear F4 N4 N5
      intro I k T u y tu m1 nx h7 tk7 o hkv hT hJ offI F5 N5
      refine cps fun G kG => ?_
      obtain ⟨gv, gn, rfl, hgd, hgl, hlo⟩ := hJ
      obtain ⟨ps, l, ws, n, hgi, hval, rfl, hlw, hws⟩ := hgr.item hnod hkv
      refine kG ?_
      clear kG G
      rw [← hlo] at F5
      unfold l3aM at F5
      refine asgF_tup2 rfl rfl rfl rfl rfl F5 N5 hT ?_
      clear F5 N5
      intro h8 tk8 F5 N5
      try k_unmd
      try walk_at "fo"
      walk_at "ks"
      rename Fr _ _ _ _ => F6
      rename News _ _ _ _ => N6
      have hwl := DatAll.length hws
      have hpl := hsm _ (List.mem_of_getElem? hgi)
      have hkr : k < (groups rows).length := (List.getElem?_eq_some_iff.mp hgi).1
      rw [List.length_map] at hwl
      dsimp only at hpl
      refine extend_any F6 (news_swap N6) (.tail _ (hn5 _ hlw)) (List.forall_mem_cons.mpr ⟨Ne.symm (offI _ (.head _)), ho5⟩) (by lia) ?_
      intro h9 n9 F7 N7
      clear F6 N6
      walk_at "ks"
      unfold Stop
      rename Fr _ _ _ _ => F8
      rename News _ _ _ _ => N8
      refine turnA_next F8 (news_swap N8) (fun p hp => hp) (List.forall_mem_cons.mpr ⟨(by have h9 := offI _ (.head _); exact h9), fun p hp => offI p (.tail _ hp)⟩) ⟨_, _, rfl, ?_, by rw [List.length_append]; lia, l3aM_cut rfl rfl rfl rfl rfl⟩
      rw [gathered_snoc hgi, List.map_append]
      refine DatAll.append hgd ?_
      unfold rowsOf
      rw [List.map_map]
      exact hws
    case zfin8 =>
      clear F4 N4 N5
      intro h7 tk7 m1 nx hJ F5 N5
      refine cps fun G kG => ?_
      obtain ⟨gv, gn, rfl, hgd, hgl, hlo⟩ := hJ
      refine kG ?_
      clear kG G
      rw [hkl, List.take_length] at hgd
      rw [← hlo] at F5
      unfold l3aM at F5
      have hg9 := hr5 _ (.tail _ (.head _))
      have hc9 := hr5 _ (.tail _ (.tail _ (.head _)))
      have ho9 := hr6 _ hoo
      rw [← hos] at hgi
      walk_at "ks"
      unfold Stop
      rename Fr _ _ _ _ => F6
      rename News _ _ _ _ => N6
      refine ke_ne_ints ⟨_, (N6 _ (.tail _ ho9)).1, rfl, _, rfl⟩ ⟨_, (N6 _ (.tail _ hg9)).1, rfl, _, rfl⟩ hoi hgi (by ke_room) ?_
      simp only [eq_self, decide_true, Bool.not_true]
      walk_at "ks"
      unfold Stop
      rename Fr _ _ _ _ => F7
      rename News _ _ _ _ => N7
      have hosl : os.length ≤ 400 := by
        have h1 := octsW_len (G := groups rows) fun q hq => Nat.le_trans (hsm q hq) hrn
        rw [← hos] at h1
        lia
      have hby : ∀ y ∈ os, 0 ≤ y ∧ y < 256 := hos ▸ octsW_byte _
      have hrw := read_written hun hrn hgg
      rw [← hos] at hrw
      k_dflt (refine' law_seen_spec ?zdm ?zB ?zF ?zX ?zT ?zhk rfl rfl N7 (.tail _ ho9) hoi hby (by lia) ?zhd ?zhu ?zq1 ?_; (case zdm => first | assumption | exact kdMark); (case zB => k_asm); (case zF => k_asm); (case zX => k_asm); (case zT => k_asm); (case zhk => exact rfl); (case zhd => ktr_room); (case zhu => ktr_units))
      case zq1 =>
        clear F7 N7
        intro f1 ws1 nf1 rws1 new1 h8 tk8 hra F8 N8 hda1 hap1 hof1 hwl1
        refine cps fun G kG => ?_
        obtain rfl : gathered (groups rows) = rws1 := Option.some.inj (hrw.symm.trans hra)
        refine kG ?_
        clear kG G
        walk_at "ks"
        unfold Stop
        rename Fr _ _ _ _ => F9
        rename News _ _ _ _ => N9
        refine kqd_ne N9 (.head _) rfl rfl hda1 (fun p hp => .tail _ (List.mem_append_left _ hp)) (.tail _ (List.mem_append_right _ (.head _))) rfl rfl hgd (fun p hp => .tail _ (List.mem_append_right _ (.tail _ (hn5 p hp)))) rowDat_ok rowDat_ok (by ke_room) ?_
        simp only [eq_self, decide_true, Bool.not_true]
        walk_at "ks"
        unfold Stop
        rename Fr _ _ _ _ => Fa
        rename News _ _ _ _ => Na
        have hsubx : ∀ p ∈ (x, listOf #[.ref nl, .int i t1, .int e t2] nn) :: (c, listOf cvs.toArray cn) :: (cw ++ tl), p ∈ rest := by
          intro p hp
          rcases List.mem_cons.mp hp with rfl | hp
          · exact hr5 _ (.tail _ (.tail _ (.tail _ (List.mem_append_right _ (.head _)))))
          rcases List.mem_cons.mp hp with rfl | hp
          · exact hc9
          rcases List.mem_append.mp hp with hp | hp
          · exact hr5 _ (.tail _ (.tail _ (.tail _ (List.mem_append_left _ hp))))
          · exact hr6 p hp
        have offx : ∀ p ∈ (c, listOf cvs.toArray cn) :: (cw ++ tl), p.1 ≠ x := by
          intro p hp
          rcases List.mem_cons.mp hp with rfl | hp
          · exact ap3 _ (.head _)
          rcases List.mem_append.mp hp with hp | hp
          · exact ap1 p hp _ (.head _)
          · exact off p hp
        exact law_segD dm B Fa X T hol rfl rfl rfl (cb_drop Na fun p hp => .tail _ (List.mem_append_right _ (.tail _ (hsubx p hp)))) offx (.tail _ (List.mem_append_right _ hcw)) hco (.tail _ (List.mem_append_right _ hl)) hi h2 (.tail _ (List.mem_append_right _ hr)) (hrd.mono fun p hp => .tail _ (List.mem_append_right _ hp)) hrn hrb (.tail _ (List.mem_append_right _ hoo)) hoi hby hosl (.head _) (hcd.mono fun p hp => .tail _ (List.mem_append_left _ hp)) hcg hcl h0 h1 h3 h4 (by lia) (by lia) hQ
      intro h8 tk8 hra F8 N8
      rw [hrw] at hra
      cases hra
end
end
end
end
end
end
end
end
end
end
section
local macro_rules | `(tactic| walk_at "call ref") => `(tactic| (k_here; (with_reducible show wpAny _ _ (call (Value.ref _) _) _ _ _); refine Stop.out ?_))
section
local macro_rules | `(tactic| walk_at "pyIter ref") => `(tactic| (k_here; (with_reducible show wpAny _ _ (pyIter (Value.ref _)) (fun it s₂ => CompIt _ _ _ _ _ _ _ _ _ _ _ _ _ it s₂) _ _); refine Stop.out ?_))
section
local macro_rules | `(tactic| walk_at "eval ListComp") => `(tactic| (k_here; k_dflt (refine ListComp_G (F₀ := by k_asm) (by with_unfolding_all rfl) (by decide) (by rfl) (by decide) ?_)))
section
local macro_rules | `(tactic| walk_at "exec Assign cons ListComp") => `(tactic| (k_here; k_dflt (refine Assign_ListComp_G (F₀ := by k_asm) (by rfl) (by with_unfolding_all rfl) (by with_unfolding_all rfl) (by decide) (by rfl) (by decide) (by rfl) (by rfl) ?_)))
section
local macro_rules | `(tactic| walk_at "compareOp NotEq ref ref") => `(tactic| (k_here; (with_reducible show wpAny _ _ (compareOp CmpOp.NotEq (Value.ref _) (Value.ref _)) _ _ _); refine Stop.out ?_))
section
noncomputable def l2M (v0 v1 : Value) (m₂ : Str → Option Value) : Str → Option Value :=
  fun z => if z = Str.ofString "drawn" then some v0 else if z = Str.ofString "rows" then some v1 else m₂ z
theorem l2M_cut {v0 v1 : Value} {m : Str → Option Value} (h0 : m (Str.ofString "drawn") = some v0) (h1 : m (Str.ofString "rows") = some v1) : l2M v0 v1 m = m := by
  funext z
  simp only [l2M]
  split
  · rename_i e; rw [e, h0]
  split
  · rename_i e; rw [e, h1]
  · rfl
section
variable {w : World} {mean : ExcName → Option Value} {mg mb : Str → Option Value}
    {dp un : Nat} {gd : Option (List Code)} {A₀ : Around} {h₀ : Heap} {L : Addr} {m : Str → Option Value} {s : Shared} {R : Result → Shared → Prop}
    {Q : Flow → Shared → Prop} {oc : Value} {od : Option Addr} {name qual : Str} {params : Arguments} {body : List Stmt} {scope : Scope} {dV kV doc pm cdv ct : Value} {an : Option Addr} {osl : Array (Option Value)}
    (dm : KdMark)
    (B : Below A₀ h₀ [] h₀) (F : Fr h₀ L s.heap m) (X : (heapK w.params).In h₀)
    (T : Top view (looseW view [Str.ofString "MEMORY_END"]) mean mg mb h₀)
    (ho : (heapK w.params).lookup 372 = some ⟨oc, od, .func (fnOf name qual params body scope dV kV doc pm an cdv ct), osl⟩)
include dm B F X T ho
theorem law_segB {x nl rl dl : Addr} {cobj : Obj} {nn n0 nr n2 : Nat} {vs rv dv : List Value} {ns : List Int} {rows : List Row} {drawn : List (Row × Bool)} {i e : Int} {t1 t2 tME : Tok} {tl : List (Addr × Obj)}
    (hME : mg (Str.ofString "MEMORY_END") = some (.int 4294967296 tME)) (hgd : gd = some [])
    (hm0 : m (Str.ofString "drawn") = some (.ref dl)) (hm1 : m (Str.ofString "rows") = some (.ref rl))
    (N : News h₀ L s.heap ((x, listOf #[.ref nl, .int i t1, .int e t2] nn) :: tl)) (off : ∀ p ∈ tl, p.1 ≠ x)
    (hcw : (L + 1, cobj) ∈ tl) (hco : cobj.data = .cell (some (.ref x)))
    (hl : (nl, listOf vs.toArray n0) ∈ tl) (hi : IntsAre vs ns) (h2 : ns.length < 2 ^ 20)
    (hr : (rl, listOf rv.toArray nr) ∈ tl) (hrd : DatAll tl rv (rows.map rowDat)) (hrn : rows.length ≤ 5) (hrb : ∀ r ∈ rows, -8589934592 < r.1 ∧ r.1 < 8589934592 ∧ -8589934592 < r.2.1 ∧ r.2.1 < 8589934592)
    (hdl : (dl, listOf dv.toArray n2) ∈ tl) (hdd : DatAll tl dv (drawn.map drDat)) (hrdn : rows = drawn.map (·.1)) (hfl : ∀ d ∈ drawn, d.2 = decide (GoodRow d.1.1 d.1.2.1))
    (hun : ∀ r ∈ rows, 0 ≤ r.2.2 ∧ r.2.2 < 4294967296)
    (h0 : 0 ≤ i) (h1 : i < 100) (h3 : 0 ≤ e) (h4 : e < 65537)
    (hd : dp + 70 < recursionLimit) (hu : un + 600 < cLine)
    (hQ : ∀ h' tk' m', Fr h₀ L h' m' → Q (.ret (.bool true)) { s with heap := h', toks := tk' }) :
    wpN (model PySem.Challenge.rw_og0206_01.row.prog w) (ktrTop dp un gd qual scope L 372 cdv (cellsFrom (L + 1) scope.names []) []) (execs (body.drop 4) (envOfC qual scope L 372 cdv)) Q (fun e s' => wpAny (model PySem.Challenge.rw_og0206_01.row.prog w) (ktrTop dp un gd qual scope L 372 cdv (cellsFrom (L + 1) scope.names []) []) (leaving (envOfC qual scope L 372 cdv) e) (fun _ s'' => R (.error e) s'') (fun e' s'' => R (.error e') s'') s') s := by
  refine' seg_lit2 (G := fun body scope qual cdv => wpN (model PySem.Challenge.rw_og0206_01.row.prog w) (ktrTop dp un gd qual scope L 372 cdv (cellsFrom (L + 1) scope.names []) []) (execs (body.drop 4) (envOfC qual scope L 372 cdv)) Q (fun e s' => wpAny (model PySem.Challenge.rw_og0206_01.row.prog w) (ktrTop dp un gd qual scope L 372 cdv (cellsFrom (L + 1) scope.names []) []) (leaving (envOfC qual scope L 372 cdv) e) (fun _ s'' => R (.error e) s'') (fun e' s'' => R (.error e') s'') s') s) ho ?ze ?_
  case ze => k_is
  clear ho
  intro hol
  simp only [List.drop]
  have hcut := l2M_cut hm0 hm1
  rw [← hcut] at F
  unfold l2M at F
  refine execsN_cons (tryN ?_)
  refine execsN_cons (assignNameN ?_)
  refine nameCallN ?_
  walk_at "ks"
  refine withN_type1 ?_
  refine nameCallN ?_
  walk_at "ks"
  refine withN_K (K := heapK w.params) (by k_is) ?_
  walk_at "ks"
  rename Fr _ _ _ _ => F1
  rename News _ _ _ _ => N1
  k_dflt (refine' write_aranges_spec ?zdm ?zB ?zF ?zX ?zT ?zhk hME N1 (.tail _ hr) (hrd.mono fun p hp => .tail _ hp) hun hrn hgd ?zhd ?zhu ?zq ?ze; (case zdm => first | assumption | exact kdMark); (case zB => k_asm); (case zF => k_asm); (case zX => k_asm); (case zT => k_asm); (case zhk => exact rfl); (case zhd => ktr_room); (case zhu => ktr_units))
  case zq =>
    clear F1 N1
    intro arr t5 h5 tk5 hgood harr F2 N2
    have hg2 := good_iff.mp hgood
    have hall : ∀ d ∈ drawn, d.2 = true := fun d hd => by
      rw [hfl d hd]
      exact decide_eq_true (hg2 d.1 (hrdn ▸ List.mem_map_of_mem hd))
    have hdn : drawn.length ≤ 5 := by rw [hrdn, List.length_map] at hrn; exact hrn
    rw [octs_same] at harr
    have hsz : arr.size ≤ 400 := by
      have h1 := octsW_len (G := groups rows) fun q hq => Nat.le_trans (groups_small rows q hq) hrn
      have h9 := groups_length rows
      rw [← KBw.ints_length, harr]
      lia
    refine list_of_bytes rfl F2 N2 (by rw [sizeLine_eq]; lia) ?_
    intro D cD h6 tk6 ov F3 N3 lD hoi
    rw [harr] at hoi
    clear F2 N2
    try dsimp only
    walk_at "ks"
    rename Fr _ _ _ _ => F4
    rename News _ _ _ _ => N4
    have offx : ∀ p ∈ (D, listOf ov.toArray cD) :: tl, p.1 ≠ x := List.forall_mem_cons.mpr ⟨Nat.ne_of_gt (lD _ (.head _)), off⟩
    refine wpN_nil ?_
    try dsimp only
    refine wpAny_execs_nil ?_
    try dsimp only
    refine wpN_any ?_
    exact law_segC dm B F4 X T hol rfl rfl rfl (news_swap N4) offx (.tail _ hcw) hco (.tail _ hl) hi h2 (.tail _ hr) (hrd.mono fun p hp => .tail _ hp) hrn hrb (.tail _ hdl) (hdd.mono fun p hp => .tail _ hp) hdn hall hun hgood (.head _) hoi rfl h0 h1 h3 h4 (by lia) (by lia) hQ
  case ze =>
    clear F1 N1
    intro e g2 h5 tk5 hbad F2 RX U2
    refine caught_ownX (C := 70) (KF := heapK w.params) F2 U2 RX X (topRead_of T) ?zex (k70 _) ?zk rfl rfl (by decide) ?zhE
    case zex => k_is
    case zk =>
      intro h6 oe ve F3 N3 hde hv2 hne
      clear F2 RX U2
      walk_at "ks"
      unfold Stop
      rename Fr _ _ _ _ => F4
      rename News _ _ _ _ => N4
      have hdn : drawn.length ≤ 5 := by rw [hrdn, List.length_map] at hrn; exact hrn
      have hdvl := DatAll.length hdd
      rw [List.length_map] at hdvl
      k_dflt (refine' compListH (e := e) (oe := oe) (nn := n2) (vs := dv) (fun k v m => ∃ d, drawn[k]? = some d ∧ m (Str.ofString "is_good") = some (.bool d.2)) (fun k ys nw => nw = _ ∧ IntsAre ys (bads (drawn.take k))) ?zhh (.head _) hde hv2 F4 N4 (.tail _ (.tail _ hdl)) ?zhc ?zhd ?zhsz ⟨rfl, .nil⟩ ?zhJl ?zhlen ?zasg ?zturn ?zfin; (case zhh => exact rfl); (case zhc => exact rfl); (case zhd => exact rfl); k_whole)
      case zhsz => rw [sizeLine_eq]; lia
      case zhJl => exact fun i ys nw h => ⟨h.1 ▸ .tail _ (.tail _ hdl), h.1 ▸ .head _⟩
      case zhlen =>
        intro i ys nw h
        rw [PyProof.Rows.IntsAre.length h.2]
        exact bads_len drawn i
      case zasg =>
        intro s2 i v ys nw C h tk m1 Q' E' hv hJ N' hn k
        refine cps fun G kG => ?_
        obtain ⟨rfl, hI⟩ := hJ
        obtain ⟨d, T, q, n, hdk, rfl, hT, _⟩ := dr_get hdd hv
        refine kG ?_
        clear kG G
        k_dflt (refine asg_tup2H rfl (N' _ (.head _)).1 hde hv2 rfl rfl rfl rfl (N' _ (.tail _ (.tail _ hT))).1 rfl rfl hn fun h3 tk3 hn3 hk3 => k h3 tk3 _ ⟨d, hdk, rfl⟩ hn3 hk3)
      case zturn =>
        intro s2 hs2 I i v ys nw oI C oC D m2 h tk E' hv hJ hT hoC F' N' off ne
        refine cps fun G kG => ?_
        obtain ⟨g, rfl⟩ := hs2
        obtain ⟨rfl, hI⟩ := hJ
        obtain ⟨d, hdk, hgd⟩ := hT
        refine kG ?_
        clear kG G
        refine wpAny_tests_one ?_
        cases hgb : d.2 with
        | true =>
          rw [hgb] at hgd
          try k_unmd
          try walk_at "fo"
          walk_at "ks"
          exact compNext_intro F' N' off ⟨rfl, by rw [bads_snoc hdk, if_pos hgb]; exact hI⟩
        | false =>
          rw [hgb] at hgd
          walk_at "ks"
          exact compNext_intro F' N' off ⟨rfl, by rw [bads_snoc hdk, if_neg (by rw [hgb]; decide)]; exact IntsAre.append hI (.cons _ _ .nil)⟩
      case zfin =>
        intro s2 hs2 ys nw hJ
        refine cps fun G kG => ?_
        obtain ⟨g, rfl⟩ := hs2
        obtain ⟨rfl, hI⟩ := hJ
        refine kG ?_
        clear kG G
        clear F4 N4
        rw [hdvl, List.take_length] at hI
        intro D h tk F5 N5 offD
        replace N5 : News _ _ _ ((D, listOf ys.toArray ys.length) :: _) := N5
        try dsimp only
        walk_at "ks"
        unfold Stop
        rename Fr _ _ _ _ => F9
        rename News _ _ _ _ => N9
        refine ke_ne_ints ⟨_, (N9 _ (.tail _ (.head _))).1, rfl, _, rfl⟩ ⟨_, (N9 _ (.head _)).1, rfl, _, rfl⟩ hI .nil (by ke_room) ?_
        have hb : bads drawn ≠ [] := fun hb => hbad (good_iff.mpr fun r hr => by
          rw [hrdn] at hr
          obtain ⟨d, hd, rfl⟩ := List.mem_map.mp hr
          have h1 := bads_nil.mp hb d hd
          rw [hfl d hd] at h1
          exact of_decide_eq_true h1)
        rw [show (!decide (bads drawn = ([] : List Int))) = true by rw [decide_eq_false hb]; rfl]
        walk_at "ks"
        exact hQ _ _ _ F9
    case zhE => passes_own
end
end
end
end
end
section
theorem l1_cut {α : Type} {a b c : α} : ∀ p ∈ [a, c], p ∈ [a, b, c] :=
  SegT.sub (segs := [[c], [a], [b]]) (.a (.l 1) (.l 0)) (.a (.l 1) (.a (.l 2) (.l 0))) rfl
theorem l1_base {h₀ h : Heap} {L x nl : Addr} {ox cobj : Obj} {ys : List Value} {base : List (Addr × Obj)} {G : Prop} (N : News h₀ L h ((x, ox) :: base)) (h1 : ∀ p ∈ base, p.1 ≠ x) (h2 : (nl, LCg.lst ys) ∈ base) (h3 : (L + 1, cobj) ∈ base)
    (k : ∀ base, News h₀ L h ((x, ox) :: base) → (∀ p ∈ base, p.1 ≠ x) → (nl, LCg.lst ys) ∈ base → (L + 1, cobj) ∈ base → G) : G := k base N h1 h2 h3
noncomputable def DrJ (x nl : Addr) (base : List (Addr × Obj)) (i : Nat) (ys : List Value) (nw : List (Addr × Obj)) : Prop :=
  ∃ (e : Int) (ta te : Tok) (n : Nat) (dw : List (Addr × Obj)) (rs : List (Row × Bool)), nw = (x, listOf #[.ref nl, .int (1 + i) ta, .int e te] n) :: (dw ++ base) ∧ (0 ≤ e ∧ e < 65537) ∧ DatAll dw ys (rs.map drDat) ∧ rs.length = i ∧ (∀ d ∈ rs, RowFact d.1.1 d.1.2.1 d.1.2.2 d.2) ∧ (∀ p ∈ dw, p.1 ≠ x)
theorem drJ0 {x nl : Addr} {base : List (Addr × Obj)} {e : Int} {ta te : Tok} {n : Nat} (h0 : 0 ≤ e) (h1 : e < 65537) : DrJ x nl base 0 [] ((x, listOf #[.ref nl, .int 1 ta, .int e te] n) :: base) :=
  ⟨e, ta, te, n, [], [], rfl, ⟨h0, h1⟩, .nil, rfl, (fun _ h => nomatch h), (fun _ h => nomatch h)⟩
theorem l1_front {α : Type} {a b c x : α} {l : List α} : ∀ p ∈ x :: a :: b :: c :: l, p ∈ a :: b :: c :: x :: l :=
  SegT.sub (segs := [[x], [a], [b], [c], l]) (.a (.l 0) (.a (.l 1) (.a (.l 2) (.a (.l 3) (.l 4))))) (.a (.l 1) (.a (.l 2) (.a (.l 3) (.a (.l 0) (.l 4))))) rfl
theorem l1_back {α : Type} {a b c x r q : α} {l l' : List α} : ∀ p ∈ a :: b :: c :: x :: (([r, q] ++ l) ++ l'), p ∈ r :: q :: x :: a :: b :: c :: (l ++ l') :=
  SegT.sub (segs := [[a], [b], [c], [x], [q], [r], l, l']) (.a (.l 0) (.a (.l 1) (.a (.l 2) (.a (.l 3) (.a (.a (.a (.l 5) (.l 4)) (.l 6)) (.l 7)))))) (.a (.l 5) (.a (.l 4) (.a (.l 3) (.a (.l 0) (.a (.l 1) (.a (.l 2) (.a (.l 6) (.l 7)))))))) rfl
theorem l1_off {I C D x r q : Addr} {oI oC oD ox ox' o1 o2 : Obj} {dw base : List (Addr × Obj)} (off : ∀ p ∈ (x, ox) :: (dw ++ base), p.1 ≠ I ∧ p.1 ≠ C ∧ p.1 ≠ D) (hr : ∀ p ∈ (I, oI) :: (C, oC) :: (D, oD) :: (dw ++ base), p.1 ≠ r) (hq : ∀ p ∈ (I, oI) :: (C, oC) :: (D, oD) :: (dw ++ base), p.1 ≠ q) :
    ∀ p ∈ (x, ox') :: (([(r, o1), (q, o2)] ++ dw) ++ base), p.1 ≠ I ∧ p.1 ≠ C ∧ p.1 ≠ D := by
  have o1 := off (x, ox) (.head _)
  refine List.forall_mem_cons.mpr ⟨o1, List.forall_mem_cons.mpr ⟨⟨Ne.symm (hr _ (.head _)), Ne.symm (hr _ (.tail _ (.head _))), Ne.symm (hr _ (.tail _ (.tail _ (.head _))))⟩, List.forall_mem_cons.mpr ⟨⟨Ne.symm (hq _ (.head _)), Ne.symm (hq _ (.tail _ (.head _))), Ne.symm (hq _ (.tail _ (.tail _ (.head _))))⟩, fun p hp => off p (.tail _ hp)⟩⟩⟩
theorem drJS {x nl r q : Addr} {base dw : List (Addr × Obj)} {i : Nat} {ys : List Value} {rs : List (Row × Bool)} {low size unit e' : Int} {good : Bool} {n n1 n2 : Nat} {ta te q1 q2 q3 : Tok} (hl : rs.length = i) (hda : DatAll dw ys (rs.map drDat)) (hrs : ∀ d ∈ rs, RowFact d.1.1 d.1.2.1 d.1.2.2 d.2) (hdx : ∀ p ∈ dw, p.1 ≠ x) (hf : RowFact low size unit good) (he0 : 0 ≤ e') (he1 : e' < 65537) (hxr : x ≠ r) (hxq : x ≠ q) :
    DrJ x nl base (i + 1) (ys ++ [.ref r]) ((x, listOf #[.ref nl, .int (1 + (i : Int) + 1) ta, .int e' te] n) :: (([(r, tupOf [.ref q, .bool good] n1), (q, tupOf [.int low q1, .int size q2, .int unit q3] n2)] ++ dw) ++ base)) := by
  refine ⟨e', ta, te, n, _, rs ++ [((low, size, unit), good)], by rw [show (1 : Int) + ((i + 1 : Nat) : Int) = 1 + (i : Int) + 1 by lia], ⟨he0, he1⟩, ?_, by rw [List.length_append, hl]; rfl, ?_, ?_⟩
  · rw [List.map_append]
    refine DatAll.append (hda.mono fun p hp => List.mem_append_right _ hp) (.cons (.tuple (.head _) (.cons (.tuple (.tail _ (.head _)) (.cons (.int _ _) (.cons (.int _ _) (.cons (.int _ _) .nil)))) (.cons (.bool _) .nil))) .nil)
  · intro d hd
    rcases List.mem_append.mp hd with h | h
    · exact hrs d h
    · rw [List.mem_singleton.mp h]; exact hf
  · exact List.forall_mem_cons.mpr ⟨Ne.symm hxr, List.forall_mem_cons.mpr ⟨Ne.symm hxq, hdx⟩⟩
theorem drT_snoc {dw : List (Addr × Obj)} {drawn : List (Row × Bool)} {ys : List Value} {i : Nat} {d : Row × Bool} {q : Addr} (hdk : drawn[i]? = some d) (hI : DatAll dw ys ((drawn.take i).map fun d => rowDat d.1)) (hq : DatIn dw (.ref q) (rowDat d.1)) : DatAll dw (ys ++ [.ref q]) ((drawn.take (i + 1)).map fun d => rowDat d.1) := by
  rw [List.take_succ, hdk, List.map_append]
  exact DatAll.append hI (DatAll.one hq)
theorem l1_last {α : Type} {a b c : α} {l : List α} : ∀ p ∈ c :: a :: b :: l, p ∈ a :: b :: c :: l :=
  SegT.sub (segs := [[c], [a], [b], l]) (.a (.l 0) (.a (.l 1) (.a (.l 2) (.l 3)))) (.a (.l 1) (.a (.l 2) (.a (.l 0) (.l 3)))) rfl
theorem drT_map {dw : List (Addr × Obj)} {drawn : List (Row × Bool)} {ys : List Value} (h : DatAll dw ys (drawn.map fun d => rowDat d.1)) : DatAll dw ys ((drawn.map fun d => d.1).map rowDat) := by
  rw [List.map_map]
  exact h
theorem law_top {w : World} {mean : ExcName → Option Value} {mg mb : Str → Option Value} {s : Shared} {sc : Addr} {vs : List Value} {ns : List Int} {tME : Tok} {R : Result → Shared → Prop} (dm : KdMark)
    (X : (heapK w.params).In s.heap) (T : Top view (looseW view [Str.ofString "MEMORY_END"]) mean mg mb s.heap) (hME : mg (Str.ofString "MEMORY_END") = some (.int 4294967296 tME))
    (hsc : s.heap.IsList sc vs.toArray) (hi : IntsAre vs ns) (hlen : ns.length ≤ 63)
    (hR : ∀ h' tk, (∀ b o, s.heap.get? b = some o → h'.get? b = some o) → R (.ok (.ret (.bool true))) { s with heap := h', toks := tk }) :
    codeN (model PySem.Challenge.rw_og0206_01.row.prog w) callerA (.call (.ref 372) ⟨[.ref sc], []⟩) R s := by
  k_dflt (refine' entryTopN (K := heapK w.params) X T.nolimit ?zho ?zhcd ?zhroom ?zhbind ?zhkind ?zhnd ?zh ?zhco ?zhgen ?zhk; (case zho => k_is); (case zhcd => k_is); (case zhroom => decide); (case zhbind => exact BindsTo.of_eq rfl); (case zhkind => exact rfl); (case zhnd => decide +kernel); (case zhco => exact rfl); (case zhgen => exact rfl); (case zhk => exact rfl); k_whole)
  intro L h1 tk cells F N Y
  refine' keepLit (w := w) ?zho2 ?_
  case zho2 => k_is
  intro hol
  k_cells Y
  have B : Below callerA s.heap [] s.heap := below_caller s.heap
  refine execsN_cons (wpN_any ?_)
  walk_at "ks"
  rename News _ _ _ _ => N2
  have N3 := cb_drop N2 (l1_cut)
  clear N2
  rename Fr _ _ _ _ => F2
  rename IntsAre _ (List.map _ _) => hns
  generalize hnn : List.map (fun k' : Int => k'.fmod 2147483647) (List.take 16 ns) = nums at hns
  have hnl : nums.length ≤ 16 := by rw [← hnn, List.length_map, List.length_take]; lia
  refine execsN_cons (wpN_any ?_)
  walk_at "ks"
  rename News _ _ _ _ => N4
  rename Fr _ _ _ _ => F4
  rename Obj => cobj
  rename cobj.data = _ => hco
  rename (_ < _ ∧ L + 1 < _) => lx
  generalize hee : nums.sum.fmod 65537 = e0 at N4
  have he0 : 0 ≤ e0 := by rw [← hee]; exact fmod_ge (by decide)
  have he1 : e0 < 65537 := by rw [← hee]; exact fmod_lt (by decide)
  rename (_ ≠ _ ∧ L + 1 ≠ _) => nlc
  clear hnn hee
  refine execsN_cons (wpN_any ?_)
  k_dflt (refine Assign_ListComp_G (F₀ := by k_asm) (by rfl) (by with_unfolding_all rfl) (by with_unfolding_all rfl) (by decide) (by rfl) (by decide) (by rfl) (by rfl) ?_)
  walk_at "ks"
  unfold Stop
  rename Fr _ _ _ _ => F5
  rename News _ _ _ _ => N5
  rename (_ < _ ∧ _ < _ ∧ L + 1 < _) => ls
  k_dflt (refine' law_draw1 ?zdm ?zB ?zF ?zX ?zT ?zhk (news_swap N5) (by k_all) (by k_mem) hns (by k_mem) (by decide) (by decide) (by lia) he0 he1 ?zhd ?zhu ?_; (case zdm => first | assumption | exact kdMark); (case zB => k_asm); (case zF => k_asm); (case zX => k_asm); (case zT => k_asm); (case zhk => exact rfl); (case zhd => ktr_room); (case zhu => ktr_units))
  clear N5 F5
  intro g0 u0 ta te e1 r0 n1 n2 h5 tk5 p0 q0 a1 a2 F5 N5 lr
  try dsimp only
  walk_at "ks"
  unfold Stop
  rename Fr _ _ _ _ => F6
  rename News _ _ _ _ => N6
  rename IsRange _ _ _ _ _ _ _ _ => hrg
  rename (Addr) => A9
  rw [show (0 : Int) + 1 = 1 from rfl] at N6
  rename_i a9 a8 a7 a6 a5
  refine l1_base (nl := _) (ys := ys) (cobj := cobj) (news_swap N6) (List.forall_mem_cons.mpr ⟨Nat.ne_of_gt lr.1, List.forall_mem_cons.mpr ⟨Nat.ne_of_gt ls.1, List.forall_mem_cons.mpr ⟨Nat.ne_of_lt lx.1, List.forall_mem_cons.mpr ⟨Nat.ne_of_lt lx.2, fun _ h => nomatch h⟩⟩⟩⟩) (by k_mem) (by k_mem) ?_
  clear N6
  intro base N7 hbx hmn hmc
  refine compRangeA (n := g0.toNat) (DrJ _ _ base) rfl hrg (small_one (by lia) (by lia) (by lia) (by lia)) (rng1 p0) F6 N7 (by rw [sizeLine_eq]; lia) (drJ0 a1 a2) ?zhlen (fun _ => rfl) (fun _ => rfl) ?zturn ?zfin
  case zhlen =>
    rintro i ys nw ⟨e, ta, te, n, dw, rs, rfl, _, hda, hl, _⟩
    have := DatAll.length hda
    rw [List.length_map] at this
    lia
  case zturn =>
    clear F6 N7
    intro s2 hs2 I i t ys nw oI C oC D m2 h tk E' hi hJ hm hoC F' N' off ne
    refine cps fun G kG => ?_
    obtain ⟨g, rfl⟩ := hs2
    obtain ⟨e, ta, te, n, dw, rs, rfl, he, hda, hl, hrs, hdx⟩ := hJ
    refine kG ?_
    clear kG G
    refine wpAny_tests_nil ?_
    try k_unmd
    try walk_at "fo"
    walk_at "ks"
    unfold Stop
    k_dflt (refine' law_row ?zdm ?zB ?zF ?zX ?zT ?zhk (tl := (I, oI) :: (C, oC) :: (D, LCg.lst ys) :: (dw ++ base)) (cb_drop N' (l1_front)) ?zoff (.tail _ (.tail _ (.tail _ (List.mem_append_right _ hmn)))) hns (by lia) (by lia) (by lia) he.1 he.2 ?zhd ?zhu ?_; (case zdm => first | assumption | exact kdMark); (case zB => k_asm); (case zF => k_asm); (case zX => k_asm); (case zT => k_asm); (case zhk => exact rfl); (case zhd => ktr_room); (case zhu => ktr_units))
    case zoff =>
      have o1 := off _ (.head _)
      exact List.forall_mem_cons.mpr ⟨Ne.symm o1.1, List.forall_mem_cons.mpr ⟨Ne.symm o1.2.1, List.forall_mem_cons.mpr ⟨Ne.symm o1.2.2, fun p hp => (List.mem_append.mp hp).elim (hdx p) (hbx p)⟩⟩⟩
    intro low size unit good r q n q1 q2 q3 n1 n2 ta te e' h6 tk6 F6 N6 hf he0 he1 hqr hxr hxq hr hq
    exact compNext_intro F6 (cb_drop N6 l1_back) (l1_off off hr hq) (drJS hl hda hrs hdx hf he0 he1 hxr hxq)
  case zfin =>
    clear F6 N7 hrg
    intro s2 hs2 dv nw hJ
    refine cps fun G kG => ?_
    obtain ⟨g, rfl⟩ := hs2
    obtain ⟨e, ta2, te2, n, dw, drawn, rfl, he, hda, hl, hrs, hdx⟩ := hJ
    refine kG ?_
    clear kG G
    intro D h tk F6 N6 offD
    replace N6 : News _ _ _ ((D, listOf dv.toArray dv.length) :: _) := N6
    try dsimp only
    walk_at "ks"
    refine execsN_cons (wpN_any ?_)
    k_dflt (refine Assign_ListComp_G (F₀ := by k_asm) (by rfl) (by with_unfolding_all rfl) (by with_unfolding_all rfl) (by decide) (by rfl) (by decide) (by rfl) (by rfl) ?_)
    walk_at "ks"
    unfold Stop
    rename Fr _ _ _ _ => F1
    rename News _ _ _ _ => N1
    have hdvl := DatAll.length hda
    rw [List.length_map] at hdvl
    k_dflt (refine' compListA (nn := dv.length) (vs := dv) (fun k v m => ∃ d q, drawn[k]? = some d ∧ DatIn dw (.ref q) (rowDat d.1) ∧ m (Str.ofString "row") = some (.ref q)) (fun k ys nw => nw = _ ∧ DatAll dw ys ((drawn.take k).map fun d => rowDat d.1)) ?zhh F1 N1 (.head _) ?zhc ?zhd ?zhsz ⟨rfl, .nil⟩ ?zhJl ?zhlen ?zasg ?zturn ?zfin; (case zhh => exact rfl); (case zhc => exact rfl); (case zhd => exact rfl); k_whole)
    case zhsz => rw [sizeLine_eq]; lia
    case zhJl => exact fun i ys nw h => h.1 ▸ .head _
    case zhlen =>
      intro i ys nw h
      have := DatAll.length h.2
      rw [List.length_map, List.length_take] at this
      lia
    case zasg =>
      intro s2 i v ys nw C h tk m1 Q' E' hv hJ N' hn k
      refine cps fun G kG => ?_
      obtain ⟨rfl, hI⟩ := hJ
      obtain ⟨d, T, q, n, hdk, rfl, hT, hq⟩ := dr_get hda hv
      refine kG ?_
      clear kG G
      k_dflt (refine asg_tup2 rfl rfl rfl rfl rfl (N' _ (.tail _ (.tail _ (List.mem_append_left _ hT)))).1 rfl rfl hn fun h3 tk3 hn3 hk3 => k h3 tk3 _ ⟨d, q, hdk, hq, rfl⟩ hn3 hk3)
    case zturn =>
      intro s2 hs2 I i v ys nw oI C oC D m2 h tk E' hv hJ hT hoC F' N' off ne
      refine cps fun G kG => ?_
      obtain ⟨g, rfl⟩ := hs2
      obtain ⟨rfl, hI⟩ := hJ
      obtain ⟨d, q, hdk, hq, hmq⟩ := hT
      refine kG ?_
      clear kG G
      refine wpAny_tests_nil ?_
      try k_unmd
      try walk_at "fo"
      walk_at "ks"
      exact compNext_intro F' N' off ⟨rfl, drT_snoc hdk hI hq⟩
    case zfin =>
      clear F1 N1
      intro s2 hs2 rv nw hJ
      refine cps fun G kG => ?_
      obtain ⟨g, rfl⟩ := hs2
      obtain ⟨rfl, hI⟩ := hJ
      refine kG ?_
      clear kG G
      rw [hdvl, List.take_length] at hI
      replace hI := drT_map hI
      intro RL h7 tk7 F1 N1 offR
      replace N1 : News _ _ _ ((RL, listOf rv.toArray rv.length) :: _) := N1
      try dsimp only
      k_dflt (refine law_segB (dp := callerA.depth + 1) (un := callerA.units + 3) (gd := some []) (rows := drawn.map (·.1)) (drawn := drawn) (tl := (RL, _) :: (_, _) :: (dw ++ base)) dm B F1 X T hol hME rfl rfl rfl (cb_drop N1 l1_last) ?zoff (.tail _ (.tail _ (List.mem_append_right _ hmc))) hco (.tail _ (.tail _ (List.mem_append_right _ hmn))) hns ?zh2 (.head _) (hI.mono fun p hp => .tail _ (.tail _ (List.mem_append_left _ hp))) ?zhrn ?zhrb (.tail _ (.head _)) (hda.mono fun p hp => .tail _ (.tail _ (List.mem_append_left _ hp))) rfl (fun d hd => (hrs d hd).1) ?zhun ?zh0 ?zh1 he.1 he.2 (by decide) (by decide) ?zhQ)
      case zoff => exact List.forall_mem_cons.mpr ⟨Ne.symm offR.2.1, List.forall_mem_cons.mpr ⟨Ne.symm offD.1, fun p hp => (List.mem_append.mp hp).elim (hdx p) (hbx p)⟩⟩
      case zh2 => lia
      case zhrn => rw [List.length_map, hl]; lia
      case zhrb =>
        intro r hr
        refine cps fun G kG => ?_
        obtain ⟨d, hd, rfl⟩ := List.mem_map.mp hr
        refine kG ?_
        clear kG G
        exact (hrs d hd).2.2
      case zhun =>
        intro r hr
        refine cps fun G kG => ?_
        obtain ⟨d, hd, rfl⟩ := List.mem_map.mp hr
        refine kG ?_
        clear kG G
        rcases (hrs d hd).2.1 with h | h | h <;> rw [h] <;> decide
      case zh0 => lia
      case zh1 => lia
      case zhQ => exact fun h' tk' m' F' => hR h' tk' F'.keep
end
end
end
end
end
end
end
end
end
end
end
end
end
end
end
end
end
end
end
end
end
end
end
end
end
end
end
end
end
end
end
end
end
end
end
section
theorem law_ref (p : Params) : nsIn (heapK p) mainGlobals (Str.ofString "law") = some (some (.ref 372)) := by kernel_rfl
theorem said : PySem.Challenge.rw_og0206_01.wellSaid = true := by decide +kernel
theorem law_holds : PySem.Challenge.rw_og0206_01.Holds := by
  refine holds_law said (fun said => ?_)
  refine law_open (q := view) (loose := [Str.ofString "MEMORY_END"]) (Xt := fun s => xlAt view lvs s && recOk (RowW.records (OpenRow.toRowW PySem.Challenge.rw_og0206_01.row)) s) (XP := XL view lvs) (Yf := Hook.obs hookK) (Ya := Hook.val hookK) (YP := Hook.says hookK) (N := 4992) left (Hook.of hookK) (Hook.keeps hookK) (fun s e => xl_of s (Bool.and_eq_true_iff.mp e).1) XL.keeps (by rfl) (by rfl) (by rfl) (fun s e => recFacts_of (Bool.and_eq_true_iff.mp e).2) (by rfl) said (by decide +kernel) ⟨rfl, rfl, rfl, rfl, rfl, by decide +kernel⟩ ?hw ?hc
  case hw => w_witness2
  intro w s₀ s₁ mg mb G Y fa o pm cd doc dV kV ho hd hcd hD hmg hg args vals as hpre hlay hrd hwl hlo
  have KX : (heapK w.params).In s₁.heap := kIn_of Y
  have V := (Ground.X G).2
  refine Ground.open G ?_
  intro T B D TE TW
  clear B D TE TW Y G ho hd hcd hD
  wrow_args hpre hlay hrd hwl hlo
  rename Heap.IsList _ _ _ => hL
  rename IntsAre _ _ => hI
  rename (¬ _ < _) => hlen
  have hf : mg (Str.ofString "law") = some (.ref 372) := mg_of KX T.g (law_ref _)
  obtain rfl : fa = 372 := by
    have := (show mg (Str.ofString "law") = some (.ref fa) from hmg).symm.trans hf
    cases this
    rfl
  obtain ⟨v, hv, hr⟩ := V.val (Str.ofString "MEMORY_END", WData.int 4294967296) (.head _)
  obtain ⟨t, rfl, -⟩ := readsW_int_inv hr
  refine wpN_call ?_
  refine law_top kdMark KX T hv hL hI (by omega) fun h' tk hk => ?_
  refine ⟨.inl ⟨_, .bool true, [], rfl, raisesW_false (by wrow_none_raised), .bool _, ?_, unshared_nil⟩, .of_keep hk, rfl, .of_eq hg⟩
  wrow_post
end
end Mine
theorem PySem.Challenge.cw_og0206_01_holds : PySem.Challenge.rw_og0206_01.Holds := by
  exact Mine.law_holds
