import PyProof.Rows.All
import Wide.BridgeG
import OpenK.KMake
import OpenK.XGo
import KE.KIsAll
import PyProof.SetRoads
import PyProof.Cells
import OpenK.KMore
import PyProof.Calls
import PyProof.Rows.Tup
import PyProof.RaisesMany
import PyProof.DictKinds
import PyProof.DictList
import KE.KTryMore
import PyProof.ExcArgs
import PyProof.Rows.SetFrom
import PyProof.P3Eq
import PyProof.EqLayable
import Wide.Txt
import KE.KIntText
import PyProof.ExcBaseAll.ValueError
import PyProof.ExcClass3
import PyProof.RulesAs
import PyProof.NsDelKeeps
import PyProof.Rows.Own
import PyProof.Rows.StrNews
import PyProof.StrCalls3
import PyProof.StrCalls2
import PyProof.ZipIter
import PyProof.WalksEnum
import PyProof.WalksMore
import PyProof.StrWalks
import PyProof.EnumMake
import PyProof.Rows.Range3
import PyProof.ForAny
import PyProof.Rows.TupIter
import PyProof.CompFree
import PyProof.Rows.Nodes
import PyProof.Rows.Chain
import PyProof.Rows.TupSub
import PyProof.Rows.Method
import PyProof.Rows.Exc
import PyProof.Rows.AttrNodeAny
import PyProof.SliceSyntax
import PyProof.FactsAll.list_3
import PyProof.Rows.SeqMore
import PyProof.ListRange
import PyProof.DictTable
import PyProof.DictDisplay
import PyProof.DictRoads
import PyProof.RulesAssignMore
import PyProof.Raises
import PyProof.ListIndex
import PyProof.Rows.Top
import Lean
import PySem.Challenge.RW_uf050023_06
set_option Elab.async false
set_option linter.all false
set_option maxRecDepth 100000
namespace Mine
open PySem PyProof.Rows

/-- a method's def, out of the program -/
noncomputable def clsBody (p : Program) (c : Str) : List Stmt := (p.main.body.filterMap fun st => match st with | .ClassDef n _ _ b _ _ _ _ _ _ _ => if n == c then some b else none | _ => none).flatten
noncomputable def methObj (p : Program) (c m q : Str) (pm code : Value) : Obj := match (clsBody p c).filterMap (fun st => match st with | .FunctionDef n a b _ _ _ sc _ _ _ => if n == m then some (a, b, sc) else none | _ => none) with
  | (a, b, sc) :: _ => { cls := .type "function", data := .func { name := m, qualname := q, params := a, body := .stmts b, scope := sc, globals := mainGlobals, closure := [], defaults := .none, kwdefaults := .none, pyModule := pm, code, builtins := builtinsNs } }
  | [] => default
end Mine
set_option maxRecDepth 100000
set_option Elab.async false
set_option maxHeartbeats 4000000
namespace Mine
open PySem PyProof.Rows PySem.W
/-- the classes, their namespaces, their methods and the globals, as the top leaves them -/
noncomputable def K06 : Params → W.Frag := fun P =>
  [(3,
      { cls := Value.type "dict",
        data :=
          Data.dict
            #[{ hash := PyData.keyHash P (Str.ofString "__name__"), key := Value.str (Str.ofString "__name__") 165,
                val := Value.str (Str.ofString "law_uf050023_06") 619 },
              { hash := PyData.keyHash P (Str.ofString "__doc__"), key := Value.str (Str.ofString "__doc__") 166,
                val := Value.none },
              { hash := PyData.keyHash P (Str.ofString "__package__"),
                key := Value.str (Str.ofString "__package__") 167, val := Value.none },
              { hash := PyData.keyHash P (Str.ofString "__loader__"), key := Value.str (Str.ofString "__loader__") 168,
                val := Value.builtin "__main__.__loader__#opaque" },
              { hash := PyData.keyHash P (Str.ofString "__spec__"), key := Value.str (Str.ofString "__spec__") 169,
                val := Value.none },
              { hash := PyData.keyHash P (Str.ofString "__annotations__"),
                key := Value.str (Str.ofString "__annotations__") 170, val := Value.ref 6 },
              { hash := PyData.keyHash P (Str.ofString "__builtins__"),
                key := Value.str (Str.ofString "__builtins__") 171, val := Value.ref 4 },
              { hash := PyData.keyHash P (Str.ofString "__file__"), key := Value.str (Str.ofString "__file__") 173,
                val := Value.str (Str.ofString "/claim/cut.py") 172 },
              { hash := PyData.keyHash P (Str.ofString "__cached__"), key := Value.str (Str.ofString "__cached__") 174,
                val := Value.none },
              { hash := PyData.keyHash P (Str.ofString "_wall"), key := Value.str (Str.ofString "_wall") 193,
                val := Value.ref 21 },
              { hash := PyData.keyHash P (Str.ofString "BellError"), key := Value.str (Str.ofString "BellError") 213,
                val := Value.ref 31 },
              { hash := PyData.keyHash P (Str.ofString "BadCount"), key := Value.str (Str.ofString "BadCount") 229,
                val := Value.ref 44 },
              { hash := PyData.keyHash P (Str.ofString "NoHand"), key := Value.str (Str.ofString "NoHand") 245,
                val := Value.ref 56 },
              { hash := PyData.keyHash P (Str.ofString "NoLetter"), key := Value.str (Str.ofString "NoLetter") 261,
                val := Value.ref 68 },
              { hash := PyData.keyHash P (Str.ofString "NoMail"), key := Value.str (Str.ofString "NoMail") 277,
                val := Value.ref 80 },
              { hash := PyData.keyHash P (Str.ofString "Twice"), key := Value.str (Str.ofString "Twice") 293,
                val := Value.ref 92 },
              { hash := PyData.keyHash P (Str.ofString "NotOpen"), key := Value.str (Str.ofString "NotOpen") 309,
                val := Value.ref 104 },
              { hash := PyData.keyHash P (Str.ofString "BadMark"), key := Value.str (Str.ofString "BadMark") 325,
                val := Value.ref 116 },
              { hash := PyData.keyHash P (Str.ofString "NoNote"), key := Value.str (Str.ofString "NoNote") 341,
                val := Value.ref 128 },
              { hash := PyData.keyHash P (Str.ofString "less"), key := Value.str (Str.ofString "less") 351,
                val := Value.ref 137 },
              { hash := PyData.keyHash P (Str.ofString "greatest"), key := Value.str (Str.ofString "greatest") 360,
                val := Value.ref 144 },
              { hash := PyData.keyHash P (Str.ofString "Desk"), key := Value.str (Str.ofString "Desk") 454,
                val := Value.ref 210 },
              { hash := PyData.keyHash P (Str.ofString "MOST_HANDS"), key := Value.str (Str.ofString "MOST_HANDS") 458,
                val := Value.int 40 457 },
              { hash := PyData.keyHash P (Str.ofString "is_place"), key := Value.str (Str.ofString "is_place") 466,
                val := Value.ref 221 },
              { hash := PyData.keyHash P (Str.ofString "House"), key := Value.str (Str.ofString "House") 618,
                val := Value.ref 334 },
              { hash := PyData.keyHash P (Str.ofString "_law_whole"), key := Value.str (Str.ofString "_law_whole") 627,
                val := Value.ref 345 },
              { hash := PyData.keyHash P (Str.ofString "_law_cell_at"),
                key := Value.str (Str.ofString "_law_cell_at") 635, val := Value.ref 352 },
              { hash := PyData.keyHash P (Str.ofString "_law_mark"), key := Value.str (Str.ofString "_law_mark") 642,
                val := Value.ref 359 },
              { hash := PyData.keyHash P (Str.ofString "_law_mail"), key := Value.str (Str.ofString "_law_mail") 649,
                val := Value.ref 366 },
              { hash := PyData.keyHash P (Str.ofString "_law_sign"), key := Value.str (Str.ofString "_law_sign") 657,
                val := Value.ref 373 },
              { hash := PyData.keyHash P (Str.ofString "_law_mails"), key := Value.str (Str.ofString "_law_mails") 667,
                val := Value.ref 380 },
              { hash := PyData.keyHash P (Str.ofString "_law_row"), key := Value.str (Str.ofString "_law_row") 677,
                val := Value.ref 387 },
              { hash := PyData.keyHash P (Str.ofString "_law_only"), key := Value.str (Str.ofString "_law_only") 683,
                val := Value.ref 392 },
              { hash := PyData.keyHash P (Str.ofString "_law_refused"),
                key := Value.str (Str.ofString "_law_refused") 693, val := Value.ref 399 },
              { hash := PyData.keyHash P (Str.ofString "_law_strangers"),
                key := Value.str (Str.ofString "_law_strangers") 709, val := Value.ref 406 },
              { hash := PyData.keyHash P (Str.ofString "_law_stands"),
                key := Value.str (Str.ofString "_law_stands") 715, val := Value.ref 411 },
              { hash := PyData.keyHash P (Str.ofString "law"), key := Value.str (Str.ofString "law") 721,
                val := Value.ref 416 }]
            37 }),
    (30,
      { cls := Value.type "dict",
        data :=
          Data.dict
            #[{ hash := PyData.keyHash P (Str.ofString "__module__"), key := Value.str (Str.ofString "__module__") 203,
                val := Value.str (Str.ofString "onebell.errors") 194 },
              { hash := PyData.keyHash P (Str.ofString "__firstlineno__"),
                key := Value.str (Str.ofString "__firstlineno__") 207, val := Value.int 5 206 },
              { hash := PyData.keyHash P (Str.ofString "__static_attributes__"),
                key := Value.str (Str.ofString "__static_attributes__") 208, val := Value.ref 29 },
              { hash := PyData.keyHash P (Str.ofString "__weakref__"),
                key := Value.str (Str.ofString "__weakref__") 210, val := Value.ref 32 },
              { hash := PyData.keyHash P (Str.ofString "__doc__"), key := Value.str (Str.ofString "__doc__") 211,
                val := Value.none }]
            3 }),
    (31,
      { cls := Value.type "type",
        data :=
          Data.cls
            { name := Str.ofString "BellError", bases := [Value.type "ValueError"],
              mro :=
                [Value.ref 31, Value.type "ValueError", Value.type "Exception", Value.type "BaseException",
                  Value.type "object"],
              ns := 30, qualname := Str.ofString "BellError",
              subclasses :=
                [Value.ref 44, Value.ref 56, Value.ref 68, Value.ref 80, Value.ref 92, Value.ref 104, Value.ref 116,
                  Value.ref 128] },
        slots :=
          #[some (Value.ref 22), none, some (Value.str (Str.ofString "BellError") 196),
            some (Value.str (Str.ofString "BellError") 204), some (Value.builtin "ValueError.__new__"),
            some (Value.bool true)] }),
    (43,
      { cls := Value.type "dict",
        data :=
          Data.dict
            #[{ hash := PyData.keyHash P (Str.ofString "__module__"), key := Value.str (Str.ofString "__module__") 221,
                val := Value.str (Str.ofString "onebell.errors") 194 },
              { hash := PyData.keyHash P (Str.ofString "__firstlineno__"),
                key := Value.str (Str.ofString "__firstlineno__") 225, val := Value.int 7 224 },
              { hash := PyData.keyHash P (Str.ofString "__static_attributes__"),
                key := Value.str (Str.ofString "__static_attributes__") 226, val := Value.ref 42 },
              { hash := PyData.keyHash P (Str.ofString "__doc__"), key := Value.str (Str.ofString "__doc__") 227,
                val := Value.none }]
            2 }),
    (44,
      { cls := Value.type "type",
        data :=
          Data.cls
            { name := Str.ofString "BadCount", bases := [Value.ref 31],
              mro :=
                [Value.ref 44, Value.ref 31, Value.type "ValueError", Value.type "Exception",
                  Value.type "BaseException", Value.type "object"],
              ns := 43, qualname := Str.ofString "BadCount" },
        slots :=
          #[some (Value.ref 35), none, some (Value.str (Str.ofString "BadCount") 214),
            some (Value.str (Str.ofString "BadCount") 222), some (Value.builtin "ValueError.__new__"),
            some (Value.bool true)] }),
    (55,
      { cls := Value.type "dict",
        data :=
          Data.dict
            #[{ hash := PyData.keyHash P (Str.ofString "__module__"), key := Value.str (Str.ofString "__module__") 237,
                val := Value.str (Str.ofString "onebell.errors") 194 },
              { hash := PyData.keyHash P (Str.ofString "__firstlineno__"),
                key := Value.str (Str.ofString "__firstlineno__") 241, val := Value.int 9 240 },
              { hash := PyData.keyHash P (Str.ofString "__static_attributes__"),
                key := Value.str (Str.ofString "__static_attributes__") 242, val := Value.ref 54 },
              { hash := PyData.keyHash P (Str.ofString "__doc__"), key := Value.str (Str.ofString "__doc__") 243,
                val := Value.none }]
            2 }),
    (56,
      { cls := Value.type "type",
        data :=
          Data.cls
            { name := Str.ofString "NoHand", bases := [Value.ref 31],
              mro :=
                [Value.ref 56, Value.ref 31, Value.type "ValueError", Value.type "Exception",
                  Value.type "BaseException", Value.type "object"],
              ns := 55, qualname := Str.ofString "NoHand" },
        slots :=
          #[some (Value.ref 47), none, some (Value.str (Str.ofString "NoHand") 230),
            some (Value.str (Str.ofString "NoHand") 238), some (Value.builtin "ValueError.__new__"),
            some (Value.bool true)] }),
    (67,
      { cls := Value.type "dict",
        data :=
          Data.dict
            #[{ hash := PyData.keyHash P (Str.ofString "__module__"), key := Value.str (Str.ofString "__module__") 253,
                val := Value.str (Str.ofString "onebell.errors") 194 },
              { hash := PyData.keyHash P (Str.ofString "__firstlineno__"),
                key := Value.str (Str.ofString "__firstlineno__") 257, val := Value.int 11 256 },
              { hash := PyData.keyHash P (Str.ofString "__static_attributes__"),
                key := Value.str (Str.ofString "__static_attributes__") 258, val := Value.ref 66 },
              { hash := PyData.keyHash P (Str.ofString "__doc__"), key := Value.str (Str.ofString "__doc__") 259,
                val := Value.none }]
            2 }),
    (68,
      { cls := Value.type "type",
        data :=
          Data.cls
            { name := Str.ofString "NoLetter", bases := [Value.ref 31],
              mro :=
                [Value.ref 68, Value.ref 31, Value.type "ValueError", Value.type "Exception",
                  Value.type "BaseException", Value.type "object"],
              ns := 67, qualname := Str.ofString "NoLetter" },
        slots :=
          #[some (Value.ref 59), none, some (Value.str (Str.ofString "NoLetter") 246),
            some (Value.str (Str.ofString "NoLetter") 254), some (Value.builtin "ValueError.__new__"),
            some (Value.bool true)] }),
    (79,
      { cls := Value.type "dict",
        data :=
          Data.dict
            #[{ hash := PyData.keyHash P (Str.ofString "__module__"), key := Value.str (Str.ofString "__module__") 269,
                val := Value.str (Str.ofString "onebell.errors") 194 },
              { hash := PyData.keyHash P (Str.ofString "__firstlineno__"),
                key := Value.str (Str.ofString "__firstlineno__") 273, val := Value.int 13 272 },
              { hash := PyData.keyHash P (Str.ofString "__static_attributes__"),
                key := Value.str (Str.ofString "__static_attributes__") 274, val := Value.ref 78 },
              { hash := PyData.keyHash P (Str.ofString "__doc__"), key := Value.str (Str.ofString "__doc__") 275,
                val := Value.none }]
            2 }),
    (80,
      { cls := Value.type "type",
        data :=
          Data.cls
            { name := Str.ofString "NoMail", bases := [Value.ref 31],
              mro :=
                [Value.ref 80, Value.ref 31, Value.type "ValueError", Value.type "Exception",
                  Value.type "BaseException", Value.type "object"],
              ns := 79, qualname := Str.ofString "NoMail" },
        slots :=
          #[some (Value.ref 71), none, some (Value.str (Str.ofString "NoMail") 262),
            some (Value.str (Str.ofString "NoMail") 270), some (Value.builtin "ValueError.__new__"),
            some (Value.bool true)] }),
    (91,
      { cls := Value.type "dict",
        data :=
          Data.dict
            #[{ hash := PyData.keyHash P (Str.ofString "__module__"), key := Value.str (Str.ofString "__module__") 285,
                val := Value.str (Str.ofString "onebell.errors") 194 },
              { hash := PyData.keyHash P (Str.ofString "__firstlineno__"),
                key := Value.str (Str.ofString "__firstlineno__") 289, val := Value.int 15 288 },
              { hash := PyData.keyHash P (Str.ofString "__static_attributes__"),
                key := Value.str (Str.ofString "__static_attributes__") 290, val := Value.ref 90 },
              { hash := PyData.keyHash P (Str.ofString "__doc__"), key := Value.str (Str.ofString "__doc__") 291,
                val := Value.none }]
            2 }),
    (92,
      { cls := Value.type "type",
        data :=
          Data.cls
            { name := Str.ofString "Twice", bases := [Value.ref 31],
              mro :=
                [Value.ref 92, Value.ref 31, Value.type "ValueError", Value.type "Exception",
                  Value.type "BaseException", Value.type "object"],
              ns := 91, qualname := Str.ofString "Twice" },
        slots :=
          #[some (Value.ref 83), none, some (Value.str (Str.ofString "Twice") 278),
            some (Value.str (Str.ofString "Twice") 286), some (Value.builtin "ValueError.__new__"),
            some (Value.bool true)] }),
    (103,
      { cls := Value.type "dict",
        data :=
          Data.dict
            #[{ hash := PyData.keyHash P (Str.ofString "__module__"), key := Value.str (Str.ofString "__module__") 301,
                val := Value.str (Str.ofString "onebell.errors") 194 },
              { hash := PyData.keyHash P (Str.ofString "__firstlineno__"),
                key := Value.str (Str.ofString "__firstlineno__") 305, val := Value.int 17 304 },
              { hash := PyData.keyHash P (Str.ofString "__static_attributes__"),
                key := Value.str (Str.ofString "__static_attributes__") 306, val := Value.ref 102 },
              { hash := PyData.keyHash P (Str.ofString "__doc__"), key := Value.str (Str.ofString "__doc__") 307,
                val := Value.none }]
            2 }),
    (104,
      { cls := Value.type "type",
        data :=
          Data.cls
            { name := Str.ofString "NotOpen", bases := [Value.ref 31],
              mro :=
                [Value.ref 104, Value.ref 31, Value.type "ValueError", Value.type "Exception",
                  Value.type "BaseException", Value.type "object"],
              ns := 103, qualname := Str.ofString "NotOpen" },
        slots :=
          #[some (Value.ref 95), none, some (Value.str (Str.ofString "NotOpen") 294),
            some (Value.str (Str.ofString "NotOpen") 302), some (Value.builtin "ValueError.__new__"),
            some (Value.bool true)] }),
    (115,
      { cls := Value.type "dict",
        data :=
          Data.dict
            #[{ hash := PyData.keyHash P (Str.ofString "__module__"), key := Value.str (Str.ofString "__module__") 317,
                val := Value.str (Str.ofString "onebell.errors") 194 },
              { hash := PyData.keyHash P (Str.ofString "__firstlineno__"),
                key := Value.str (Str.ofString "__firstlineno__") 321, val := Value.int 19 320 },
              { hash := PyData.keyHash P (Str.ofString "__static_attributes__"),
                key := Value.str (Str.ofString "__static_attributes__") 322, val := Value.ref 114 },
              { hash := PyData.keyHash P (Str.ofString "__doc__"), key := Value.str (Str.ofString "__doc__") 323,
                val := Value.none }]
            2 }),
    (116,
      { cls := Value.type "type",
        data :=
          Data.cls
            { name := Str.ofString "BadMark", bases := [Value.ref 31],
              mro :=
                [Value.ref 116, Value.ref 31, Value.type "ValueError", Value.type "Exception",
                  Value.type "BaseException", Value.type "object"],
              ns := 115, qualname := Str.ofString "BadMark" },
        slots :=
          #[some (Value.ref 107), none, some (Value.str (Str.ofString "BadMark") 310),
            some (Value.str (Str.ofString "BadMark") 318), some (Value.builtin "ValueError.__new__"),
            some (Value.bool true)] }),
    (127,
      { cls := Value.type "dict",
        data :=
          Data.dict
            #[{ hash := PyData.keyHash P (Str.ofString "__module__"), key := Value.str (Str.ofString "__module__") 333,
                val := Value.str (Str.ofString "onebell.errors") 194 },
              { hash := PyData.keyHash P (Str.ofString "__firstlineno__"),
                key := Value.str (Str.ofString "__firstlineno__") 337, val := Value.int 21 336 },
              { hash := PyData.keyHash P (Str.ofString "__static_attributes__"),
                key := Value.str (Str.ofString "__static_attributes__") 338, val := Value.ref 126 },
              { hash := PyData.keyHash P (Str.ofString "__doc__"), key := Value.str (Str.ofString "__doc__") 339,
                val := Value.none }]
            2 }),
    (128,
      { cls := Value.type "type",
        data :=
          Data.cls
            { name := Str.ofString "NoNote", bases := [Value.ref 31],
              mro :=
                [Value.ref 128, Value.ref 31, Value.type "ValueError", Value.type "Exception",
                  Value.type "BaseException", Value.type "object"],
              ns := 127, qualname := Str.ofString "NoNote" },
        slots :=
          #[some (Value.ref 119), none, some (Value.str (Str.ofString "NoNote") 326),
            some (Value.str (Str.ofString "NoNote") 334), some (Value.builtin "ValueError.__new__"),
            some (Value.bool true)] }),
    (157,
      { cls := Value.type "code",
        data :=
          Data.fields
            #[Value.str (Str.ofString "__init__") 375, Value.str (Str.ofString "Desk.__init__") 376,
              Value.str (Str.ofString "/claim/cut.py") 377, Value.int 37 0, Value.int 2 0, Value.int 0 0, Value.int 0 0,
              Value.int 3 0, Value.ref 152, Value.bool true, Value.int 181 0, Value.ref 153, Value.none, Value.ref 154,
              Value.ref 155, Value.ref 156, Value.int 380 0, Value.int 37 0,
              Value.str (Str.ofString "/claim/cut.py") 381] }),
    (158, methObj PySem.Challenge.pw_uf050023_06 "Desk" "__init__" "Desk.__init__" (Value.str (Str.ofString "onebell.desk") 361) (.ref 157)),
    (164,
      { cls := Value.type "code",
        data :=
          Data.fields
            #[Value.str (Str.ofString "propose") 383, Value.str (Str.ofString "Desk.propose") 384,
              Value.str (Str.ofString "/claim/cut.py") 385, Value.int 44 0, Value.int 2 0, Value.int 0 0, Value.int 0 0,
              Value.int 3 0, Value.ref 159, Value.bool true, Value.int 181 0, Value.ref 160, Value.none, Value.ref 161,
              Value.ref 162, Value.ref 163, Value.int 388 0, Value.int 44 0,
              Value.str (Str.ofString "/claim/cut.py") 389] }),
    (165, methObj PySem.Challenge.pw_uf050023_06 "Desk" "propose" "Desk.propose" (Value.str (Str.ofString "onebell.desk") 361) (.ref 164)),
    (171,
      { cls := Value.type "code",
        data :=
          Data.fields
            #[Value.str (Str.ofString "open_place") 391, Value.str (Str.ofString "Desk.open_place") 392,
              Value.str (Str.ofString "/claim/cut.py") 393, Value.int 52 0, Value.int 2 0, Value.int 0 0, Value.int 0 0,
              Value.int 3 0, Value.ref 166, Value.bool true, Value.int 181 0, Value.ref 167, Value.none, Value.ref 168,
              Value.ref 169, Value.ref 170, Value.int 397 0, Value.int 52 0,
              Value.str (Str.ofString "/claim/cut.py") 398] }),
    (172, methObj PySem.Challenge.pw_uf050023_06 "Desk" "open_place" "Desk.open_place" (Value.str (Str.ofString "onebell.desk") 361) (.ref 171)),
    (178,
      { cls := Value.type "code",
        data :=
          Data.fields
            #[Value.str (Str.ofString "settle") 400, Value.str (Str.ofString "Desk.settle") 401,
              Value.str (Str.ofString "/claim/cut.py") 402, Value.int 58 0, Value.int 3 0, Value.int 0 0, Value.int 0 0,
              Value.int 3 0, Value.ref 173, Value.bool true, Value.int 181 0, Value.ref 174, Value.none, Value.ref 175,
              Value.ref 176, Value.ref 177, Value.int 409 0, Value.int 58 0,
              Value.str (Str.ofString "/claim/cut.py") 410] }),
    (179, methObj PySem.Challenge.pw_uf050023_06 "Desk" "settle" "Desk.settle" (Value.str (Str.ofString "onebell.desk") 361) (.ref 178)),
    (185,
      { cls := Value.type "code",
        data :=
          Data.fields
            #[Value.str (Str.ofString "least_place") 412, Value.str (Str.ofString "Desk.least_place") 413,
              Value.str (Str.ofString "/claim/cut.py") 414, Value.int 73 0, Value.int 1 0, Value.int 0 0, Value.int 0 0,
              Value.int 3 0, Value.ref 180, Value.bool true, Value.int 181 0, Value.ref 181, Value.none, Value.ref 182,
              Value.ref 183, Value.ref 184, Value.int 418 0, Value.int 73 0,
              Value.str (Str.ofString "/claim/cut.py") 419] }),
    (186, methObj PySem.Challenge.pw_uf050023_06 "Desk" "least_place" "Desk.least_place" (Value.str (Str.ofString "onebell.desk") 361) (.ref 185)),
    (192,
      { cls := Value.type "code",
        data :=
          Data.fields
            #[Value.str (Str.ofString "waiting") 421, Value.str (Str.ofString "Desk.waiting") 422,
              Value.str (Str.ofString "/claim/cut.py") 423, Value.int 82 0, Value.int 1 0, Value.int 0 0, Value.int 0 0,
              Value.int 3 0, Value.ref 187, Value.bool true, Value.int 181 0, Value.ref 188, Value.none, Value.ref 189,
              Value.ref 190, Value.ref 191, Value.int 425 0, Value.int 82 0,
              Value.str (Str.ofString "/claim/cut.py") 426] }),
    (193, methObj PySem.Challenge.pw_uf050023_06 "Desk" "waiting" "Desk.waiting" (Value.str (Str.ofString "onebell.desk") 361) (.ref 192)),
    (199,
      { cls := Value.type "code",
        data :=
          Data.fields
            #[Value.str (Str.ofString "handed") 428, Value.str (Str.ofString "Desk.handed") 429,
              Value.str (Str.ofString "/claim/cut.py") 430, Value.int 85 0, Value.int 1 0, Value.int 0 0, Value.int 0 0,
              Value.int 3 0, Value.ref 194, Value.bool true, Value.int 181 0, Value.ref 195, Value.none, Value.ref 196,
              Value.ref 197, Value.ref 198, Value.int 432 0, Value.int 85 0,
              Value.str (Str.ofString "/claim/cut.py") 433] }),
    (200, methObj PySem.Challenge.pw_uf050023_06 "Desk" "handed" "Desk.handed" (Value.str (Str.ofString "onebell.desk") 361) (.ref 199)),
    (206,
      { cls := Value.type "code",
        data :=
          Data.fields
            #[Value.str (Str.ofString "clock") 435, Value.str (Str.ofString "Desk.clock") 436,
              Value.str (Str.ofString "/claim/cut.py") 437, Value.int 88 0, Value.int 1 0, Value.int 0 0, Value.int 0 0,
              Value.int 3 0, Value.ref 201, Value.bool true, Value.int 181 0, Value.ref 202, Value.none, Value.ref 203,
              Value.ref 204, Value.ref 205, Value.int 439 0, Value.int 88 0,
              Value.str (Str.ofString "/claim/cut.py") 440] }),
    (207, methObj PySem.Challenge.pw_uf050023_06 "Desk" "clock" "Desk.clock" (Value.str (Str.ofString "onebell.desk") 361) (.ref 206)),
    (209,
      { cls := Value.type "dict",
        data :=
          Data.dict
            #[{ hash := PyData.keyHash P (Str.ofString "__module__"), key := Value.str (Str.ofString "__module__") 370,
                val := Value.str (Str.ofString "onebell.desk") 361 },
              { hash := PyData.keyHash P (Str.ofString "__firstlineno__"),
                key := Value.str (Str.ofString "__firstlineno__") 374, val := Value.int 35 373 },
              { hash := PyData.keyHash P (Str.ofString "__init__"), key := Value.str (Str.ofString "__init__") 382,
                val := Value.ref 158 },
              { hash := PyData.keyHash P (Str.ofString "propose"), key := Value.str (Str.ofString "propose") 390,
                val := Value.ref 165 },
              { hash := PyData.keyHash P (Str.ofString "open_place"), key := Value.str (Str.ofString "open_place") 399,
                val := Value.ref 172 },
              { hash := PyData.keyHash P (Str.ofString "settle"), key := Value.str (Str.ofString "settle") 411,
                val := Value.ref 179 },
              { hash := PyData.keyHash P (Str.ofString "least_place"),
                key := Value.str (Str.ofString "least_place") 420, val := Value.ref 186 },
              { hash := PyData.keyHash P (Str.ofString "waiting"), key := Value.str (Str.ofString "waiting") 427,
                val := Value.ref 193 },
              { hash := PyData.keyHash P (Str.ofString "handed"), key := Value.str (Str.ofString "handed") 434,
                val := Value.ref 200 },
              { hash := PyData.keyHash P (Str.ofString "clock"), key := Value.str (Str.ofString "clock") 441,
                val := Value.ref 207 },
              { hash := PyData.keyHash P (Str.ofString "__static_attributes__"),
                key := Value.str (Str.ofString "__static_attributes__") 447, val := Value.ref 208 },
              { hash := PyData.keyHash P (Str.ofString "__dict__"), key := Value.str (Str.ofString "__dict__") 449,
                val := Value.ref 211 },
              { hash := PyData.keyHash P (Str.ofString "__weakref__"),
                key := Value.str (Str.ofString "__weakref__") 451, val := Value.ref 212 },
              { hash := PyData.keyHash P (Str.ofString "__doc__"), key := Value.str (Str.ofString "__doc__") 452,
                val := Value.none }]
            4 }),
    (210,
      { cls := Value.type "type",
        data :=
          Data.cls
            { name := Str.ofString "Desk", bases := [Value.type "object"], mro := [Value.ref 210, Value.type "object"],
              ns := 209, qualname := Str.ofString "Desk" },
        slots :=
          #[none, none, some (Value.str (Str.ofString "Desk") 363), some (Value.str (Str.ofString "Desk") 371),
            some (Value.builtin "object.__new__"), some (Value.bool true)] }),
    (232,
      { cls := Value.type "code",
        data :=
          Data.fields
            #[Value.str (Str.ofString "__init__") 479, Value.str (Str.ofString "House.__init__") 480,
              Value.str (Str.ofString "/claim/cut.py") 481, Value.int 96 0, Value.int 2 0, Value.int 0 0, Value.int 0 0,
              Value.int 3 0, Value.ref 229, Value.bool true, Value.int 181 0, Value.ref 230, Value.none, Value.none,
              Value.none, Value.ref 231, Value.int 482 0, Value.int 96 0,
              Value.str (Str.ofString "/claim/cut.py") 483] }),
    (233, methObj PySem.Challenge.pw_uf050023_06 "House" "__init__" "House.__init__" (Value.str (Str.ofString "onebell.house") 455) (.ref 232)),
    (239,
      { cls := Value.type "code",
        data :=
          Data.fields
            #[Value.str (Str.ofString "need_hand") 485, Value.str (Str.ofString "House.need_hand") 486,
              Value.str (Str.ofString "/claim/cut.py") 487, Value.int 106 0, Value.int 2 0, Value.int 0 0,
              Value.int 0 0, Value.int 3 0, Value.ref 234, Value.bool true, Value.int 181 0, Value.ref 235, Value.none,
              Value.ref 236, Value.ref 237, Value.ref 238, Value.int 490 0, Value.int 106 0,
              Value.str (Str.ofString "/claim/cut.py") 491] }),
    (240, methObj PySem.Challenge.pw_uf050023_06 "House" "need_hand" "House.need_hand" (Value.str (Str.ofString "onebell.house") 455) (.ref 239)),
    (246,
      { cls := Value.type "code",
        data :=
          Data.fields
            #[Value.str (Str.ofString "need_letter") 493, Value.str (Str.ofString "House.need_letter") 494,
              Value.str (Str.ofString "/claim/cut.py") 495, Value.int 110 0, Value.int 2 0, Value.int 0 0,
              Value.int 0 0, Value.int 3 0, Value.ref 241, Value.bool true, Value.int 181 0, Value.ref 242, Value.none,
              Value.ref 243, Value.ref 244, Value.ref 245, Value.int 498 0, Value.int 110 0,
              Value.str (Str.ofString "/claim/cut.py") 499] }),
    (247, methObj PySem.Challenge.pw_uf050023_06 "House" "need_letter" "House.need_letter" (Value.str (Str.ofString "onebell.house") 455) (.ref 246)),
    (253,
      { cls := Value.type "code",
        data :=
          Data.fields
            #[Value.str (Str.ofString "to_others") 501, Value.str (Str.ofString "House.to_others") 502,
              Value.str (Str.ofString "/claim/cut.py") 503, Value.int 114 0, Value.int 4 0, Value.int 0 0,
              Value.int 0 0, Value.int 3 0, Value.ref 248, Value.bool true, Value.int 181 0, Value.ref 249, Value.none,
              Value.ref 250, Value.ref 251, Value.ref 252, Value.int 510 0, Value.int 114 0,
              Value.str (Str.ofString "/claim/cut.py") 511] }),
    (254, methObj PySem.Challenge.pw_uf050023_06 "House" "to_others" "House.to_others" (Value.str (Str.ofString "onebell.house") 455) (.ref 253)),
    (260,
      { cls := Value.type "code",
        data :=
          Data.fields
            #[Value.str (Str.ofString "send") 513, Value.str (Str.ofString "House.send") 514,
              Value.str (Str.ofString "/claim/cut.py") 515, Value.int 120 0, Value.int 3 0, Value.int 0 0,
              Value.int 0 0, Value.int 3 0, Value.ref 255, Value.bool true, Value.int 181 0, Value.ref 256, Value.none,
              Value.ref 257, Value.ref 258, Value.ref 259, Value.int 520 0, Value.int 120 0,
              Value.str (Str.ofString "/claim/cut.py") 521] }),
    (261, methObj PySem.Challenge.pw_uf050023_06 "House" "send" "House.send" (Value.str (Str.ofString "onebell.house") 455) (.ref 260)),
    (267,
      { cls := Value.type "code",
        data :=
          Data.fields
            #[Value.str (Str.ofString "close") 523, Value.str (Str.ofString "House.close") 524,
              Value.str (Str.ofString "/claim/cut.py") 525, Value.int 131 0, Value.int 2 0, Value.int 0 0,
              Value.int 0 0, Value.int 3 0, Value.ref 262, Value.bool true, Value.int 181 0, Value.ref 263, Value.none,
              Value.ref 264, Value.ref 265, Value.ref 266, Value.int 529 0, Value.int 131 0,
              Value.str (Str.ofString "/claim/cut.py") 530] }),
    (268, methObj PySem.Challenge.pw_uf050023_06 "House" "close" "House.close" (Value.str (Str.ofString "onebell.house") 455) (.ref 267)),
    (274,
      { cls := Value.type "code",
        data :=
          Data.fields
            #[Value.str (Str.ofString "mails") 532, Value.str (Str.ofString "House.mails") 533,
              Value.str (Str.ofString "/claim/cut.py") 534, Value.int 139 0, Value.int 1 0, Value.int 0 0,
              Value.int 0 0, Value.int 3 0, Value.ref 269, Value.bool true, Value.int 181 0, Value.ref 270, Value.none,
              Value.ref 271, Value.ref 272, Value.ref 273, Value.int 536 0, Value.int 139 0,
              Value.str (Str.ofString "/claim/cut.py") 537] }),
    (275, methObj PySem.Challenge.pw_uf050023_06 "House" "mails" "House.mails" (Value.str (Str.ofString "onebell.house") 455) (.ref 274)),
    (281,
      { cls := Value.type "code",
        data :=
          Data.fields
            #[Value.str (Str.ofString "bring") 539, Value.str (Str.ofString "House.bring") 540,
              Value.str (Str.ofString "/claim/cut.py") 541, Value.int 142 0, Value.int 2 0, Value.int 0 0,
              Value.int 0 0, Value.int 3 0, Value.ref 276, Value.bool true, Value.int 181 0, Value.ref 277, Value.none,
              Value.ref 278, Value.ref 279, Value.ref 280, Value.int 548 0, Value.int 142 0,
              Value.str (Str.ofString "/claim/cut.py") 549] }),
    (282, methObj PySem.Challenge.pw_uf050023_06 "House" "bring" "House.bring" (Value.str (Str.ofString "onebell.house") 455) (.ref 281)),
    (288,
      { cls := Value.type "code",
        data :=
          Data.fields
            #[Value.str (Str.ofString "rest") 551, Value.str (Str.ofString "House.rest") 552,
              Value.str (Str.ofString "/claim/cut.py") 553, Value.int 158 0, Value.int 1 0, Value.int 0 0,
              Value.int 0 0, Value.int 3 0, Value.ref 283, Value.bool true, Value.int 181 0, Value.ref 284, Value.none,
              Value.ref 285, Value.ref 286, Value.ref 287, Value.int 555 0, Value.int 158 0,
              Value.str (Str.ofString "/claim/cut.py") 556] }),
    (289, methObj PySem.Challenge.pw_uf050023_06 "House" "rest" "House.rest" (Value.str (Str.ofString "onebell.house") 455) (.ref 288)),
    (295,
      { cls := Value.type "code",
        data :=
          Data.fields
            #[Value.str (Str.ofString "letters") 558, Value.str (Str.ofString "House.letters") 559,
              Value.str (Str.ofString "/claim/cut.py") 560, Value.int 161 0, Value.int 1 0, Value.int 0 0,
              Value.int 0 0, Value.int 3 0, Value.ref 290, Value.bool true, Value.int 181 0, Value.ref 291, Value.none,
              Value.ref 292, Value.ref 293, Value.ref 294, Value.int 562 0, Value.int 161 0,
              Value.str (Str.ofString "/claim/cut.py") 563] }),
    (296, methObj PySem.Challenge.pw_uf050023_06 "House" "letters" "House.letters" (Value.str (Str.ofString "onebell.house") 455) (.ref 295)),
    (302,
      { cls := Value.type "code",
        data :=
          Data.fields
            #[Value.str (Str.ofString "sender") 565, Value.str (Str.ofString "House.sender") 566,
              Value.str (Str.ofString "/claim/cut.py") 567, Value.int 164 0, Value.int 2 0, Value.int 0 0,
              Value.int 0 0, Value.int 3 0, Value.ref 297, Value.bool true, Value.int 181 0, Value.ref 298, Value.none,
              Value.ref 299, Value.ref 300, Value.ref 301, Value.int 570 0, Value.int 164 0,
              Value.str (Str.ofString "/claim/cut.py") 571] }),
    (303, methObj PySem.Challenge.pw_uf050023_06 "House" "sender" "House.sender" (Value.str (Str.ofString "onebell.house") 455) (.ref 302)),
    (309,
      { cls := Value.type "code",
        data :=
          Data.fields
            #[Value.str (Str.ofString "text") 573, Value.str (Str.ofString "House.text") 574,
              Value.str (Str.ofString "/claim/cut.py") 575, Value.int 168 0, Value.int 2 0, Value.int 0 0,
              Value.int 0 0, Value.int 3 0, Value.ref 304, Value.bool true, Value.int 181 0, Value.ref 305, Value.none,
              Value.ref 306, Value.ref 307, Value.ref 308, Value.int 578 0, Value.int 168 0,
              Value.str (Str.ofString "/claim/cut.py") 579] }),
    (310, methObj PySem.Challenge.pw_uf050023_06 "House" "text" "House.text" (Value.str (Str.ofString "onebell.house") 455) (.ref 309)),
    (316,
      { cls := Value.type "code",
        data :=
          Data.fields
            #[Value.str (Str.ofString "mark") 581, Value.str (Str.ofString "House.mark") 582,
              Value.str (Str.ofString "/claim/cut.py") 583, Value.int 172 0, Value.int 2 0, Value.int 0 0,
              Value.int 0 0, Value.int 3 0, Value.ref 311, Value.bool true, Value.int 181 0, Value.ref 312, Value.none,
              Value.ref 313, Value.ref 314, Value.ref 315, Value.int 586 0, Value.int 172 0,
              Value.str (Str.ofString "/claim/cut.py") 587] }),
    (317, methObj PySem.Challenge.pw_uf050023_06 "House" "mark" "House.mark" (Value.str (Str.ofString "onebell.house") 455) (.ref 316)),
    (323,
      { cls := Value.type "code",
        data :=
          Data.fields
            #[Value.str (Str.ofString "handed") 589, Value.str (Str.ofString "House.handed") 590,
              Value.str (Str.ofString "/claim/cut.py") 591, Value.int 176 0, Value.int 2 0, Value.int 0 0,
              Value.int 0 0, Value.int 3 0, Value.ref 318, Value.bool true, Value.int 181 0, Value.ref 319, Value.none,
              Value.ref 320, Value.ref 321, Value.ref 322, Value.int 594 0, Value.int 176 0,
              Value.str (Str.ofString "/claim/cut.py") 595] }),
    (324, methObj PySem.Challenge.pw_uf050023_06 "House" "handed" "House.handed" (Value.str (Str.ofString "onebell.house") 455) (.ref 323)),
    (330,
      { cls := Value.type "code",
        data :=
          Data.fields
            #[Value.str (Str.ofString "clock") 597, Value.str (Str.ofString "House.clock") 598,
              Value.str (Str.ofString "/claim/cut.py") 599, Value.int 180 0, Value.int 2 0, Value.int 0 0,
              Value.int 0 0, Value.int 3 0, Value.ref 325, Value.bool true, Value.int 181 0, Value.ref 326, Value.none,
              Value.ref 327, Value.ref 328, Value.ref 329, Value.int 602 0, Value.int 180 0,
              Value.str (Str.ofString "/claim/cut.py") 603] }),
    (331, methObj PySem.Challenge.pw_uf050023_06 "House" "clock" "House.clock" (Value.str (Str.ofString "onebell.house") 455) (.ref 330)),
    (333,
      { cls := Value.type "dict",
        data :=
          Data.dict
            #[{ hash := PyData.keyHash P (Str.ofString "__module__"), key := Value.str (Str.ofString "__module__") 474,
                val := Value.str (Str.ofString "onebell.house") 455 },
              { hash := PyData.keyHash P (Str.ofString "__firstlineno__"),
                key := Value.str (Str.ofString "__firstlineno__") 478, val := Value.int 94 477 },
              { hash := PyData.keyHash P (Str.ofString "__init__"), key := Value.str (Str.ofString "__init__") 484,
                val := Value.ref 233 },
              { hash := PyData.keyHash P (Str.ofString "need_hand"), key := Value.str (Str.ofString "need_hand") 492,
                val := Value.ref 240 },
              { hash := PyData.keyHash P (Str.ofString "need_letter"),
                key := Value.str (Str.ofString "need_letter") 500, val := Value.ref 247 },
              { hash := PyData.keyHash P (Str.ofString "to_others"), key := Value.str (Str.ofString "to_others") 512,
                val := Value.ref 254 },
              { hash := PyData.keyHash P (Str.ofString "send"), key := Value.str (Str.ofString "send") 522,
                val := Value.ref 261 },
              { hash := PyData.keyHash P (Str.ofString "close"), key := Value.str (Str.ofString "close") 531,
                val := Value.ref 268 },
              { hash := PyData.keyHash P (Str.ofString "mails"), key := Value.str (Str.ofString "mails") 538,
                val := Value.ref 275 },
              { hash := PyData.keyHash P (Str.ofString "bring"), key := Value.str (Str.ofString "bring") 550,
                val := Value.ref 282 },
              { hash := PyData.keyHash P (Str.ofString "rest"), key := Value.str (Str.ofString "rest") 557,
                val := Value.ref 289 },
              { hash := PyData.keyHash P (Str.ofString "letters"), key := Value.str (Str.ofString "letters") 564,
                val := Value.ref 296 },
              { hash := PyData.keyHash P (Str.ofString "sender"), key := Value.str (Str.ofString "sender") 572,
                val := Value.ref 303 },
              { hash := PyData.keyHash P (Str.ofString "text"), key := Value.str (Str.ofString "text") 580,
                val := Value.ref 310 },
              { hash := PyData.keyHash P (Str.ofString "mark"), key := Value.str (Str.ofString "mark") 588,
                val := Value.ref 317 },
              { hash := PyData.keyHash P (Str.ofString "handed"), key := Value.str (Str.ofString "handed") 596,
                val := Value.ref 324 },
              { hash := PyData.keyHash P (Str.ofString "clock"), key := Value.str (Str.ofString "clock") 604,
                val := Value.ref 331 },
              { hash := PyData.keyHash P (Str.ofString "__static_attributes__"),
                key := Value.str (Str.ofString "__static_attributes__") 611, val := Value.ref 332 },
              { hash := PyData.keyHash P (Str.ofString "__dict__"), key := Value.str (Str.ofString "__dict__") 613,
                val := Value.ref 335 },
              { hash := PyData.keyHash P (Str.ofString "__weakref__"),
                key := Value.str (Str.ofString "__weakref__") 615, val := Value.ref 336 },
              { hash := PyData.keyHash P (Str.ofString "__doc__"), key := Value.str (Str.ofString "__doc__") 616,
                val := Value.none }]
            4 }),
    (334,
      { cls := Value.type "type",
        data :=
          Data.cls
            { name := Str.ofString "House", bases := [Value.type "object"], mro := [Value.ref 334, Value.type "object"],
              ns := 333, qualname := Str.ofString "House" },
        slots :=
          #[none, none, some (Value.str (Str.ofString "House") 467), some (Value.str (Str.ofString "House") 475),
            some (Value.builtin "object.__new__"), some (Value.bool true)] })]
theorem k06 : ∀ P, [3, 30, 31, 43, 44, 55, 56, 67, 68, 79, 80, 91, 92, 103, 104, 115, 116, 127, 128, 157, 158, 164, 165, 171, 172, 178, 179, 185, 186, 192, 193, 199, 200, 206, 207, 209, 210, 232, 233, 239, 240, 246, 247, 253, 254, 260, 261, 267, 268, 274, 275, 281, 282, 288, 289, 295, 296, 302, 303, 309, 310, 316, 317, 323, 324, 330, 331, 333, 334] = (K06 P).map (·.1) := fun P => by kernel_rfl
noncomputable def hk06 : Hook := kHook K06 [3, 30, 31, 43, 44, 55, 56, 67, 68, 79, 80, 91, 92, 103, 104, 115, 116, 127, 128, 157, 158, 164, 165, 171, 172, 178, 179, 185, 186, 192, 193, 199, 200, 206, 207, 209, 210, 232, 233, 239, 240, 246, 247, 253, 254, 260, 261, 267, 268, 274, 275, 281, 282, 288, 289, 295, 296, 302, 303, 309, 310, 316, 317, 323, 324, 330, 331, 333, 334] k06
noncomputable def q06 : Program := view PySem.Challenge.pw_uf050023_06 [0, 2, 3, 4, 5, 6, 7, 8, 9, 10, 12, 13, 15, 17, 18, 19, 21, 22, 23, 24, 25, 26, 27, 28, 29, 30, 31, 32]
theorem left06a (w : World) : (openEnds treeTable PySem.Challenge.pw_uf050023_06 w 7236).map (fun s => (seen ((recsOf q06).map (·.name)) (ownsOf q06) [] { s with gens := #[] }, s.heap.bltView, pinSeenD q06 (drecsOf q06) s, plainSeenD q06 [] s, Hook.obs hk06 s)) = some (expectedOf q06, bltViewBooted, pinGoodD (drecsOf q06), plainGoodD q06 [], Hook.val hk06 w) := by kernel_rfl
theorem left06b (w : World) : (openEnds treeTable PySem.Challenge.pw_uf050023_06 w 7236).map (fun s => (s.heap.keysOk (looseW q06 []) ((recsOf q06).map (·.name)) ((litsOf q06).map (·.1)) ((clssOf q06 (looseW q06 [])).map (·.name)) && s.heap.accountedOkI (importedModules PySem.Challenge.pw_uf050023_06.main.body) && s.heap.isNs mainGlobals && s.heap.isNs builtinsNs && tablesOk q06 s.heap && (fun s => xlAt q06 [] s && recOk (RowW.records (OpenRow.toRowW PySem.Challenge.rw_uf050023_06.row)) s) s && (if true then s.gens.size == 0 else !leftWithCleanup s.gens), tabsOk q06 s, wideSeen q06 s, clsSeenW q06 [] s)) = some (true, true, wideGood q06, clsGoodW q06 []) := by kernel_rfl
theorem left06c (w : World) : (openEnds treeTable PySem.Challenge.pw_uf050023_06 w 7236).map (fun s => (plainSeenE q06 (looseW q06 []) s)) = some (plainGoodE q06 (looseW q06 [])) := by kernel_rfl
theorem left_join {ε α₁ α₂ α₃ α₄ α₅ α₆ α₇ α₈ α₉ α₁₀ : Type} {o : Option ε} {f₁ : ε → α₁} {f₂ : ε → α₂} {f₃ : ε → α₃} {f₄ : ε → α₄} {f₅ : ε → α₅} {f₆ : ε → α₆} {f₇ : ε → α₇} {f₈ : ε → α₈} {f₉ : ε → α₉} {f₁₀ : ε → α₁₀} {a₁ : α₁} {a₂ : α₂} {a₃ : α₃} {a₄ : α₄} {a₅ : α₅} {a₆ : α₆} {a₇ : α₇} {a₈ : α₈} {a₉ : α₉} {a₁₀ : α₁₀}
    (h1 : o.map (fun s => (f₁ s, f₂ s, f₅ s, f₇ s, f₁₀ s)) = some (a₁, a₂, a₅, a₇, a₁₀)) (h2 : o.map (fun s => (f₃ s, f₄ s, f₈ s, f₉ s)) = some (a₃, a₄, a₈, a₉)) (h3 : o.map (fun s => (f₆ s)) = some (a₆)) :
    o.map (fun s => ((f₁ s, f₂ s, f₃ s, f₄ s, f₅ s, f₆ s, f₇ s, f₈ s, f₉ s), f₁₀ s)) = some ((a₁, a₂, a₃, a₄, a₅, a₆, a₇, a₈, a₉), a₁₀) := by
  cases o with
  | none => cases h1
  | some s =>
    cases Option.some.inj h1
    cases Option.some.inj h2
    cases Option.some.inj h3
    rfl
theorem left06 : LeftO PySem.Challenge.pw_uf050023_06 q06 [] (fun s => xlAt q06 [] s && recOk (RowW.records (OpenRow.toRowW PySem.Challenge.rw_uf050023_06.row)) s) (Hook.obs hk06) (Hook.val hk06) 7236 := fun w => left_join (left06a w) (left06b w) (left06c w)
end Mine
set_option maxRecDepth 100000
namespace Mine
open PySem PyProof.Rows

theorem lv {a b n : Nat} (h : b ≤ n) (q : a ≤ b := by decide) : a ≤ n := Nat.le_trans q h
theorem lv1 {a b n : Nat} (h : b ≤ n + 1) (q : a + 1 ≤ b := by decide) : a ≤ n := Nat.le_of_succ_le_succ (Nat.le_trans q h)
theorem lv2 {a b n : Nat} (h : b ≤ n + 2) (q : a + 2 ≤ b := by decide) : a ≤ n := by omega
/-- abstract values: tuples by structure, all else by value (no tokens) -/
inductive AV where
  | none
  | bool (b : Bool)
  | int (i : Int)
  | str (s : Str)
  | tup (vs : List AV)
  | ref (a : Addr)
  | val (v : Value)
  | exn (e : Addr) (cls : Value)
  deriving Inhabited

abbrev Hid := Addr → Option Obj
/-- of the same class, with the same dict -/
noncomputable def Same2 (o' o : Obj) : Prop := o'.cls = o.cls ∧ o'.dict = o.dict
theorem Same2.rfl {o : Obj} : Same2 o o := ⟨Eq.refl _, Eq.refl _⟩
theorem Same2.trans {a b c : Obj} (x : Same2 a b) (y : Same2 b c) : Same2 a c := ⟨x.1.trans y.1, x.2.trans y.2⟩
theorem same2_map (f : Array Value → Array Value) (o : Obj) : Same2 (Obj.mapFields f o) o := by
  obtain ⟨c, d, dt, sl⟩ := o; cases dt <;> exact .rfl
/-- an exception's fields -/
noncomputable def ExcVs (vs : Array Value) : Prop := 5 < vs.size ∧ vs[2]? = some .none

mutual
noncomputable def Rel (H : Hid) (h : Heap) : AV → Value → Prop
  | .none, v => v = .none
  | .bool b, v => v = .bool b
  | .int i, v => ∃ t, v = .int i t
  | .str s, v => ∃ t, v = .str s t
  | .tup vs, v => ∃ a items, v = .ref a ∧ IsTup h a items ∧ H a = none ∧ RelL H h vs items.toList
  | .ref a, v => v = .ref a
  | .val u, v => v = u
  | .exn e cls, v => v = .ref e ∧ ∃ C o vs, cls = .ref C ∧ h.get? e = some o ∧ (o.cls = cls ∧ o.dict = none) ∧ o.data = .fields vs
noncomputable def RelL (H : Hid) (h : Heap) : List AV → List Value → Prop
  | [], vs => vs = []
  | a :: as, vs => ∃ v r, vs = v :: r ∧ Rel H h a v ∧ RelL H h as r
end

/-- tuples stay, records stay records of their class -/
structure Grow (H : Hid) (h h' : Heap) : Prop where
  tup : ∀ a items, H a = none → IsTup h a items → IsTup h' a items
  recs : ∀ a o vs C, h.get? a = some o → o.cls = .ref C → o.data = .fields vs → ∃ o' vs', h'.get? a = some o' ∧ Same2 o' o ∧ o'.data = .fields vs'
theorem Grow.refl (H : Hid) (h : Heap) : Grow H h h := ⟨fun _ _ _ x => x, fun _ o vs _ e _ q => ⟨o, vs, e, .rfl, q⟩⟩
theorem Grow.trans {H : Hid} {h h' h'' : Heap} (x : Grow H h h') (y : Grow H h' h'') : Grow H h h'' :=
  ⟨fun a i n z => y.tup a i n (x.tup a i n z), fun a o vs C e z q => by
    obtain ⟨o', vs', e', c, q'⟩ := x.recs a o vs C e z q
    obtain ⟨o'', vs'', e'', c', q''⟩ := y.recs a o' vs' C e' (c.1.trans z) q'
    exact ⟨o'', vs'', e'', c'.trans c, q''⟩⟩

mutual
theorem Rel.grow {H : Hid} {h h' : Heap} (g : Grow H h h') : ∀ {a : AV} {v : Value}, Rel H h a v → Rel H h' a v
  | .none, _, r => by simpa [Rel] using r
  | .bool _, _, r => by simpa [Rel] using r
  | .int _, _, r => by simpa [Rel] using r
  | .str _, _, r => by simpa [Rel] using r
  | .tup vs, _, r => by
    simp only [Rel] at r ⊢
    obtain ⟨a, items, e, t, n, l⟩ := r
    exact ⟨a, items, e, g.tup a items n t, n, RelL.grow g l⟩
  | .ref _, _, r => by simpa [Rel] using r
  | .val _, _, r => by simpa [Rel] using r
  | .exn _ _, _, r => by
    simp only [Rel] at r ⊢
    obtain ⟨e, C, o, vs, z, a, b, c⟩ := r
    obtain ⟨o', vs', a', b', c'⟩ := g.recs _ o vs C a (b.1.trans z) c
    exact ⟨e, C, o', vs', z, a', ⟨b'.1.trans b.1, b'.2.trans b.2⟩, c'⟩
theorem RelL.grow {H : Hid} {h h' : Heap} (g : Grow H h h') : ∀ {as : List AV} {vs : List Value}, RelL H h as vs → RelL H h' as vs
  | [], _, r => by simpa [RelL] using r
  | a :: as, _, r => by
    simp only [RelL] at r ⊢
    obtain ⟨v, rest, e, r1, r2⟩ := r
    exact ⟨v, rest, e, Rel.grow g r1, RelL.grow g r2⟩
end

theorem RelL.length {H : Hid} {h : Heap} : ∀ {as : List AV} {vs : List Value}, RelL H h as vs → vs.length = as.length
  | [], _, r => by simp only [RelL] at r; subst r; rfl
  | a :: as, _, r => by
    simp only [RelL] at r
    obtain ⟨v, rest, rfl, _, r2⟩ := r
    simp [RelL.length r2]
theorem RelL.get {H : Hid} {h : Heap} : ∀ {as : List AV} {vs : List Value} (i : Nat) {a : AV}, RelL H h as vs → as[i]? = some a → ∃ v, vs[i]? = some v ∧ Rel H h a v
  | [], _, i, a, r, e => by simp at e
  | b :: as, _, i, a, r, e => by
    simp only [RelL] at r
    obtain ⟨v, rest, rfl, r1, r2⟩ := r
    cases i with
    | zero => simp at e; subst e; exact ⟨v, by simp, r1⟩
    | succ i => simp at e; obtain ⟨u, e1, e2⟩ := RelL.get i r2 e; exact ⟨u, by simpa using e1, e2⟩
theorem RelL.append {H : Hid} {h : Heap} : ∀ {as bs : List AV} {vs ws : List Value}, RelL H h as vs → RelL H h bs ws → RelL H h (as ++ bs) (vs ++ ws)
  | [], _, _, _, r, r' => by simp only [RelL] at r; subst r; simpa using r'
  | a :: as, _, _, _, r, r' => by
    simp only [RelL] at r
    obtain ⟨v, rest, rfl, r1, r2⟩ := r
    simp only [List.cons_append, RelL]
    exact ⟨v, _, rfl, r1, RelL.append r2 r'⟩
theorem RelL.one {H : Hid} {h : Heap} {a : AV} {v : Value} (r : Rel H h a v) : RelL H h [a] [v] := by simp only [RelL]; exact ⟨v, [], rfl, r, rfl⟩
theorem RelL.nil {H : Hid} {h : Heap} : RelL H h [] [] := by simp [RelL]
theorem RelL.cons {H : Hid} {h : Heap} {a : AV} {v : Value} {as : List AV} {vs : List Value} (r : Rel H h a v) (rs : RelL H h as vs) : RelL H h (a :: as) (v :: vs) := by
  simp only [RelL]; exact ⟨v, vs, rfl, r, rs⟩
theorem RelL.take {H : Hid} {h : Heap} : ∀ {as : List AV} {vs : List Value} (n : Nat), RelL H h as vs → RelL H h (as.take n) (vs.take n)
  | [], _, n, r => by simp only [RelL] at r; subst r; simp [RelL]
  | a :: as, _, 0, r => by simp [RelL]
  | a :: as, _, n + 1, r => by
    simp only [RelL] at r
    obtain ⟨v, rest, rfl, r1, r2⟩ := r
    simp only [List.take_succ_cons]
    exact RelL.cons r1 (RelL.take n r2)
theorem RelL.drop {H : Hid} {h : Heap} : ∀ {as : List AV} {vs : List Value} (n : Nat), RelL H h as vs → RelL H h (as.drop n) (vs.drop n)
  | [], _, n, r => by simp only [RelL] at r; subst r; simp [RelL]
  | a :: as, _, 0, r => by simpa using r
  | a :: as, _, n + 1, r => by
    simp only [RelL] at r
    obtain ⟨v, rest, rfl, r1, r2⟩ := r
    simpa using RelL.drop n r2
theorem RelL.set {H : Hid} {h : Heap} : ∀ {as : List AV} {vs : List Value} (n : Nat) {a : AV} {v : Value}, RelL H h as vs → Rel H h a v → RelL H h (as.set n a) (vs.set n v)
  | [], _, n, _, _, r, _ => by simp only [RelL] at r; subst r; simp [RelL]
  | a :: as, _, 0, _, _, r, q => by
    simp only [RelL] at r
    obtain ⟨v, rest, rfl, r1, r2⟩ := r
    exact RelL.cons q r2
  | a :: as, _, n + 1, _, _, r, q => by
    simp only [RelL] at r
    obtain ⟨v, rest, rfl, r1, r2⟩ := r
    exact RelL.cons r1 (RelL.set n r2 q)
theorem RelL.eraseIdx {H : Hid} {h : Heap} : ∀ {as : List AV} {vs : List Value} (n : Nat), RelL H h as vs → RelL H h (as.eraseIdx n) (vs.eraseIdx n)
  | [], _, n, r => by simp only [RelL] at r; subst r; simp [RelL]
  | a :: as, _, 0, r => by
    simp only [RelL] at r
    obtain ⟨v, rest, rfl, r1, r2⟩ := r
    simpa using r2
  | a :: as, _, n + 1, r => by
    simp only [RelL] at r
    obtain ⟨v, rest, rfl, r1, r2⟩ := r
    exact RelL.cons r1 (RelL.eraseIdx n r2)

noncomputable def RelO (H : Hid) (h : Heap) : Option AV → Option Value → Prop
  | none, none => True
  | some a, some v => Rel H h a v
  | _, _ => False
theorem RelO.grow {H : Hid} {h h' : Heap} (g : Grow H h h') {a : Option AV} {v : Option Value} (r : RelO H h a v) : RelO H h' a v := by
  cases a <;> cases v <;> simp only [RelO] at r ⊢
  exact r.grow g


mutual
/-- what is hidden may turn, if no tuple of it -/
theorem Rel.dom {H H' : Hid} {h : Heap} (d : ∀ a items, IsTup h a items → H a = none → H' a = none) : ∀ {a : AV} {v : Value}, Rel H h a v → Rel H' h a v
  | .none, _, r => by simpa [Rel] using r
  | .bool _, _, r => by simpa [Rel] using r
  | .int _, _, r => by simpa [Rel] using r
  | .str _, _, r => by simpa [Rel] using r
  | .tup vs, _, r => by
    simp only [Rel] at r ⊢
    obtain ⟨a, items, e, t, n, l⟩ := r
    exact ⟨a, items, e, t, d a items t n, RelL.dom d l⟩
  | .ref _, _, r => by simpa [Rel] using r
  | .val _, _, r => by simpa [Rel] using r
  | .exn _ _, _, r => by simpa [Rel] using r
theorem RelL.dom {H H' : Hid} {h : Heap} (d : ∀ a items, IsTup h a items → H a = none → H' a = none) : ∀ {as : List AV} {vs : List Value}, RelL H h as vs → RelL H' h as vs
  | [], _, r => by simpa [RelL] using r
  | a :: as, _, r => by
    simp only [RelL] at r ⊢
    obtain ⟨v, rest, e, r1, r2⟩ := r
    exact ⟨v, rest, e, Rel.dom d r1, RelL.dom d r2⟩
end
theorem RelO.dom {H H' : Hid} {h : Heap} (d : ∀ a items, IsTup h a items → H a = none → H' a = none) {a : Option AV} {v : Option Value} (r : RelO H h a v) : RelO H' h a v := by
  cases a <;> cases v <;> simp only [RelO] at r ⊢
  exact r.dom d

/-- abstract mutable objects -/
inductive Cell where
  | list (vs : List AV)
  | rlist (vs : List AV)
  | dictI (kvs : List (Int × AV))
  | dictS (kvs : List (Str × AV))
  | inst (C d : Addr)
  | ns (m : List (Str × AV))

/-- ours to change -/
noncomputable def Cell.own : Cell → Bool
  | .rlist _ => false
  | _ => true
abbrev Loc := List (Str × AV)
/-- a name bound -/
noncomputable def putA (x : Str) (a : AV) : Loc → Loc
  | [] => [(x, a)]
  | (y, b) :: r => if y = x then (y, a) :: r else (y, b) :: putA x a r
theorem putA_lookup (x : Str) (a : AV) : ∀ (m : Loc) (y : Str), (putA x a m).lookup y = if y = x then some a else m.lookup y
  | [], y => by
    by_cases q : y = x
    · simp [putA, q]
    · have : (y == x) = false := by simpa using q
      simp [putA, List.lookup_cons, q, this]
  | (z, b) :: r, y => by
    unfold putA
    split
    · rename_i e; subst e
      rw [List.lookup_cons, List.lookup_cons]
      by_cases q : y = z
      · simp [q]
      · have : (y == z) = false := by simpa using q
        simp [this, q]
    · rename_i e
      rw [List.lookup_cons, List.lookup_cons, putA_lookup x a r y]
      by_cases q : y = z
      · subst q; simp [e]
      · have : (y == z) = false := by simpa using q
        simp [this]
abbrev Sto := Addr → Option Cell
/-- a list to read -/
noncomputable def lstOf (σ : Sto) (a : Addr) : Option (List AV) := match σ a with
  | some (.list vs) => some vs
  | some (.rlist vs) => some vs
  | _ => none
theorem lstOf_list {σ : Sto} {a : Addr} {vs : List AV} (h : σ a = some (.list vs)) : lstOf σ a = some vs := by unfold lstOf; rw [h]
noncomputable def upd (σ : Sto) (a : Addr) (c : Cell) : Sto := fun b => if b = a then some c else σ b
theorem upd_same (σ : Sto) (a : Addr) (c : Cell) : upd σ a c a = some c := by simp [upd]
theorem upd_ne {σ : Sto} {a b : Addr} {c : Cell} (h : b ≠ a) : upd σ a c b = σ b := by simp [upd, h]
noncomputable def bnames : List Str := ["len", "range", "isinstance", "max", "min", "int", "str", "list", "dict", "set", "sorted", "all", "enumerate", "zip", "bool", "tuple"]
set_option genInjectivity false in
structure PG where
  prog : Program
  w : World
  T : Heap → Prop
  mg : Str → Option Value
  mb : Str → Option Value
  K : List (Addr × Obj)
  inK : ∀ {h : Heap}, T h → ∀ a o, K.lookup a = some o → h.get? a = some o
  bi : ∀ x : Str, x ≠ "__name__" → mb x = bootBuiltins x
  nob : ∀ x ∈ bnames, mg x = none
  keeps : ∀ {h h' : Heap}, T h → h.StaysIn h' → T h'
  hg : ∀ {h : Heap}, T h → h.Ns mainGlobals mg
  hb : ∀ {h : Heap}, T h → h.Ns builtinsNs mb
  hlim : ∀ {h : Heap}, T h → h.NoLimit
abbrev PG.M (G : PG) : Model := model G.prog G.w

section
variable (G : PG)

noncomputable def ListAt (H : Hid) (h : Heap) (a : Addr) (vs : List AV) : Prop := ∃ items n, h.get? a = some ⟨.type "list", none, .seq items n, #[]⟩ ∧ RelL H h vs items.toList
noncomputable def EntRel (H : Hid) (h : Heap) : List DictEntry → List (Str × AV) → Prop
  | [], [] => True
  | e :: es, kv :: m => (∃ t, e.key = .str kv.1 t) ∧ Rel H h kv.2 e.val ∧ EntRel H h es m
  | _, _ => False
noncomputable def NsAt (H : Hid) (h : Heap) (a : Addr) (m : List (Str × AV)) : Prop := ∃ es n, h.get? a = some ⟨.type "dict", none, .dict es n, #[]⟩ ∧ EntRel H h es.toList m
noncomputable def DictIAt (H : Hid) (h : Heap) (a : Addr) (kvs : List (Int × AV)) : Prop := ∃ vs : List (Int × Value), h.DictOf (intKind G.prog G.w) a vs ∧ vs.map (·.1) = kvs.map (·.1) ∧ RelL H h (kvs.map (·.2)) (vs.map (·.2))
noncomputable def DictSAt (H : Hid) (h : Heap) (a : Addr) (kvs : List (Str × AV)) : Prop := ∃ vs : List (Str × Value), h.DictOf (strKind G.prog G.w) a vs ∧ vs.map (·.1) = kvs.map (·.1) ∧ RelL H h (kvs.map (·.2)) (vs.map (·.2))
noncomputable def CellAt (H : Hid) (h : Heap) (a : Addr) : Cell → Prop
  | .list vs => ListAt H h a vs
  | .rlist vs => ListAt H h a vs
  | .dictI kvs => DictIAt G H h a kvs
  | .dictS kvs => DictSAt G H h a kvs
  | .inst C d => h.get? a = some { cls := .ref C, dict := some d, data := .plain }
  | .ns m => NsAt H h a m

/-- the frame at hand -/
structure FrameAt (H : Hid) (h : Heap) (env : Env) (ρ : Loc) : Prop where
  ns : ∃ m, h.Ns env.locals m ∧ ∀ x, env.kindOf x = some .local → x ≠ ".0" → RelO H h (ρ.lookup x) (m x)
  cells : ∀ x, env.kindOf x = some .cell ∨ env.kindOf x = some .free → ∃ c v, env.cells.lookup x = some c ∧ h.IsCell c v ∧ RelO H h (ρ.lookup x) v
  there : ∀ x ∈ env.cells, ∃ v, h.IsCell x.2 v

structure St (B : Heap) (H : Hid) (env : Env) (ρ : Loc) (σ : Sto) (s : Shared) : Prop where
  keep : B.StaysIn s.heap
  hid : ∀ a o, H a = some o → ∃ sl, s.heap.get? a = some { o with slots := sl } ∧ ((∀ es n, o.data ≠ .dict es n) → sl = o.slots)
  frame : FrameAt H s.heap env ρ
  store : ∀ a c, σ a = some c → CellAt G H s.heap a c ∧ (c.own = true → B.get? a = none) ∧ H a = none ∧ a ≠ env.locals ∧ ∀ x ∈ env.cells, x.2 ≠ a
  root : ∃ o, B.get? mainGlobals = some o
  low : ∀ a c, σ a = some c → c.own = true → mainGlobals < a

structure EnvOk (B : Heap) (H : Hid) (env : Env) : Prop where
  kind : env.scope.kind = .function
  glob : env.globals = mainGlobals
  bltn : env.builtins = builtinsNs
  loc : B.get? env.locals = none ∧ H env.locals = none
  apart : ∀ x ∈ env.cells, x.2 ≠ env.locals
  own : ∀ x ∈ env.cells, B.get? x.2 = none ∧ H x.2 = none

/-- a frame of a def: its cells are its own -/
structure FrameOk (B : Heap) (H : Hid) (env : Env) : Prop extends EnvOk B H env where
  fr : env.frame = some env.locals
  nodup : env.cells.Pairwise fun x y => x.2 ≠ y.2

structure Step (H : Hid) (s s' : Shared) : Prop where
  grow : Grow H s.heap s'.heap
  gens : s'.gens = s.gens
  os : s'.os = s.os
theorem Step.refl (H : Hid) (s : Shared) : Step H s s := ⟨.refl _ _, rfl, rfl⟩
theorem Step.trans {H : Hid} {s s' s'' : Shared} (x : Step H s s') (y : Step H s' s'') : Step H s s'' := ⟨x.grow.trans y.grow, y.gens.trans x.gens, y.os.trans x.os⟩

/-- the frames below: each is hidden -/
noncomputable def FramesIn (B : Heap) (H : Hid) (l : List Env) : Prop := ∀ e ∈ l, e.scope.kind ≠ .module ∧ ∃ L o, e.frame = some L ∧ B.get? L = none ∧ H L = some o ∧ ∃ es n, o.data = .dict es n
structure AOk (B : Heap) (H : Hid) (env : Env) (n : Nat) (A : Around) : Prop where
  depth : A.depth + 4 * n ≤ 900
  units : A.units + 40 * n ≤ 9000
  hand : A.handled = none ∨ n < 10 ∧ ∃ e o vs, A.handled = some (.ref e) ∧ H e = some o ∧ o.data = .fields vs ∧ 5 < vs.size ∧ vs[2]? = some .none
  frames : ∃ fe outer, A.frames = some (fe :: outer) ∧ FramesIn B H outer ∧ (env.frame = some env.locals → fe = env) ∧ (env.frame ≠ some env.locals → FramesIn B H [fe])

/-- an exception that flies: its object -/
structure Mine1 (B : Heap) (H : Hid) (σ : Sto) (a : Addr) : Prop where
  base : B.get? a = none
  hid : H a = none
  sto : σ a = none
structure TbAt (B : Heap) (H : Hid) (σ : Sto) (h : Heap) (e T : Addr) : Prop where
  new : Mine1 B H σ T
  ne : T ≠ e
  at_ : ∃ o ts, h.get? T = some o ∧ o.cls = .type "traceback" ∧ o.data = .fields ts ∧ 3 < ts.size
structure Flies (B : Heap) (H : Hid) (σ : Sto) (h : Heap) (e : Addr) (cls : Value) : Prop where
  new : Mine1 B H σ e
  ncls : ∃ C, cls = .ref C
  at_ : ∃ o vs, h.get? e = some o ∧ (o.cls = cls ∧ o.dict = none) ∧ o.data = .fields vs ∧ ExcVs vs ∧ (vs[1]? = some .none ∨ ∃ T, vs[1]? = some (.ref T) ∧ TbAt B H σ h e T)
structure FliesT (B : Heap) (H : Hid) (σ : Sto) (h : Heap) (e : Addr) (cls : Value) : Prop where
  new : Mine1 B H σ e
  ncls : ∃ C, cls = .ref C
  at_ : ∃ o vs, h.get? e = some o ∧ (o.cls = cls ∧ o.dict = none) ∧ o.data = .fields vs ∧ ExcVs vs ∧ ∃ T, vs[1]? = some (.ref T) ∧ TbAt B H σ h e T
theorem FliesT.flies {B : Heap} {H : Hid} {σ : Sto} {h : Heap} {e : Addr} {cls : Value} (x : FliesT B H σ h e cls) : Flies B H σ h e cls :=
  let ⟨n, c, o, vs, a, b, d, f, T, g⟩ := x; ⟨n, c, o, vs, a, b, d, f, .inr ⟨T, g⟩⟩
abbrev PE := AV → Sto → Prop
abbrev PX := Value → Loc → Sto → Prop

noncomputable def QE (B : Heap) (H : Hid) (env : Env) (ρ : Loc) (Φ : PE) (s : Shared) (v : Value) (s' : Shared) : Prop :=
  ∃ a σ', Rel H s'.heap a v ∧ St G B H env ρ σ' s' ∧ Step H s s' ∧ Φ a σ'
noncomputable def QX (B : Heap) (H : Hid) (env : Env) (Ψ : PX) (s : Shared) (e : Value) (s' : Shared) : Prop :=
  ∃ ea cls ρ' σ', e = .ref ea ∧ Flies B H σ' s'.heap ea cls ∧ St G B H env ρ' σ' s' ∧ Step H s s' ∧ Ψ cls ρ' σ'

/-- a tree of a value has Φ behind it -/
noncomputable def WE (n : Nat) (env : Env) (t : Sem Value) (ρ : Loc) (σ : Sto) (Φ : PE) (Ψ : PX) : Prop :=
  ∀ B H A s, G.T B → EnvOk B H env → AOk B H env n A → St G B H env ρ σ s → wpAny G.M A t (QE G B H env ρ Φ s) (QX G B H env Ψ s) s
noncomputable def WB (n : Nat) (env : Env) (t : Sem Bool) (ρ : Loc) (σ : Sto) (Φ : Bool → Sto → Prop) (Ψ : PX) : Prop :=
  ∀ B H A s, G.T B → EnvOk B H env → AOk B H env n A → St G B H env ρ σ s → wpAny G.M A t (fun b s' => ∃ σ', St G B H env ρ σ' s' ∧ Step H s s' ∧ Φ b σ') (QX G B H env Ψ s) s
/-- a statement's end -/
inductive Fl where
  | next | brk | cont
  | ret (a : AV)
noncomputable def Fl.val : Fl → AV
  | .ret a => a
  | _ => .none
noncomputable def RelF (H : Hid) (h : Heap) : Fl → Flow → Prop
  | .next, f => f = .next
  | .brk, f => f = .brk
  | .cont, f => f = .cont
  | .ret a, f => ∃ v, f = .ret v ∧ Rel H h a v
abbrev PS := Fl → Loc → Sto → Prop
noncomputable def WS (n : Nat) (env : Env) (t : Sem Flow) (ρ : Loc) (σ : Sto) (Φ : PS) (Ψ : PX) : Prop :=
  ∀ B H A s, G.T B → FrameOk B H env → AOk B H env n A → St G B H env ρ σ s →
    wpAny G.M A t (fun f s' => ∃ fl ρ' σ', RelF H s'.heap fl f ∧ St G B H env ρ' σ' s' ∧ Step H s s' ∧ Φ fl ρ' σ') (QX G B H env Ψ s) s

/-- a call: from any frame -/
noncomputable def WC (n : Nat) (f : AV) (args : List AV) (σ : Sto) (Φ : PE) (Ψ : Value → Sto → Prop) : Prop :=
  ∀ B H A env ρ s vs fv, G.T B → EnvOk B H env → AOk B H env n A → St G B H env ρ σ s → RelL H s.heap args vs → Rel H s.heap f fv →
    wpAny G.M A (call fv vs) (QE G B H env ρ Φ s) (QX G B H env (fun c ρ' σ' => ρ' = ρ ∧ Ψ c σ') s) s
end

end Mine
set_option maxRecDepth 100000
namespace Mine
open PySem PyProof.Rows

variable {G : PG}

theorem Grow.of_keep {H : Hid} {h h' : Heap} (k : ∀ b o, h.get? b = some o → h'.get? b = some o) : Grow H h h' := ⟨fun _ _ _ x => x.keeps k, fun a o vs _ e _ q => ⟨o, vs, k a o e, .rfl, q⟩⟩
/-- one object turned that is no tuple and no record -/
theorem Grow.of_keepBut {H : Hid} {h h' : Heap} {a : Addr} (k : ∀ b o, b ≠ a → h.get? b = some o → h'.get? b = some o) (ht : ∀ items, ¬ IsTup h a items) (hr : ∀ o vs, h.get? a = some o → o.data ≠ .fields vs) : Grow H h h' :=
  ⟨fun b i _ x => by
    have nb : b ≠ a := fun e => ht i (e ▸ x)
    obtain ⟨o', ho', r⟩ := x
    exact ⟨o', k b o' nb ho', r⟩,
   fun b o vs _ e _ q => ⟨o, vs, k b o (fun z => hr o vs (z ▸ e) q) e, .rfl, q⟩⟩
theorem EntRel.grow {H : Hid} {h h' : Heap} (g : Grow H h h') : ∀ {es : List DictEntry} {m : List (Str × AV)}, EntRel H h es m → EntRel H h' es m
  | [], [], _ => trivial
  | _ :: _, _ :: _, ⟨a, b, c⟩ => ⟨a, b.grow g, c.grow g⟩
  | [], _ :: _, x => x.elim
  | _ :: _, [], x => x.elim
theorem EntRel.dom {H H' : Hid} {h : Heap} (d : ∀ a items, IsTup h a items → H a = none → H' a = none) : ∀ {es : List DictEntry} {m : List (Str × AV)}, EntRel H h es m → EntRel H' h es m
  | [], [], _ => trivial
  | _ :: _, _ :: _, ⟨a, b, c⟩ => ⟨a, b.dom d, c.dom d⟩
  | [], _ :: _, x => x.elim
  | _ :: _, [], x => x.elim
theorem EntRel.length {H : Hid} {h : Heap} : ∀ {es : List DictEntry} {m : List (Str × AV)}, EntRel H h es m → es.length = m.length
  | [], [], _ => rfl
  | _ :: _, _ :: _, ⟨_, _, c⟩ => by simp [c.length]
  | [], _ :: _, x => x.elim
  | _ :: _, [], x => x.elim

theorem ListAt.keep {H : Hid} {h h' : Heap} {a : Addr} {vs : List AV} (x : ListAt H h a vs) (k : ∀ o, h.get? a = some o → h'.get? a = some o) (g : Grow H h h') : ListAt H h' a vs := by
  obtain ⟨items, n, ho, r⟩ := x
  exact ⟨items, n, k _ ho, r.grow g⟩

theorem CellAt.keep {H : Hid} {h h' : Heap} {a : Addr} {c : Cell} (x : CellAt G H h a c) (k : ∀ o, h.get? a = some o → h'.get? a = some o) (g : Grow H h h') : CellAt G H h' a c := by
  cases c with
  | list vs => exact ListAt.keep x k g
  | rlist vs => exact ListAt.keep x k g
  | dictI kvs =>
    obtain ⟨vs, ⟨o, es, ep, ho, r⟩, e, l⟩ := x
    exact ⟨vs, ⟨o, es, ep, k _ ho, r⟩, e, l.grow g⟩
  | dictS kvs =>
    obtain ⟨vs, ⟨o, es, ep, ho, r⟩, e, l⟩ := x
    exact ⟨vs, ⟨o, es, ep, k _ ho, r⟩, e, l.grow g⟩
  | inst C d => exact k _ x
  | ns m =>
    obtain ⟨es, n, ho, r⟩ := x
    exact ⟨es, n, k _ ho, r.grow g⟩

theorem CellAt.there {H : Hid} {h : Heap} {a : Addr} {c : Cell} (x : CellAt G H h a c) : ∃ o, h.get? a = some o ∧ (∀ items, ¬ IsTup h a items) ∧ ∀ vs, o.data ≠ .fields vs := by
  have nt : ∀ o, h.get? a = some o → o.cls ≠ .type "tuple" → ∀ items, ¬ IsTup h a items := fun o e c items t => by
    obtain ⟨o', e', c', _⟩ := t
    rw [e] at e'; cases e'; exact c c'
  cases c with
  | list vs => obtain ⟨items, n, ho, _⟩ := x; exact ⟨_, ho, nt _ ho (by simp), by simp⟩
  | rlist vs => obtain ⟨items, n, ho, _⟩ := x; exact ⟨_, ho, nt _ ho (by simp), by simp⟩
  | dictI kvs => obtain ⟨vs, ⟨o, es, ep, ho, he, hd, _⟩, _⟩ := x; exact ⟨_, ho, nt _ ho (by rw [he.1]; simp), by simp [hd]⟩
  | dictS kvs => obtain ⟨vs, ⟨o, es, ep, ho, he, hd, _⟩, _⟩ := x; exact ⟨_, ho, nt _ ho (by rw [he.1]; simp), by simp [hd]⟩
  | inst C d => exact ⟨_, x, nt _ x (by simp), by simp⟩
  | ns m => obtain ⟨es, n, ho, _⟩ := x; exact ⟨_, ho, nt _ ho (by simp), by simp⟩

theorem FrameAt.keep {H : Hid} {h h' : Heap} {env : Env} {ρ : Loc} (x : FrameAt H h env ρ) (k : ∀ b o, (b = env.locals ∨ ∃ y ∈ env.cells, y.2 = b) → h.get? b = some o → ∃ sl, h'.get? b = some { o with slots := sl }) (g : Grow H h h') : FrameAt H h' env ρ := by
  obtain ⟨⟨m, ⟨o, es, ep, ho, hd, hs, hf⟩, hm⟩, hc, ht⟩ := x
  refine ⟨⟨m, ?_, fun x e z => (hm x e z).grow g⟩, fun x e => ?_, fun x hx => ?_⟩
  · obtain ⟨sl, ho'⟩ := k _ _ (.inl rfl) ho
    exact ⟨_, es, ep, ho', hd, hs, hf⟩
  · obtain ⟨c, v, e1, ⟨oc, hoc, hdc⟩, r⟩ := hc x e
    obtain ⟨sl, hoc'⟩ := k _ _ (.inr ⟨_, mem_of_lookup e1, rfl⟩) hoc
    exact ⟨c, v, e1, ⟨_, hoc', hdc⟩, r.grow g⟩
  · obtain ⟨v, o, ho, hd⟩ := ht x hx
    obtain ⟨sl, ho'⟩ := k _ _ (.inr ⟨_, hx, rfl⟩) ho
    exact ⟨v, _, ho', hd⟩

theorem St.change {B : Heap} {H : Hid} {env : Env} {ρ : Loc} {σ σ' : Sto} {s s' : Shared} (S : St G B H env ρ σ s) (W : Addr → Prop)
    (k : ∀ b o, ¬ W b → s.heap.get? b = some o → s'.heap.get? b = some o) (wB : ∀ b, W b → B.get? b = none ∧ H b = none) (wL : ¬ W env.locals) (wc : ∀ x ∈ env.cells, ¬ W x.2) (g : Grow H s.heap s'.heap)
    (hσ : ∀ a c, σ' a = some c → (σ a = some c ∧ ¬ W a) ∨ (CellAt G H s'.heap a c ∧ (c.own = true → B.get? a = none) ∧ H a = none ∧ a ≠ env.locals ∧ ∀ x ∈ env.cells, x.2 ≠ a)) (hl : ∀ a c, σ' a = some c → c.own = true → mainGlobals < a) : St G B H env ρ σ' s' := by
  refine ⟨fun b o e => k b o (fun q => ?_) (S.keep b o e), fun a o e => ?_, S.frame.keep (fun b o q e => ⟨o.slots, k b o (fun w => ?_) e⟩) g, fun a c e => ?_, S.root, hl⟩
  · rw [(wB b q).1] at e; cases e
  · obtain ⟨sl, e', z⟩ := S.hid a o e
    exact ⟨sl, k a _ (fun q => by rw [(wB a q).2] at e; cases e) e', z⟩
  · rcases q with rfl | ⟨y, hy, rfl⟩
    · exact wL w
    · exact wc y hy w
  · rcases hσ a c e with ⟨e', nw⟩ | q
    · obtain ⟨q1, q2⟩ := S.store a c e'
      exact ⟨q1.keep (fun o e => k a o nw e) g, q2⟩
    · exact q

theorem St.same {B : Heap} {H : Hid} {env : Env} {ρ : Loc} {σ : Sto} {s s' : Shared} (S : St G B H env ρ σ s) (k : ∀ b o, s.heap.get? b = some o → s'.heap.get? b = some o) : St G B H env ρ σ s' :=
  S.change (fun _ => False) (fun b o _ e => k b o e) (fun _ x => x.elim) id (fun _ _ => id) (.of_keep k) (fun _ _ e => .inl ⟨e, id⟩) S.low
theorem St.tok {B : Heap} {H : Hid} {env : Env} {ρ : Loc} {σ : Sto} {s : Shared} (S : St G B H env ρ σ s) (t : Nat) : St G B H env ρ σ { s with toks := t } := S.same fun _ _ e => e
theorem Step.tok (H : Hid) (s : Shared) (t : Nat) : Step H s { s with toks := t } := ⟨.refl _ _, rfl, rfl⟩
theorem Step.keeps {H : Hid} {s s' : Shared} (k : ∀ b o, s.heap.get? b = some o → s'.heap.get? b = some o) (g : s'.gens = s.gens := by rfl) (o : s'.os = s.os := by rfl) : Step H s s' := ⟨.of_keep k, g, o⟩
theorem Step.push {H : Hid} {s : Shared} (o : Obj) : Step H s { s with heap := s.heap.push o } := .keeps fun _ _ e => Heap.get?_push_of_some o e

theorem St.locals_lt {B : Heap} {H : Hid} {env : Env} {ρ : Loc} {σ : Sto} {s : Shared} (S : St G B H env ρ σ s) : env.locals < s.heap.objs.size := let ⟨_, hn, _⟩ := S.frame.ns; hn.lt
theorem St.sto_lt {B : Heap} {H : Hid} {env : Env} {ρ : Loc} {σ : Sto} {s : Shared} (S : St G B H env ρ σ s) {a : Addr} {c : Cell} (e : σ a = some c) : a < s.heap.objs.size := by
  obtain ⟨o, ho, _⟩ := (S.store a c e).1.there
  exact Heap.lt_size ho
theorem St.hid_lt {B : Heap} {H : Hid} {env : Env} {ρ : Loc} {σ : Sto} {s : Shared} (S : St G B H env ρ σ s) {a : Addr} {o : Obj} (e : H a = some o) : a < s.heap.objs.size := by
  obtain ⟨_, ho, _⟩ := S.hid a o e
  exact Heap.lt_size ho
theorem none_of_not_some {α : Type} {x : Option α} (h : ∀ a, x ≠ some a) : x = none := by
  cases x with
  | none => rfl
  | some a => exact absurd rfl (h a)
theorem St.fresh_hid {B : Heap} {H : Hid} {env : Env} {ρ : Loc} {σ : Sto} {s : Shared} (S : St G B H env ρ σ s) : H s.heap.objs.size = none :=
  none_of_not_some fun c e => Nat.lt_irrefl _ (S.hid_lt e)


theorem St.cell_lt {B : Heap} {H : Hid} {env : Env} {ρ : Loc} {σ : Sto} {s : Shared} (S : St G B H env ρ σ s) {x : Str × Addr} (e : x ∈ env.cells) : x.2 < s.heap.objs.size := by
  obtain ⟨v, hc⟩ := S.frame.there x e
  exact hc.lt
theorem St.push {B : Heap} {H : Hid} {env : Env} {ρ : Loc} {σ : Sto} {s : Shared} (S : St G B H env ρ σ s) (o : Obj) : St G B H env ρ σ { s with heap := s.heap.push o } :=
  S.same fun _ _ e => Heap.get?_push_of_some o e
/-- a new object into the store -/
theorem St.new {B : Heap} {H : Hid} {env : Env} {ρ : Loc} {σ : Sto} {s s' : Shared} {a : Addr} (S : St G B H env ρ σ s) (k : ∀ b o, s.heap.get? b = some o → s'.heap.get? b = some o) (ha : s.heap.objs.size ≤ a) {c : Cell}
    (x : CellAt G H s'.heap a c) : St G B H env ρ (upd σ a c) s' := by
  have big : mainGlobals < s.heap.objs.size := let ⟨_, e⟩ := S.root; Heap.lt_size (S.keep _ _ e)
  refine S.change (fun _ => False) (fun b o _ e => k b o e) (fun _ x => x.elim) id (fun _ _ => id) (.of_keep k) (fun b c' e => ?_) (fun b c' e z => by
    by_cases q : b = a
    · subst q; exact Nat.lt_of_lt_of_le big ha
    · rw [upd_ne q] at e; exact S.low b c' e z)
  by_cases q : b = a
  · subst q
    rw [upd_same] at e; cases e
    refine .inr ⟨x, fun _ => ?_, ?_, ?_, fun y hy => ?_⟩
    · exact none_of_not_some fun o e => Nat.lt_irrefl _ (Nat.lt_of_lt_of_le (Heap.lt_size (S.keep _ _ e)) ha)
    · exact none_of_not_some fun o e => Nat.lt_irrefl _ (Nat.lt_of_lt_of_le (S.hid_lt e) ha)
    · exact Nat.ne_of_gt (Nat.lt_of_lt_of_le S.locals_lt ha)
    · exact Nat.ne_of_lt (Nat.lt_of_lt_of_le (S.cell_lt hy) ha)
  · rw [upd_ne q] at e
    exact .inl ⟨e, id⟩
theorem St.fresh {B : Heap} {H : Hid} {env : Env} {ρ : Loc} {σ : Sto} {s : Shared} {a : Addr} (S : St G B H env ρ σ s) (ha : s.heap.objs.size ≤ a) : σ a = none :=
  none_of_not_some fun _ e => Nat.lt_irrefl _ (Nat.lt_of_lt_of_le (S.sto_lt e) ha)
/-- an object of the store turned -/
theorem St.put {B : Heap} {H : Hid} {env : Env} {ρ : Loc} {σ : Sto} {s s' : Shared} {a : Addr} {c₀ c : Cell} (S : St G B H env ρ σ s) (ha : σ a = some c₀) (hw : c₀.own = true := by rfl)
    (k : ∀ b o, b ≠ a → s.heap.get? b = some o → s'.heap.get? b = some o) (x : CellAt G H s'.heap a c) : St G B H env ρ (upd σ a c) s' ∧ Grow H s.heap s'.heap := by
  obtain ⟨q, q1, q2, q3, q4⟩ := S.store a c₀ ha
  obtain ⟨o, ho, ht, hr⟩ := q.there
  have g : Grow H s.heap s'.heap := .of_keepBut k ht fun o' vs e => by rw [ho] at e; cases e; exact hr vs
  refine ⟨S.change (fun b => b = a) (fun b o nb e => k b o nb e) (fun b e => e ▸ ⟨q1 hw, q2⟩) (fun e => q3 e.symm) (fun y hy e => q4 y hy e) g (fun b c' e => ?_) (fun b c' e w => by
    by_cases z : b = a
    · subst z; exact S.low b _ ha hw
    · rw [upd_ne z] at e; exact S.low b c' e w), g⟩
  by_cases z : b = a
  · subst z
    rw [upd_same] at e; cases e
    exact .inr ⟨x, fun _ => q1 hw, q2, q3, q4⟩
  · rw [upd_ne z] at e
    exact .inl ⟨e, z⟩


/-! ### exceptions on their way -/
/-- h' is h but for the frames' slots and two records of an exception -/
noncomputable def Noted (F : List Addr) (X : Addr → Prop) (h h' : Heap) : Prop := ∀ b o, ¬ X b → h.get? b = some o → (∃ sl, h'.get? b = some { o with slots := sl }) ∧ (b ∉ F → h'.get? b = some o)
theorem Noted.keeps {F : List Addr} {X : Addr → Prop} {h h' : Heap} (k : ∀ b o, ¬ X b → h.get? b = some o → h'.get? b = some o) : Noted F X h h' := fun b o n e => ⟨⟨o.slots, k b o n e⟩, fun _ => k b o n e⟩

/-- the state behind it -/
theorem St.noted {B : Heap} {H : Hid} {env : Env} {ρ : Loc} {σ : Sto} {s s' : Shared} {F : List Addr} {X : Addr → Prop} (S : St G B H env ρ σ s) (n : Noted F X s.heap s'.heap)
    (fB : ∀ a ∈ F, B.get? a = none ∧ σ a = none ∧ ∀ o, s.heap.get? a = some o → ∃ es n, o.data = .dict es n) (hX : ∀ a, X a → Mine1 B H σ a ∧ a ≠ env.locals ∧ ∀ x ∈ env.cells, x.2 ≠ a)
    (hR : ∀ a, X a → ∃ o vs o' vs', s.heap.get? a = some o ∧ o.data = .fields vs ∧ s'.heap.get? a = some o' ∧ Same2 o' o ∧ o'.data = .fields vs') : St G B H env ρ σ s' ∧ Grow H s.heap s'.heap := by
  have hT : ∀ a items, X a → ¬ IsTup s.heap a items := fun a items x t => by
    obtain ⟨o, vs, _, _, h1, h2, _⟩ := hR a x
    obtain ⟨o1, h3, _, m, h4⟩ := t
    rw [h1] at h3; cases h3; rw [h2] at h4; cases h4
  have g : Grow H s.heap s'.heap := ⟨fun a items _ q => by
    obtain ⟨o, ho, hc, m, hd⟩ := id q
    obtain ⟨⟨sl, e⟩, _⟩ := n a o (fun z => hT a items z q) ho
    exact ⟨_, e, hc, m, hd⟩, fun a o vs _ e _ q => by
    by_cases z : X a
    · obtain ⟨o1, vs1, o', vs', h1, _, h3, h4, h5⟩ := hR a z
      rw [e] at h1; cases h1
      exact ⟨o', vs', h3, h4, h5⟩
    · obtain ⟨⟨sl, e'⟩, _⟩ := n a o z e
      exact ⟨_, vs, e', ⟨rfl, rfl⟩, q⟩⟩
  refine ⟨⟨fun b o e => ?_, fun a o e => ?_, S.frame.keep (fun b o q e => (n b o (fun z => ?_) e).1) g, fun a c e => ?_, S.root, S.low⟩, g⟩
  · refine (n b o (fun z => ?_) (S.keep b o e)).2 fun z => ?_
    · rw [(hX b z).1.base] at e; cases e
    · rw [(fB b z).1] at e; cases e
  · obtain ⟨sl, e', z⟩ := S.hid a o e
    obtain ⟨⟨sl', e''⟩, kk⟩ := n a _ (fun z => by rw [(hX a z).1.hid] at e; cases e) e'
    refine ⟨sl', e'', fun nd => ?_⟩
    have := kk fun q => by
      obtain ⟨es, m, q⟩ := (fB a q).2.2 _ e'
      exact nd es m q
    rw [e''] at this
    exact (congrArg Obj.slots (Option.some.inj this)).trans (z nd)
  · rcases q with rfl | ⟨y, hy, rfl⟩
    · exact (hX _ z).2.1 rfl
    · exact (hX _ z).2.2 y hy rfl
  · obtain ⟨q1, q2⟩ := S.store a c e
    refine ⟨q1.keep (fun o e' => (n a o (fun z => ?_) e').2 fun z => ?_) g, q2⟩
    · rw [(hX a z).1.sto] at e; cases e
    · rw [(fB a z).2.1] at e; cases e
section
variable {B : Heap} {H : Hid} {env : Env} {ρ : Loc} {σ : Sto} {s s₁ : Shared} {Φ : PE} {Ψ : PX}
theorem QE.step (x : Step H s s₁) {v : Value} {s' : Shared} (q : QE G B H env ρ Φ s₁ v s') : QE G B H env ρ Φ s v s' := let ⟨a, σ', r, S, st, p⟩ := q; ⟨a, σ', r, S, x.trans st, p⟩
theorem QX.step (x : Step H s s₁) {v : Value} {s' : Shared} (q : QX G B H env Ψ s₁ v s') : QX G B H env Ψ s v s' := let ⟨a, c, ρ', σ', e, f, S, st, p⟩ := q; ⟨a, c, ρ', σ', e, f, S, x.trans st, p⟩
theorem qe (S : St G B H env ρ σ s₁) (x : Step H s s₁) {a : AV} {v : Value} (r : Rel H s₁.heap a v) (p : Φ a σ) : QE G B H env ρ Φ s v s₁ := ⟨a, σ, r, S, x, p⟩
end
end Mine
set_option maxRecDepth 100000
namespace Mine
open PySem PyProof.Rows

variable {G : PG}
section
variable {B : Heap} {H : Hid} {env : Env} {ρ : Loc} {σ : Sto} {s : Shared} {n : Nat} {A : Around} {E : Value → Shared → Prop} {M : Model}

theorem funFrames_of {l : List Env} (S : St G B H env ρ σ s) (hl : FramesIn B H l) : s.heap.FunFrames B l := by
  induction l with
  | nil => trivial
  | cons e r ih =>
    obtain ⟨hk, L, o, hf, hb, hH, es, m, hd⟩ := hl e (.head _)
    obtain ⟨sl, ho, _⟩ := S.hid L o hH
    exact ⟨hk, ⟨L, _, hf, hb, ho, fun vs q => by rw [show _ = _ from hd] at q; cases q⟩, ih fun x hx => hl x (.tail _ hx)⟩

theorem funFrames_here {outer : List Env} (S : St G B H env ρ σ s) (F : FrameOk B H env) (hl : FramesIn B H outer) : s.heap.FunFrames B (env :: outer) := by
  obtain ⟨m, ⟨o, es, ep, ho, hd, _⟩, _⟩ := S.frame.ns
  exact ⟨by rw [F.kind]; decide, ⟨env.locals, o, F.fr, F.loc.1, ho, fun vs q => by rw [hd] at q; cases q⟩, funFrames_of S hl⟩

theorem frames_noSto {outer : List Env} (S : St G B H env ρ σ s) (F : FrameOk B H env) (hl : FramesIn B H outer) : ∀ a ∈ (env :: outer).filterMap (·.frame), B.get? a = none ∧ σ a = none ∧ ∀ o, s.heap.get? a = some o → ∃ es n, o.data = .dict es n := by
  intro a ha
  obtain ⟨e, he, hf⟩ := List.mem_filterMap.mp ha
  rcases List.mem_cons.mp he with rfl | he
  · rw [F.fr] at hf; cases hf
    exact ⟨F.loc.1, none_of_not_some fun c q => (S.store _ _ q).2.2.2.1 rfl, fun o ho => by
      obtain ⟨m, ⟨o', es, ep, ho', hd, _⟩, _⟩ := S.frame.ns
      rw [ho] at ho'; cases ho'; exact ⟨_, _, hd⟩⟩
  · obtain ⟨_, L, o, hf', hb, hH, es, m, hd⟩ := hl e he
    rw [hf'] at hf; cases hf
    exact ⟨hb, none_of_not_some (fun c q => by have := (S.store _ _ q).2.2.1; rw [hH] at this; cases this), fun o' ho' => by
      obtain ⟨sl, ho, _⟩ := S.hid _ o hH
      rw [ho'] at ho; cases ho; exact ⟨es, m, hd⟩⟩

/-- an exception's record is none of the frame's -/
theorem fields_apart {a : Addr} {o : Obj} {vs : Array Value} (S : St G B H env ρ σ s) (ho : s.heap.get? a = some o) (hd : o.data = .fields vs) : a ≠ env.locals ∧ ∀ x ∈ env.cells, x.2 ≠ a := by
  refine ⟨fun q => ?_, fun x hx q => ?_⟩
  · obtain ⟨m, ⟨o', es, ep, ho', hd', _⟩, _⟩ := S.frame.ns
    rw [← q, ho] at ho'; cases ho'; rw [hd] at hd'; cases hd'
  · obtain ⟨v, o', ho', hd'⟩ := S.frame.there x hx
    rw [q, ho] at ho'; cases ho'; rw [hd] at hd'; cases hd'

theorem note_entry {outer : List Env} {e : Addr} {oe : Obj} {vs : Array Value} {head : Value} {hadNext : Bool} {Q : Unit → Shared → Prop}
    (hfr : A.frames = some (env :: outer)) (hl : s.heap.FunFrames B (env :: outer)) (hf : env.frame = some env.locals)
    (he : s.heap.get? e = some oe) (hd : oe.data = .fields vs) (hsz : ExcVs vs)
    (h : ∀ h' T oe' vs' oT ts, Noted ((env :: outer).filterMap (·.frame)) (fun b => b = e) s.heap h' → s.heap.get? T = none → s.heap.objs.size ≤ T → h'.get? e = some oe' → Same2 oe' oe → oe'.data = .fields vs' → ExcVs vs' → vs'[1]? = some (.ref T) → T ≠ e →
      h'.get? T = some oT → oT.cls = .type "traceback" → oT.data = .fields ts → 3 < ts.size → Q () { s with heap := h' }) :
    wpAny M A (do let a ← frameOf env; let pl ← entryPlaceOf env.locals hadNext; let b ← EntryCells.newEntry head a .none (rawInt env.locals) .none pl; setField (.ref e) 1 b) Q E s := by
  have hene : e ∉ (env :: outer).filterMap (·.frame) := fun hm => by
    obtain ⟨_, o, ho, hnf⟩ := hl.mem hm
    rw [he] at ho; injection ho with ho; subst ho; exact hnf vs hd
  refine wpAny_bind (wpAny_frameOf_fun hfr hl hf fun h₁ hs₁ => ?_)
  refine wpAny_bind (wpAny_entryPlaceOf fun pl hpl => ?_)
  unfold EntryCells.newEntry newFields
  refine wpAny_bind (wpAny_newObj_type ?_ (hpl.sizeOk5 _ _ _ _ _))
  have he₁ : h₁.get? e = some oe := (hs₁.2.1 e hene).trans he
  have he₂ := Heap.get?_push_of_some (h := h₁) { cls := .type "traceback", dict := none, data := .fields ([head, .ref env.locals, .none, rawInt env.locals, .none] ++ (if pl.isEmpty then List.replicate 6 Value.none else pl)).toArray } he₁
  have hsz1 := hsz.1
  refine wpAny_setField he₂ hd (by first | decide | with_reducible exact lv hn | with_reducible exact lv1 hn | with_reducible exact lv2 hn | with_reducible exact Int.natCast_nonneg _ | omega) ?_
  have hTe : h₁.objs.size ≠ e := Nat.ne_of_gt (Heap.lt_size he₁)
  have hd₃ := Obj.data_mapFields hd (·.setIfInBounds 1 (Value.ref h₁.objs.size))
  have he₃ := Heap.get?_update_self (Obj.mapFields (·.setIfInBounds 1 (Value.ref h₁.objs.size))) he₂ (Obj.isFreed_of_fields hd₃)
  have hT₃ := (Heap.get?_update_other (h₁.push { cls := .type "traceback", dict := none, data := .fields ([head, .ref env.locals, .none, rawInt env.locals, .none] ++ (if pl.isEmpty then List.replicate 6 Value.none else pl)).toArray })
    (Obj.mapFields (·.setIfInBounds 1 (Value.ref h₁.objs.size))) (Ne.symm hTe)).trans (Heap.get?_push_size h₁ rfl)
  refine h _ h₁.objs.size _ _ _ _ (fun b o nb hb => ?_) ?_ ?_ he₃ (same2_map _ _) hd₃ ⟨by rw [Array.size_setIfInBounds]; exact hsz1, by rw [Array.getElem?_setIfInBounds_ne (by decide)]; exact hsz.2⟩ (by rw [Array.getElem?_setIfInBounds_self_of_lt (by first | decide | with_reducible exact lv hn | with_reducible exact lv1 hn | with_reducible exact lv2 hn | with_reducible exact Int.natCast_nonneg _ | omega)]) hTe hT₃ rfl rfl (by simp only [List.size_toArray, List.length_append, List.length_cons, List.length_nil]; omega)
  · have nb' : b ≠ e := nb
    obtain ⟨sl, e1⟩ := hs₁.2.2 b o hb
    refine ⟨⟨sl, ?_⟩, fun q => ?_⟩
    · rw [Heap.get?_update_other _ _ (Ne.symm nb')]; exact Heap.get?_push_of_some _ e1
    · rw [Heap.get?_update_other _ _ (Ne.symm nb')]; exact Heap.get?_push_of_some _ ((hs₁.2.1 b q).trans hb)
  · exact Heap.get?_none_of_le (by rw [hs₁.1]; exact Nat.le_refl _)
  · rw [hs₁.1]; exact Nat.le_refl _

theorem mine_new {a : Addr} (S : St G B H env ρ σ s) (ha : s.heap.objs.size ≤ a) : Mine1 B H σ a :=
  ⟨none_of_not_some fun o e => Nat.lt_irrefl _ (Nat.lt_of_lt_of_le (Heap.lt_size (S.keep _ _ e)) ha), none_of_not_some fun o e => Nat.lt_irrefl _ (Nat.lt_of_lt_of_le (S.hid_lt e) ha), S.fresh ha⟩

theorem note_frame {e : Addr} {cls : Value} {Q : Unit → Shared → Prop} (hA : AOk B H env n A) (F : FrameOk B H env) (S : St G B H env ρ σ s) (f : Flies B H σ s.heap e cls)
    (h : ∀ s', St G B H env ρ σ s' → FliesT B H σ s'.heap e cls → Step H s s' → Q () s') : wpAny M A (noteFrame (.ref e) env) Q E s := by
  obtain ⟨fe, outer, hfr, hin, hfe, _⟩ := hA.frames
  obtain rfl := hfe F.fr
  obtain ⟨new, ncls, oe, vs, he, hc, hd, hsz, hh⟩ := f
  have ae := fields_apart S he hd
  unfold noteFrame
  simp only [F.fr]
  rcases hh with h1 | ⟨T, h1, newT, hTe, oT, ts, hT, hTc, hTd, hTs⟩
  · refine wpAny_bind (wpAny_field he hd h1 ?_)
    rw [if_neg (by decide)]
    refine note_entry hfr (funFrames_here S F hin) F.fr he hd hsz fun h' T oe' vs' oT ts nt tn tl e1 e2 e3 e4 e5 e6 e7 e8 e9 e10 => ?_
    obtain ⟨S', g⟩ := S.noted (s' := { s with heap := h' }) nt (frames_noSto S F hin) (fun a q => by obtain rfl : a = e := q; exact ⟨new, ae⟩) (fun a q => by
      obtain rfl : a = e := q
      exact ⟨oe, vs, oe', vs', he, hd, e1, e2, e3⟩)
    exact h _ S' ⟨new, ncls, oe', vs', e1, ⟨e2.1.trans hc.1, e2.2.trans hc.2⟩, e3, e4, T, e5, mine_new S tl, e6, oT, ts, e7, e8, e9, e10⟩ ⟨g, rfl, rfl⟩
  · refine wpAny_bind (wpAny_field he hd h1 ?_)
    rw [if_pos (show (Value.ref T != Value.none) = true from by simp)]
    obtain ⟨x3, h3⟩ : ∃ x, ts[3]? = some x := ⟨ts[3], by simp [hTs]⟩
    refine wpAny_bind (wpAny_field hT hTd h3 ?_)
    by_cases q : (x3 == rawInt fe.locals) = true
    · rw [if_pos q]
      exact wpAny_pure (h s S ⟨new, ncls, oe, vs, he, hc, hd, hsz, T, h1, newT, hTe, oT, ts, hT, hTc, hTd, hTs⟩ (.refl _ _))
    · rw [if_neg q]
      refine wpAny_bind (wpAny_setField hT hTd hTs ?_)
      have aT := fields_apart S hT hTd
      have other : ∀ b, b ≠ T → (s.heap.update T (Obj.mapFields (·.setIfInBounds 3 Value.none))).get? b = s.heap.get? b := fun b hb => Heap.get?_update_other _ _ (Ne.symm hb)
      have n1 : Noted ((fe :: outer).filterMap (·.frame)) (fun b => b = e ∨ b = T) s.heap (s.heap.update T (Obj.mapFields (·.setIfInBounds 3 Value.none))) := .keeps fun b o nb e => by
        rw [other b fun z => nb (.inr z)]; exact e
      have hdT := Obj.data_mapFields hTd (·.setIfInBounds 3 Value.none)
      have noT : ∀ a, a = e ∨ a = T → ∃ o vs o' vs', s.heap.get? a = some o ∧ o.data = .fields vs ∧ (s.heap.update T (Obj.mapFields (·.setIfInBounds 3 Value.none))).get? a = some o' ∧ Same2 o' o ∧ o'.data = .fields vs' := fun a q => by
        rcases q with rfl | rfl
        · exact ⟨oe, vs, oe, vs, he, hd, (other a (Ne.symm hTe)).trans he, .rfl, hd⟩
        · exact ⟨oT, ts, _, _, hT, hTd, Heap.get?_update_self _ hT (Obj.isFreed_of_fields hdT), same2_map _ _, hdT⟩
      have hX : ∀ a, a = e ∨ a = T → Mine1 B H σ a ∧ a ≠ fe.locals ∧ ∀ x ∈ fe.cells, x.2 ≠ a := fun a q => by
        rcases q with rfl | rfl
        · exact ⟨new, ae⟩
        · exact ⟨newT, aT⟩
      obtain ⟨S₁, g₁⟩ := S.noted (s' := { s with heap := s.heap.update T (Obj.mapFields (·.setIfInBounds 3 Value.none)) }) n1 (frames_noSto S F hin) hX noT
      refine note_entry hfr (funFrames_here S₁ F hin) F.fr ((other e (Ne.symm hTe)).trans he) hd hsz fun h' T' oe' vs' oT' ts' nt tn tl e1 e2 e3 e4 e5 e6 e7 e8 e9 e10 => ?_
      obtain ⟨S', g⟩ := S₁.noted (s' := { s with heap := h' }) nt (frames_noSto S₁ F hin) (fun a q => hX a (.inl q)) (fun a q => by
        obtain rfl : a = e := q
        exact ⟨oe, vs, oe', vs', (other a (Ne.symm hTe)).trans he, hd, e1, e2, e3⟩)
      exact h _ S' ⟨new, ncls, oe', vs', e1, ⟨e2.1.trans hc.1, e2.2.trans hc.2⟩, e3, e4, T', e5, mine_new S₁ tl, e6, oT', ts', e7, e8, e9, e10⟩ ⟨g₁.trans g, rfl, rfl⟩

theorem set_flight {e : Addr} {cls : Value} {fl : Option Addr} {Q : Unit → Shared → Prop} (S : St G B H env ρ σ s) (f : FliesT B H σ s.heap e cls)
    (h : ∀ s', St G B H env ρ σ s' → FliesT B H σ s'.heap e cls → Step H s s' → Q () s') : wpAny M A (setFlight (.ref e) fl) Q E s := by
  obtain ⟨new, ncls, oe, vs, he, hc, hd, hsz, T, h1, newT, hTe, oT, ts, hT, hTc, hTd, hTs⟩ := f
  unfold setFlight
  refine wpAny_bind (wpAny_field he hd h1 ?_)
  rw [if_pos (show (Value.ref T != Value.none) = true from by simp)]
  refine wpAny_setField hT hTd hTs ?_
  have aT := fields_apart S hT hTd
  have other : ∀ b v, b ≠ T → (s.heap.update T (Obj.mapFields (·.setIfInBounds 3 v))).get? b = s.heap.get? b := fun b v hb => Heap.get?_update_other _ _ (Ne.symm hb)
  have hd₃ := Obj.data_mapFields hTd (·.setIfInBounds 3 (fl.elim Value.none fun f => rawInt f))
  obtain ⟨S₁, g₁⟩ := S.noted (F := []) (X := fun b => b = T) (s' := { s with heap := s.heap.update T (Obj.mapFields (·.setIfInBounds 3 (fl.elim Value.none fun f => rawInt f))) }) (.keeps fun b o nb e => by rw [show _ = s.heap.get? b from other b _ nb]; exact e) (fun _ z => nomatch z) (fun a q => by obtain rfl : a = T := q; exact ⟨newT, aT⟩) (fun a q => by
    obtain rfl : a = T := q
    exact ⟨oT, ts, _, _, hT, hTd, Heap.get?_update_self _ hT (Obj.isFreed_of_fields hd₃), same2_map _ _, hd₃⟩)
  exact h _ S₁ ⟨new, ncls, oe, vs, (other e _ (Ne.symm hTe)).trans he, hc, hd, hsz, T, h1, newT, hTe, _, _, Heap.get?_update_self _ hT (Obj.isFreed_of_fields hd₃), (Obj.cls_mapFields _ _).trans hTc, hd₃, by rw [Array.size_setIfInBounds]; exact hTs⟩ ⟨g₁, rfl, rfl⟩
end
end Mine
set_option maxRecDepth 100000
namespace Mine
open PySem PyProof.Rows

variable {G : PG}

/-! ### binding plain parameters -/
theorem lookup_zip_isSome : ∀ {ns : List Str} {vs : List Value} {n : Str}, vs.length = ns.length → n ∈ ns → ((ns.zip vs).lookup n).isSome = true
  | [], _, n, _, h => nomatch h
  | m :: ns, [], n, e, _ => by simp at e
  | m :: ns, v :: vs, n, e, h => by
    rw [List.zip_cons_cons, List.lookup_cons]
    cases q : n == m with
    | true => rfl
    | false =>
      rcases List.mem_cons.mp h with rfl | h
      · simp at q
      · exact lookup_zip_isSome (by simpa using e) h

theorem bound_zip : ∀ (ns : List Str) (vs : List Value) (pre : List (Str × Value)), vs.length = ns.length → ns.Nodup → (∀ n ∈ ns, pre.lookup n = none) →
    ns.filterMap (fun n => ((pre ++ ns.zip vs).lookup n).map (n, ·)) = ns.zip vs
  | [], _, _, _, _, _ => by simp
  | n :: ns, [], _, e, _, _ => by simp at e
  | n :: ns, v :: vs, pre, e, nd, hp => by
    obtain ⟨h1, h2⟩ := List.nodup_cons.mp nd
    have q : (pre ++ (n :: ns).zip (v :: vs)).lookup n = some v := by
      rw [List.lookup_append, hp n (.head _), List.zip_cons_cons, List.lookup_cons]; simp
    rw [List.filterMap_cons, q]
    simp only [Option.map_some, List.zip_cons_cons]
    congr 1
    have := bound_zip ns vs (pre ++ [(n, v)]) (by simpa using e) h2 fun m hm => by
      rw [List.lookup_append, hp m (.tail _ hm), List.lookup_cons]
      have : (m == n) = false := by
        cases z : m == n with
        | false => rfl
        | true => rw [beq_iff_eq.mp z] at hm; exact absurd hm h1
      simp [this]
    rw [List.append_assoc] at this
    exact this

structure PlainParams (p : Arguments) : Prop where
  po : p.posonlyargs = []
  va : p.vararg = none
  ko : p.kwonlyargs = []
  kw : p.kwarg = none
  nodup : (p.args.map (·.arg)).Nodup

theorem bind_plain {fd : FuncData} {vs : List Value} (P : PlainParams fd.params) (hd : fd.defaults = .none) (hl : vs.length = fd.params.args.length) :
    bindArgs fd ⟨vs, []⟩ = pure ((fd.params.args.map (·.arg)).zip vs) := by
  obtain ⟨p1, p2, p3, p4, p5⟩ := P
  have hl' : vs.length = (fd.params.args.map (·.arg)).length := by simpa using hl
  have hs : seqItems? Value.none = pure none := rfl
  unfold bindArgs
  simp only [p1, p2, p3, p4, hd, hs, List.map_nil, List.nil_append, List.append_nil, List.forIn_nil, pure_bind]
  simp only [Option.getD_none, List.length_nil, List.length_map, Nat.sub_zero, hl, Nat.lt_irrefl, gt_iff_lt, Bool.false_eq_true, if_false, List.drop_nil, List.zip_nil_right, List.forIn_nil, pure_bind, false_and, List.isEmpty_nil, Bool.not_true]
  have hm : (List.filter (fun n => (List.lookup n ((fd.params.args.map (·.arg)).zip vs)).isNone) (fd.params.args.map (·.arg))) = [] := by
    rw [List.filter_eq_nil_iff]
    intro n hn
    have := lookup_zip_isSome hl' hn
    simp [Option.isSome_iff_ne_none] at this
    simpa using this
  have ht : List.take fd.params.args.length (List.map (fun x => x.arg) fd.params.args) = List.map (fun x => x.arg) fd.params.args := by
    rw [List.take_of_length_le]; simp
  rw [ht, hm]
  have := bound_zip _ vs [] hl' p5 (fun _ _ => rfl)
  rw [List.nil_append] at this
  simp [this]

/-! ### the frame of a call -/
theorem lookup_none_of_notMem {α : Type} : ∀ {l : List (Str × α)} {x : Str}, x ∉ l.map (·.1) → l.lookup x = none
  | [], _, _ => rfl
  | (n, v) :: r, x, h => by
    rw [List.lookup_cons]
    have : (x == n) = false := by
      cases q : x == n with
      | false => rfl
      | true => exact absurd (by rw [beq_iff_eq.mp q]; simp) h
    rw [this]
    exact lookup_none_of_notMem fun z => h (by simp only [List.map_cons, List.mem_cons]; exact .inr z)
theorem bindL_lookup (k : Str → Option NameKind) : ∀ (b : List (Str × Value)) (m : Str → Option Value) (x : Str), (b.map (·.1)).Nodup → k x = some .local → bindL k b m x = (b.lookup x).or (m x)
  | [], _, _, _, _ => rfl
  | (n, v) :: r, m, x, nd, hx => by
    obtain ⟨h1, h2⟩ := List.nodup_cons.mp nd
    rw [bindL, bindL_lookup k r _ x h2 hx, List.lookup_cons]
    by_cases q : x = n
    · subst q
      rw [lookup_none_of_notMem h1, if_pos hx]
      simp
    · have : (x == n) = false := by simpa using q
      rw [this]
      split
      · simp [q]
      · rfl
theorem bindC_lookup (k : Str → Option NameKind) : ∀ (b : List (Str × Value)) (m : Str → Option Value) (x : Str), (b.map (·.1)).Nodup → k x ≠ some .local → bindC k b m x = (b.lookup x).or (m x)
  | [], _, _, _, _ => rfl
  | (n, v) :: r, m, x, nd, hx => by
    obtain ⟨h1, h2⟩ := List.nodup_cons.mp nd
    rw [bindC, bindC_lookup k r _ x h2 hx, List.lookup_cons]
    by_cases q : x = n
    · subst q
      rw [lookup_none_of_notMem h1, if_neg hx]
      simp
    · have : (x == n) = false := by simpa using q
      rw [this]
      split
      · rfl
      · simp [q]
theorem relO_zip {H : Hid} {h : Heap} : ∀ {ns : List Str} {as : List AV} {vs : List Value} (x : Str), RelL H h as vs → RelO H h ((ns.zip as).lookup x) ((ns.zip vs).lookup x)
  | [], _, _, _, _ => by simp [RelO]
  | n :: ns, [], _, x, r => by simp only [RelL] at r; subst r; simp [RelO]
  | n :: ns, a :: as, _, x, r => by
    simp only [RelL] at r
    obtain ⟨v, rest, rfl, r1, r2⟩ := r
    rw [List.zip_cons_cons, List.zip_cons_cons, List.lookup_cons, List.lookup_cons]
    cases x == n with
    | true => exact r1
    | false => exact relO_zip x r2
theorem zip_keys {α β : Type} : ∀ {ns : List α} {vs : List β}, vs.length = ns.length → (ns.zip vs).map (·.1) = ns
  | [], _, _ => by simp
  | n :: ns, [], e => by simp at e
  | n :: ns, v :: vs, e => by simp [zip_keys (ns := ns) (vs := vs) (by simpa using e)]

structure IsDef (G : PG) (f : Addr) (fd : FuncData) (body : List Stmt) : Prop where
  at_ : ∀ {B : Heap}, G.T B → ∃ o, B.get? f = some o ∧ o.data = .func fd
  code : ∀ {B : Heap}, G.T B → B.CodeRec fd.code fd.qualname
  body : fd.body = .stmts body
  params : PlainParams fd.params
  dflt : fd.defaults = .none
  clo : fd.closure = []
  glob : fd.globals = mainGlobals
  bltn : fd.builtins = builtinsNs
  co : fd.scope.isCoroutine = false
  gen : fd.scope.isGenerator = false
  kind : fd.scope.kind = .function
  pk : ∀ x ∈ fd.params.args, fd.scope.names.lookup x.arg = some .local ∨ fd.scope.names.lookup x.arg = some .cell
  nofree : ∀ x, fd.scope.names.lookup x ≠ some .free
  nodup : ∀ n, ((cellsFrom n fd.scope.names []).map (·.1)).Nodup

theorem cellsFrom_some' {x : Str} : ∀ (names : List (Str × NameKind)) (n : Nat) (acc : List (Str × Addr)), names.lookup x = some .cell ∨ (acc.lookup x).isSome = true → ((cellsFrom n names acc).lookup x).isSome = true
  | [], _, _, h => h.elim (fun e => by cases e) id
  | (y, k) :: r, n, acc, h => by
    unfold cellsFrom
    by_cases hk : (k == .cell) = true
    · rw [if_pos hk]
      refine cellsFrom_some' r (n + 1) ((y, n) :: acc) ?_
      by_cases hy : (x == y) = true
      · exact .inr (by rw [List.lookup_cons, hy]; rfl)
      · refine h.imp (fun e => ?_) fun e => ?_
        · rw [List.lookup_cons] at e; simpa only [hy] using e
        · rw [List.lookup_cons]; simpa only [hy] using e
    · rw [if_neg hk]
      refine cellsFrom_some' r n acc ?_
      by_cases hy : (x == y) = true
      · refine .inr (h.elim (fun e => ?_) id)
        rw [List.lookup_cons, hy] at e
        exact absurd (by rw [Option.some.inj e]; rfl) hk
      · refine h.imp (fun e => ?_) id
        rw [List.lookup_cons] at e; simpa only [hy] using e
theorem lookup_of_mem_nodup' {α : Type} : ∀ {l : List (Str × α)} {x : Str × α}, (l.map (·.1)).Nodup → x ∈ l → l.lookup x.1 = some x.2
  | y :: r, x, nd, h => by
    obtain ⟨h1, h2⟩ := List.nodup_cons.mp nd
    rw [List.lookup_cons]
    rcases List.mem_cons.mp h with rfl | h
    · simp
    · have : (x.1 == y.1) = false := by
        cases q : x.1 == y.1 with
        | false => rfl
        | true => exact absurd (by show y.1 ∈ _; rw [← beq_iff_eq.mp q]; exact List.mem_map_of_mem h) h1
      rw [this]
      exact lookup_of_mem_nodup' h2 h

open Classical in
/-- what a call hides -/
noncomputable def hideH (H : Hid) (env : Env) (s : Shared) : Hid := fun a => if (H a).isSome = true ∨ a = env.locals ∨ (∃ x ∈ env.cells, x.2 = a) then s.heap.get? a else none

section
variable {B : Heap} {H : Hid} {env : Env} {ρ : Loc} {σ : Sto} {s : Shared} {n : Nat} {A : Around}
theorem hide_none {a : Addr} (h : hideH H env s a = none) (S : St G B H env ρ σ s) : H a = none ∧ a ≠ env.locals ∧ ∀ x ∈ env.cells, x.2 ≠ a := by
  refine ⟨none_of_not_some fun o q => ?_, fun q => ?_, fun x hx q => ?_⟩
  · obtain ⟨sl, e, _⟩ := S.hid a o q
    rw [hideH, if_pos (.inl (by rw [q]; rfl)), e] at h; cases h
  · obtain ⟨m, ⟨o, _, _, e, _⟩, _⟩ := S.frame.ns
    rw [hideH, if_pos (.inr (.inl q)), q, e] at h; cases h
  · obtain ⟨v, o, e, _⟩ := S.frame.there x hx
    rw [hideH, if_pos (.inr (.inr ⟨x, hx, q⟩)), ← q, e] at h; cases h
theorem hide_tup {a : Addr} {items : Array Value} (S : St G B H env ρ σ s) (t : IsTup s.heap a items) (h : H a = none) : hideH H env s a = none := by
  obtain ⟨o, ho, hc, m, hd⟩ := t
  rw [hideH, if_neg]
  rintro (q | q | ⟨x, hx, q⟩)
  · rw [h] at q; cases q
  · obtain ⟨_, ⟨o', _, _, e, hd', _⟩, _⟩ := S.frame.ns
    rw [q, e] at ho; cases ho; rw [hd] at hd'; cases hd'
  · obtain ⟨v, o', e, hd'⟩ := S.frame.there x hx
    rw [q, ho] at e; cases e; rw [hd] at hd'; cases hd'
theorem hide_sto {a : Addr} {c : Cell} (S : St G B H env ρ σ s) (e : σ a = some c) : hideH H env s a = none := by
  obtain ⟨_, _, q1, q2, q3⟩ := S.store a c e
  rw [hideH, if_neg]
  rintro (q | q | ⟨x, hx, q⟩)
  · rw [q1] at q; cases q
  · exact q2 q
  · exact q3 x hx q
theorem hide_some {a : Addr} {o : Obj} (h : hideH H env s a = some o) : s.heap.get? a = some o := by
  unfold hideH at h
  split at h
  · exact h
  · cases h
theorem CellAt.dom {H' : Hid} {h : Heap} {a : Addr} {c : Cell} (d : ∀ a items, IsTup h a items → H a = none → H' a = none) (x : CellAt G H h a c) : CellAt G H' h a c := by
  cases c with
  | list vs => obtain ⟨items, n, ho, r⟩ := x; exact ⟨items, n, ho, r.dom d⟩
  | rlist vs => obtain ⟨items, n, ho, r⟩ := x; exact ⟨items, n, ho, r.dom d⟩
  | dictI kvs => obtain ⟨vs, q, e, l⟩ := x; exact ⟨vs, q, e, l.dom d⟩
  | dictS kvs => obtain ⟨vs, q, e, l⟩ := x; exact ⟨vs, q, e, l.dom d⟩
  | inst C d => exact x
  | ns m => obtain ⟨es, n, ho, r⟩ := x; exact ⟨es, n, ho, r.dom d⟩

/-- behind the call the caller's state stands again -/
theorem St.back {env' : Env} {ρ' : Loc} {σ' : Sto} {s' : Shared} (S : St G B H env ρ σ s) (S' : St G B (hideH H env s) env' ρ' σ' s') (g : Grow (hideH H env s) s.heap s'.heap) :
    St G B H env ρ σ' s' ∧ Grow H s.heap s'.heap := by
  have g' : Grow H s.heap s'.heap := ⟨fun a items q t => g.tup a items (hide_tup S t q) t, g.recs⟩
  refine ⟨⟨S'.keep, fun a o e => ?_, S.frame.keep (fun b o q e => ?_) g', fun a c e => ?_, S.root, S'.low⟩, g'⟩
  · obtain ⟨sl, e', z⟩ := S.hid a o e
    obtain ⟨sl', e'', z'⟩ := S'.hid a _ (show hideH H env s a = some _ by rw [hideH, if_pos (.inl (by rw [e]; rfl)), e'])
    exact ⟨sl', e'', fun nd => (z' nd).trans (z nd)⟩
  · have hq : hideH H env s b = some o := by
      rw [hideH, if_pos, e]
      rcases q with q | q
      · exact .inr (.inl q)
      · exact .inr (.inr q)
    obtain ⟨sl, h, _⟩ := S'.hid b o hq
    exact ⟨sl, h⟩
  · obtain ⟨q1, q2, q3, _⟩ := S'.store a c e
    obtain ⟨z1, z2, z3⟩ := hide_none q3 S
    exact ⟨q1.dom fun b items _ q => (hide_none q S).1, q2, z1, z2, z3⟩
end

section
variable {B : Heap} {H : Hid} {env : Env} {ρ : Loc} {σ : Sto} {s : Shared} {n : Nat} {A : Around} {f : Addr} {fd : FuncData} {body : List Stmt}

/-- the callee's state at its start -/
theorem St.enter {args : List AV} {vs : List Value} {s₁ : Shared} (D : IsDef G f fd body) (S : St G B H env ρ σ s) (r : RelL H s.heap args vs) (hl : args.length = fd.params.args.length)
    (x : InCallC s (callEnvC fd s.heap.objs.size f).locals (bindL (callEnvC fd s.heap.objs.size f).kindOf ((fd.params.args.map (·.arg)).zip vs) fun _ => none) (callEnvC fd s.heap.objs.size f).cells
        (bindC (callEnvC fd s.heap.objs.size f).kindOf ((fd.params.args.map (·.arg)).zip vs) fun _ => none) s₁) :
    St G B (hideH H env s) (callEnvC fd s.heap.objs.size f) ((fd.params.args.map (·.arg)).zip args) σ s₁ ∧ Step (hideH H env s) s s₁ := by
  have k : ∀ b o, s.heap.get? b = some o → s₁.heap.get? b = some o := x.toInCall.keep
  have hz : vs.length = (fd.params.args.map (·.arg)).length := by rw [r.length, hl]; simp
  have nd : (((fd.params.args.map (·.arg)).zip vs).map (·.1)).Nodup := by rw [zip_keys hz]; exact D.params.nodup
  have r₁ : RelL (hideH H env s) s₁.heap args vs := (r.dom fun a items t q => hide_tup S t q).grow (.of_keep k)
  have hL : ∀ c, c ∈ (callEnvC fd s.heap.objs.size f).cells → s.heap.objs.size < c.2 := fun c hc => x.above c.1 c.2 hc
  have cellAt : ∀ c, c ∈ (callEnvC fd s.heap.objs.size f).cells → ∃ v, s₁.heap.IsCell c.2 v := fun c hc => ⟨_, x.cell c.1 c.2 (lookup_of_mem_nodup' (D.nodup _) hc)⟩
  refine ⟨⟨fun b o e => k b o (S.keep b o e), fun a o e => ⟨o.slots, k a o (hide_some e), fun _ => rfl⟩, ⟨⟨_, x.toInCall.ns, fun y hy _ => ?_⟩, fun y hy => ?_, cellAt⟩, fun a c e => ?_, S.root, S.low⟩, ?_⟩
  · rw [bindL_lookup _ _ _ y nd hy, Option.or_none]
    exact relO_zip y r₁
  · have hc : (callEnvC fd s.heap.objs.size f).kindOf y = some .cell := hy.elim id fun q => absurd q (D.nofree y)
    have hs := cellsFrom_some' (x := y) fd.scope.names (s.heap.objs.size + 1) [] (.inl hc)
    obtain ⟨c, hc'⟩ := Option.isSome_iff_exists.mp hs
    refine ⟨c, _, hc', x.cell y c hc', ?_⟩
    rw [bindC_lookup _ _ _ y nd (by rw [hc]; decide), Option.or_none]
    exact relO_zip y r₁
  · obtain ⟨q1, q2, q3, q4, q5⟩ := S.store a c e
    have hlt := S.sto_lt e
    refine ⟨(q1.dom fun b items t q => hide_tup S t q).keep (fun o e => k a o e) (.of_keep k), q2, hide_sto S e, ?_, fun y hy z => ?_⟩
    · exact Nat.ne_of_lt hlt
    · have := hL y hy; rw [z] at this; exact Nat.lt_irrefl _ (Nat.lt_trans this hlt)
  · obtain ⟨h', tk, rfl⟩ := x.toInCall.same
    exact .keeps k

/-- a call as a code: from any frame -/
noncomputable def CC (G : PG) (n : Nat) (f : AV) (args : List AV) (σ : Sto) (Φ : PE) (Ψ : Value → Sto → Prop) : Prop :=
  ∀ B H A env ρ s vs fv, G.T B → EnvOk B H env → AOk B H env n A → St G B H env ρ σ s → RelL H s.heap args vs → Rel H s.heap f fv →
    codeAny G.M A (.call fv ⟨vs, []⟩) (fun r s' => match r with | .ok (.ret v) => QE G B H env ρ Φ s v s' | .ok _ => False | .error e => QX G B H env (fun c ρ' σ' => ρ' = ρ ∧ Ψ c σ') s e s') s
theorem CC.wc {f : AV} {args : List AV} {Φ : PE} {Ψ : Value → Sto → Prop} (h : CC G n f args σ Φ Ψ) : WC G n f args σ Φ Ψ := fun B H A env ρ s vs fv a b c d e f => wpAny_call (h B H A env ρ s vs fv a b c d e f)
theorem cc_def {args : List AV} {Φ : PE} {Ψ : Value → Sto → Prop} (D : IsDef G f fd body) (hl : args.length = fd.params.args.length)
    (h : ∀ env : Env, env.scope = fd.scope → WS G n env (execs body env) ((fd.params.args.map (·.arg)).zip args) σ (fun fl _ σ' => Φ fl.val σ') (fun c _ σ' => Ψ c σ')) :
    CC G (n + 1) (.ref f) args σ Φ Ψ := by
  intro B H A env ρ s vs fv hT hE hA S r rf
  simp only [Rel] at rf; subst rf
  obtain ⟨o, ho, hd⟩ := D.at_ hT
  have hroom : A.depth < recursionLimit := by have := hA.depth; unfold recursionLimit; omega
  refine (codeAny_call_cells hroom (S.keep _ _ ho) hd ((G.hlim hT).keeps S.keep) ((D.code hT).keeps S.keep) D.body (bind_plain D.params D.dflt (by rw [r.length, hl])) D.clo (fun x hx => ?_) (fun s₁ x => ?_) D.co D.gen D.kind)
  · have hx' : x.1 ∈ fd.params.args.map (·.arg) := (List.of_mem_zip (show (x.1, x.2) ∈ _ from hx)).1
    obtain ⟨p, hp, hp'⟩ := List.mem_map.mp hx'
    rw [← hp']
    rcases D.pk p hp with q | q
    · exact .inl q
    · exact .inr ⟨q, cellsFrom_some' _ _ _ (.inl q)⟩
  · obtain ⟨S₁, st₁⟩ := S.enter D r hl x
    have hL : ∀ c, c ∈ (callEnvC fd s.heap.objs.size f).cells → s.heap.objs.size < c.2 := fun c hc => x.above c.1 c.2 hc
    have hbig : ∀ a, s.heap.objs.size ≤ a → B.get? a = none ∧ hideH H env s a = none := fun a ha => by
      refine ⟨none_of_not_some fun o e => Nat.lt_irrefl _ (Nat.lt_of_lt_of_le (Heap.lt_size (S.keep _ _ e)) ha), none_of_not_some fun o e => Nat.lt_irrefl _ (Nat.lt_of_lt_of_le (Heap.lt_size (hide_some e)) ha)⟩
    have F : FrameOk B (hideH H env s) (callEnvC fd s.heap.objs.size f) :=
      { kind := D.kind, glob := D.glob, bltn := D.bltn, loc := hbig _ (Nat.le_refl _), apart := fun y hy => Nat.ne_of_gt (hL y hy), fr := rfl, own := fun y hy => hbig _ (Nat.le_of_lt (hL y hy)), nodup := x.apart }
    obtain ⟨fe, outer, hfr, hin, hfe, hfe'⟩ := hA.frames
    have up : ∀ l, FramesIn B H l → FramesIn B (hideH H env s) l := fun l hl' e he => by
      obtain ⟨h1, L, o, h2, h3, h4, h5⟩ := hl' e he
      obtain ⟨sl, h6, _⟩ := S.hid L o h4
      exact ⟨h1, L, { o with slots := sl }, h2, h3, (by rw [hideH, if_pos (.inl (by rw [h4]; rfl)), h6]), h5⟩
    have hA' : AOk B (hideH H env s) (callEnvC fd s.heap.objs.size f) n (A.deeper (callEnvC fd s.heap.objs.size f)) := by
      refine ⟨?_, ?_, ?_, callEnvC fd s.heap.objs.size f, fe :: outer, Around.frames_deeper hfr, ?_, fun _ => rfl, fun q => absurd rfl q⟩
      · have := hA.depth; show A.depth + 1 + 4 * n ≤ 900; omega
      · have := hA.units; show A.units + 3 + 40 * n ≤ 9000; omega
      · rcases hA.hand with q | ⟨q, e, o, vs, h1, h2, h3⟩
        · exact .inl q
        · obtain ⟨sl, h6, _⟩ := S.hid e o h2
          exact .inr ⟨(by first | decide | with_reducible exact lv hn | with_reducible exact lv1 hn | with_reducible exact lv2 hn | with_reducible exact Int.natCast_nonneg _ | omega), e, { o with slots := sl }, vs, h1, (by rw [hideH, if_pos (.inl (by rw [h2]; rfl)), h6]), h3⟩
      · intro e he
        rcases List.mem_cons.mp he with rfl | he
        · by_cases q : env.frame = some env.locals
          · obtain rfl := hfe q
            obtain ⟨m, ⟨o, es, ep, e1, e2, _⟩, _⟩ := S.frame.ns
            exact ⟨by rw [hE.kind]; decide, e.locals, o, q, hE.loc.1, (by rw [hideH, if_pos (.inr (.inl rfl)), e1]), es, ep, e2⟩
          · exact up _ (hfe' q) e (.head _)
        · exact up _ hin e he
    refine wpAny_mono (h _ rfl B (hideH H env s) _ s₁ hT F hA' S₁) (fun fl s' q => ?_) (fun e s' q => ?_)
    · obtain ⟨fl', ρ', σ', rf, S', st', p⟩ := q
      obtain ⟨S'', g⟩ := S.back S' (st₁.grow.trans st'.grow)
      refine ⟨fl'.val, σ', ?_, S'', ⟨g, st'.gens.trans st₁.gens, st'.os.trans st₁.os⟩, p⟩
      cases fl' with
      | ret a => obtain ⟨v, rfl, ra⟩ := rf; exact ra.dom fun b items _ q => (hide_none q S).1
      | next => cases rf; simp [Rel, Fl.val]
      | brk => cases rf; simp [Rel, Fl.val]
      | cont => cases rf; simp [Rel, Fl.val]
    · obtain ⟨ea, cls, ρ', σ', rfl, fl, S', st', p⟩ := q
      unfold leaving
      refine wpAny_bind (note_frame hA' F S' fl fun s₂ S₂ f₂ st₂ => set_flight S₂ f₂ fun s₃ S₃ f₃ st₃ => ?_)
      obtain ⟨S'', g⟩ := S.back S₃ (((st₁.grow.trans st'.grow).trans st₂.grow).trans st₃.grow)
      have hn : ∀ a, Mine1 B (hideH H env s) σ' a → Mine1 B H σ' a := fun a z => ⟨z.base, (hide_none z.hid S).1, z.sto⟩
      obtain ⟨new, ncls, oe, vs', he, hc, hd', hsz, T, h1, newT, hTe, oT, ts, hT', hTc, hTd, hTs⟩ := f₃
      exact ⟨ea, cls, ρ, σ', rfl, ⟨hn _ new, ncls, oe, vs', he, hc, hd', hsz, .inr ⟨T, h1, hn _ newT, hTe, oT, ts, hT', hTc, hTd, hTs⟩⟩, S'',
        ⟨g, ((st₃.gens.trans st₂.gens).trans st'.gens).trans st₁.gens, ((st₃.os.trans st₂.os).trans st'.os).trans st₁.os⟩, rfl, p⟩
theorem wc_def {args : List AV} {Φ : PE} {Ψ : Value → Sto → Prop} (D : IsDef G f fd body) (hl : args.length = fd.params.args.length)
    (h : ∀ env : Env, env.scope = fd.scope → WS G n env (execs body env) ((fd.params.args.map (·.arg)).zip args) σ (fun fl _ σ' => Φ fl.val σ') (fun c _ σ' => Ψ c σ')) :
    WC G (n + 1) (.ref f) args σ Φ Ψ := (cc_def D hl h).wc
end
end Mine
set_option maxRecDepth 100000
namespace Mine
open PySem PySem.Spec PySem.Calls PyProof.Rows PySem.W

section
variable {prog : Program} {w : World} {A : Around} {E : Value → Shared → Prop} {s : Shared} {K : Frag} {x D : Addr} {ox : Obj}
theorem findObj_none {C : Addr} {a g : Value} {name : Str} (hc : (clsIn K C).isSome = true) (ha : findIn K (.ref C) name = some (some a)) (hg : specialIn K a "__get__" = some (some g)) (ht : takesIn K a = some true) : findObj K C none name = some (.bind g a) := by
  obtain ⟨cd, hc⟩ := Option.isSome_iff_exists.mp hc
  unfold findObj
  rw [hc, Option.bind_some, ha, Option.bind_some]
  simp [hg, ht]
theorem check_exn {rest : List Value} {Q : Unit → Shared → Prop} (L0 : Looks (model prog w) s.heap (typeOf (.ref x)) (.ref D)) (L4 : Looks (model prog w) s.heap (isSubtype (.ref D) (.type "BaseException")) true)
    (ha : argsOk "BaseException.__getattribute__" ⟨.ref x :: rest, []⟩) (hq : Q () s) : wpAny (model prog w) A (checkBuiltinCall "BaseException.__getattribute__" ⟨.ref x :: rest, []⟩) Q E s := by
  have hk : builtinKind "BaseException.__getattribute__" = some .slot := by decide +kernel
  have hs : splitId "BaseException.__getattribute__" = some ("BaseException", "__getattribute__") := by decide +kernel
  obtain ⟨hh, g, d, t, os⟩ := s
  simp only [checkBuiltinCall, hk, hs]
  refine wpAny_bind ?_
  unfold isInstance
  refine wpAny_bind (L0.at (L4.at ?_))
  rw [if_neg (by decide)]
  cases hsig : Manifest.signature? "BaseException.__getattribute__" with
  | none => exact wpAny_pure hq
  | some sig =>
    simp only [argsOk, hsig] at ha
    have h2 : Bind.checkArgs "BaseException.__getattribute__" sig ⟨.ref x :: rest, []⟩ = pure () := ha
    show wpAny _ _ (Bind.checkArgs "BaseException.__getattribute__" sig ⟨.ref x :: rest, []⟩) Q E _
    rw [h2]; exact wpAny_pure hq
theorem exn_attr {Q : Option Value → Shared → Prop} (X : K.In s.heap) (I : InstAt s.heap x ox D none) (hga : findIn K (.ref D) "__getattribute__" = some (some (.builtin "BaseException.__getattribute__"))) (hgt : findIn K (.ref D) "__getattr__" = some none)
    (hf : findObj K D none "__class__" = some (.bind (.builtin "getset_descriptor.__get__") (.builtin "object.__class__"))) (hsub : subIn K (.ref D) (.type "BaseException") = some true) (hm : mroIn K D (.type "object") = some true)
    (h : Q (some (.ref D)) { s with toks := s.toks + 1 }) : wpAny (model prog w) A (getAttr? (.ref x) "__class__") Q E s := by
  obtain ⟨hh, g, d, t, os⟩ := s
  have L0 := I.type (M := model prog w)
  have L1 := looks_findIn (M := model prog w) X hga
  have L2 := looks_findIn (M := model prog w) X hgt
  have L3 := looks_find (M := model prog w) X I hf
  have L4 : Looks (model prog w) hh (isSubtype (.ref D) (.type "BaseException")) true := looks_subIn X hsub
  unfold getAttr? getAttrBy? getAttrBy
  refine wpAny_bind (wpAny_mkText (wpAny_bind (wpAny_attempt (wpAny_holding (wpAny_bind (L0.at (wpAny_bind (L1.at ?_))))))))
  show wpAny _ _ (getAttrByItsOwn _ _ _ _ _ _) _ _ _
  unfold getAttrByItsOwn hookBefore
  rw [if_pos (by rfl)]
  refine wpAny_bind (L2.at ?_)
  refine wpAny_bind (wpAny_attempt (wpAny_holding ?_))
  unfold callGetattribute
  rw [if_neg (by decide)]
  unfold boundAndCalled
  rw [F.excAttr_ValueError.ga.bind (.ref x)]
  refine wpAny_bind (wpAny_pure ?_)
  refine wpAny_call (codeAny_call_builtin F.excAttr_ValueError.ga.plain F.entry_bexc_ga (check_exn (s := ⟨hh, g, d, t + 1, os⟩) L0 L4 (F.args_bexc_ga _ _) ?_))
  refine wpAny_bind (wpAny_pure (wpAny_bind (wpAny_pure (wpAny_bind (L0.at (wpAny_bind (L3.at ?_)))))))
  show wpAny _ _ (holding [Value.builtin "object.__class__"] (call (.builtin "getset_descriptor.__get__") [.builtin "object.__class__", .ref x, .ref D]) >>= ret) _ _ _
  refine wpAny_bind (wpAny_holding (wpAny_call (class_get (s := ⟨hh, g, d, t + 1, os⟩) (ox := ox) (od := none) X I hm ?_)))
  refine wpAny_pure ?_
  exact handed_on rfl (wpAny_pure h)
/-- an exception's class, as isinstance asks for it -/
structure ExcK (K : Frag) (D : Addr) : Prop where
  ga : findIn K (.ref D) "__getattribute__" = some (some (.builtin "BaseException.__getattribute__"))
  gt : findIn K (.ref D) "__getattr__" = some none
  dct : hasDictIn K D = true
  cl : findIn K (.ref D) "__class__" = some (some (.builtin "object.__class__"))
  get : specialIn K (.builtin "object.__class__") "__get__" = some (some (.builtin "getset_descriptor.__get__"))
  tk : takesIn K (.builtin "object.__class__") = some true
  sub : subIn K (.ref D) (.type "BaseException") = some true
  mro : mroIn K D (.type "object") = some true
theorem kitx_exn {K : Frag} {x D : Addr} {ox : Obj} (e : ExcK K D) : KitX K (.ref x) (.ref D) (fun h => W.InstAt h x ox D none) where
  ty := fun _ _ _ I => I.type
  it := fun _ _ X _ => by
    obtain ⟨cdD, hcD, _⟩ := any_some e.dct
    unfold clsIn at hcD
    split at hcD
    · rename_i c' d' cd' sl' ho
      intro A' Q' E' s' k q
      unfold isType loadHead
      exact wpAny_bind (wpAny_loadPart (k _ _ (X _ _ ho)) (wpAny_pure q))
    · cases hcD
  ne := fun h tp dd its n sl X htp => by
    obtain ⟨cdD, hcD, _⟩ := any_some e.dct
    refine Bool.eq_false_iff.mpr fun q => ?_
    have e : D = tp := Value.ref.inj (beq_iff_eq.mp q)
    subst e
    unfold clsIn at hcD
    split at hcD
    · rename_i c' d' cd' sl' ho
      have z := (X _ _ ho).symm.trans htp
      cases z
    · cases hcD
  ca := fun X I k => exn_attr X I e.ga e.gt (findObj_none (by obtain ⟨cd, hc, _⟩ := any_some e.dct; rw [hc]; rfl) e.cl e.get e.tk) e.sub e.mro k
theorem inst_exn {h : Heap} {x D : Addr} {o : Obj} {vs : Array Value} (ho : h.get? x = some o) (hc : o.cls = .ref D) (hn : o.dict = none) (hd : o.data = .fields vs) : W.InstAt h x o D none where
  at_ := ho
  cls := hc
  no := by unfold notCls; rw [hd]
  dict := by rw [hn]; trivial
end
end Mine
set_option maxRecDepth 100000
namespace Mine
open PySem PyProof.Rows

set_option genSizeOf false
set_option genSizeOfSpec false
set_option genInjectivity false
inductive Ex where
  | nm (x : Str)
  | gl (x : Str)
  | cst (a : AV)
  | bin (op : Operator) (l r : Ex)
  | cmp (op : CmpOp) (l r : Ex)
  | cmp2 (o1 o2 : CmpOp) (l m r : Ex)
  | and_ (es : List Ex)
  | or_ (es : List Ex)
  | not_ (e : Ex)
  | neg (e : Ex)
  | sub (e i : Ex)
  | slc (e : Ex) (lo hi : Option Ex)
  | attr (e : Ex) (a : Str)
  | call (f : Str) (args : List Ex)
  | bi (f : Str) (args : List Ex)
  | bik (f : Str) (arg : Ex) (k : Str) (v : Ex)
  | meth (o : Ex) (m : Str) (args : List Ex)
  | list (es : List Ex)
  | tup (es : List Ex)
  | dict (ks vs : List Ex)
  | comp (elt : Ex) (x : Str) (iter : Ex) (ifs : List Ex)
  | lrange (e : Ex)

inductive Sm where
  | asg (x : Str) (e : Ex)
  | asgT (xs : List Str) (e : Ex)
  | sattr (o : Ex) (a : Str) (e : Ex)
  | sitem (o i e : Ex)
  | expr (e : Ex)
  | ite (c : Ex) (t f : List Sm)
  | for_ (x : Str) (it : Ex) (body : List Sm)
  | forT (xs : List Str) (it : Ex) (body : List Sm)
  | while_ (c : Ex) (body : List Sm)
  | ret (e : Option Ex)
  | raise (cls : Str) (msg : Str)
  | try_ (body : List Sm) (cls : Str) (name : Str) (h : List Sm)

set_option genSizeOf true
set_option genSizeOfSpec true
set_option genInjectivity true
/-! ### Operations on values -/
noncomputable def mapO {α β : Type} (f : α → Option β) : List α → Option (List β)
  | [] => some []
  | a :: r => match f a, mapO f r with
    | some b, some bs => some (b :: bs)
    | _, _ => none

noncomputable def datum (σ : Sto) : Nat → AV → Option PyData
  | 0, _ => none
  | _ + 1, .none => some .none
  | _ + 1, .bool b => some (.bool b)
  | _ + 1, .int i => some (.int i)
  | _ + 1, .str x => some (.str x)
  | k + 1, .tup vs => (mapO (datum σ k) vs).map .tuple
  | k + 1, .ref a => match lstOf σ a with
    | some vs => (mapO (datum σ k) vs).map .list
    | none => none
  | _ + 1, .val _ => none
  | _ + 1, .exn _ _ => none

noncomputable def truthV (σ : Sto) : AV → Option Bool
  | .none => some false
  | .bool b => some b
  | .int i => some (i != 0)
  | _ => none

/-- two ints -/
noncomputable def int2 (a b : AV) (k : Int → Int → Prop) : Prop := match a with
  | .int i => match b with
    | .int j => k i j
    | _ => False
  | _ => False
theorem int2_of {a b : AV} {k : Int → Int → Prop} (h : int2 a b k) : ∃ i j, a = .int i ∧ b = .int j ∧ k i j := by
  cases a with
  | int i => cases b with
    | int j => exact ⟨i, j, rfl, rfl, h⟩
    | _ => exact h.elim
  | _ => exact h.elim
/-- == -/
abbrev eqD (σ : Sto) (a b : AV) (Φ : Bool → Prop) : Prop := ∃ da db, datum σ 6 a = some da ∧ datum σ 6 b = some db ∧ SeqAt.shaped da = true ∧ SeqAt.shaped db = true ∧ Φ (PyData.eqv da db)
noncomputable def eqV (σ : Sto) (a b : AV) (Φ : Bool → Prop) : Prop := match a with
  | .int i => match b with
    | .int j => Φ (i == j)
    | _ => eqD σ a b Φ
  | .str x => match b with
    | .str y => Φ (x == y)
    | _ => eqD σ a b Φ
  | .bool x => match b with
    | .bool y => Φ (x == y)
    | _ => eqD σ a b Φ
  | .none => match b with
    | .none => Φ true
    | _ => eqD σ a b Φ
  | _ => eqD σ a b Φ

noncomputable def inV (G : PG) (σ : Sto) (a b : AV) (Φ : Bool → Prop) : Prop :=
  match b with
  | .ref l => match lstOf σ l with
    | some _ => False
    | none => match σ l with
      | some (.dictI kvs) => ∃ i, a = .int i ∧ Φ (kvs.any fun kv => kv.1 == i)
      | _ => False
  | .tup vs => ∃ da dvs, datum σ 6 a = some da ∧ mapO (datum σ 6) vs = some dvs ∧ SeqAt.shaped da = true ∧ (∀ d ∈ dvs, SeqAt.shaped d = true) ∧ Φ (dvs.any fun d => PyData.eqv d da)
  | .str y => match a with
    | .str x => Φ (Txt.contains y x)
    | _ => False
  | _ => False

noncomputable def AV.isNone : AV → Bool
  | .none => true
  | _ => false
noncomputable def AV.novalue : AV → Bool
  | .val _ => false
  | _ => true

noncomputable def cmpV (G : PG) (op : CmpOp) (a b : AV) (σ : Sto) (Φ : Bool → Prop) : Prop :=
  match op with
  | .Eq => eqV σ a b Φ
  | .NotEq => eqV σ a b fun r => Φ (!r)
  | .Lt => match a with
    | .int i => match b with
      | .int j => Φ (decide (i < j))
      | _ => False
    | _ => False
  | .LtE => int2 a b fun i j => Φ (decide (i ≤ j))
  | .Gt => match a with
    | .int i => match b with
      | .int j => Φ (decide (i > j))
      | _ => False
    | _ => False
  | .GtE => match a with
    | .int i => match b with
      | .int j => Φ (decide (i ≥ j))
      | _ => False
    | _ => False
  | .Is => match b with
    | .none => a.novalue = true ∧ Φ a.isNone
    | .bool y => match a with
      | .bool x => Φ (x == y)
      | _ => False
    | _ => False
  | .IsNot => match b with
    | .none => a.novalue = true ∧ Φ (!a.isNone)
    | .bool y => match a with
      | .bool x => Φ (!(x == y))
      | _ => False
    | _ => False
  | .In => inV G σ a b Φ
  | .NotIn => inV G σ a b fun r => Φ (!r)

noncomputable def newList (σ : Sto) (vs : List AV) (Φ : PE) : Prop := vs.length ≤ sizeLine ∧ ∀ a, σ a = none → Φ (.ref a) (upd σ a (.list vs))

noncomputable def addV (a b : AV) (σ : Sto) (Φ : PE) : Prop := match a with
  | .int i => match b with
    | .int j => Φ (.int (i + j)) σ
    | _ => False
  | .str x => match b with
    | .str y => x.length + y.length ≤ sizeLine ∧ Φ (.str (x ++ y)) σ
    | _ => False
  | .ref a => match b with
    | .ref b => match lstOf σ a with
      | some xs => match lstOf σ b with
        | some ys => newList σ (xs ++ ys) Φ
        | none => False
      | none => False
    | _ => False
  | _ => False
noncomputable def binV (op : Operator) (a b : AV) (σ : Sto) (Φ : PE) : Prop :=
  match op with
  | .Add => addV a b σ Φ
  | .Sub => int2 a b fun i j => Φ (.int (i - j)) σ
  | .Mult => int2 a b fun i j => i.natAbs < 2 ^ 63 ∧ Φ (.int (i * j)) σ
  | .FloorDiv => int2 a b fun i j => j ≠ 0 ∧ j.natAbs < 2 ^ 200 ∧ Φ (.int (Int.fdiv i j)) σ
  | .Mod => int2 a b fun i j => j ≠ 0 ∧ Φ (.int (Int.fmod i j)) σ
  | .Pow => int2 a b fun i j => i = 10 ∧ 0 ≤ j ∧ j ≤ 100 ∧ Φ (.int (i ^ j.toNat)) σ
  | _ => False


abbrev PY := Value → Sto → Prop

/-- an item by its place -/
noncomputable def idx {α : Type} (vs : List α) (k : Int) : Option α := (seqIndex? k vs.length).bind fun j => vs[j]?
noncomputable def subV (a i : AV) (σ : Sto) (Φ : PE) : Prop := match a with
  | .tup vs => match i with
    | .int k => ∃ v, -(2 ^ 62) ≤ k ∧ k < 2 ^ 62 ∧ idx vs k = some v ∧ Φ v σ
    | _ => False
  | .ref l => match i with
    | .int k => match lstOf σ l with
      | some vs => ∃ v, -(2 ^ 62) ≤ k ∧ k < 2 ^ 62 ∧ idx vs k = some v ∧ Φ v σ
      | none => match σ l with
        | some (.dictI kvs) => ∃ v, kvs.lookup k = some v ∧ Φ v σ
        | _ => False
    | .str k => match σ l with
      | some (.dictS kvs) => ∃ v, kvs.lookup k = some v ∧ Φ v σ
      | _ => False
    | _ => False
  | .str x => match i with
    | .int k => 0 ≤ k ∧ k < x.length ∧ k < 2 ^ 62 ∧ Φ (.str (Txt.item x k)) σ
    | _ => False
  | _ => False
/-- a cut of a list by places from nought on -/
noncomputable def cutL {α : Type} (vs : List α) (lo hi : Option Int) : List α := (vs.take ((hi.getD (vs.length : Int)).toNat)).drop ((lo.getD 0).toNat)
noncomputable def optI : Option AV → Option (Option Int)
  | none => some none
  | some (.int k) => some (some k)
  | _ => none
noncomputable def slcV (a : AV) (lo hi : Option AV) (σ : Sto) (Φ : PE) : Prop :=
  match optI lo, optI hi with
  | some l, some h => match a with
    | .ref r => match lstOf σ r with
      | some vs => (∀ k, l = some k → 0 ≤ k) ∧ (∀ k, h = some k → 0 ≤ k) ∧ vs.length ≤ sizeLine ∧ newList σ (cutL vs l h) Φ
      | _ => False
    | .str x => x.length ≤ sizeLine ∧ Φ (.str (Txt.slice x l h)) σ
    | _ => False
  | _, _ => False

/-- an attribute of an own instance -/
noncomputable def AttrOk (G : PG) (C : Addr) (a : Str) : Prop := W.plainGet G.K C a = true ∧ W.hasDictIn G.K C = true ∧ W.findIn G.K (.ref C) a = some none
noncomputable def attrV (G : PG) (o : AV) (a : Str) (σ : Sto) (Φ : PE) : Prop :=
  match o with
  | .ref x => match σ x with
    | some (.inst C d) => match σ d with
      | some (.ns m) => ∃ v, m.lookup a = some v ∧ v.novalue = true ∧ AttrOk G C a ∧ Φ v σ
      | _ => False
    | _ => False
  | _ => False

noncomputable def avOf : Value → AV
  | .ref a => .ref a
  | .int i _ => .int i
  | .str x _ => .str x
  | v => .val v
noncomputable def globV (G : PG) (x : Str) (Φ : AV → Prop) : Prop :=
  match G.mg x with
  | some v => Φ (avOf v)
  | none => ∃ v, bootBuiltins x = some v ∧ Φ (.val v)

/-- isinstance -/
noncomputable def kindV (σ : Sto) : AV → Option Value
  | .none => some (.type "NoneType")
  | .bool _ => some (.type "bool")
  | .int _ => some (.type "int")
  | .str _ => some (.type "str")
  | .tup _ => some (.type "tuple")
  | .ref a => match lstOf σ a with
    | some _ => some (.type "list")
    | none => match σ a with
      | some (.dictI _) => some (.type "dict")
      | some (.dictS _) => some (.type "dict")
      | _ => none
  | .val _ => none
  | .exn _ c => some c

noncomputable def AV.exnK (K : List (Addr × Obj)) : AV → Prop
  | .exn _ c => ∃ D, c = .ref D ∧ ExcK K D
  | _ => True

noncomputable def arg1 (as : List AV) (k : AV → Prop) : Prop := match as with
  | [a] => k a
  | _ => False
theorem arg1_of {as : List AV} {k : AV → Prop} (h : arg1 as k) : ∃ a, as = [a] ∧ k a := by
  cases as with
  | nil => exact h.elim
  | cons a r => cases r with
    | nil => exact ⟨a, rfl, h⟩
    | cons _ _ => exact h.elim
noncomputable def arg2 (as : List AV) (k : AV → AV → Prop) : Prop := match as with
  | [a, b] => k a b
  | _ => False
theorem arg2_of {as : List AV} {k : AV → AV → Prop} (h : arg2 as k) : ∃ a b, as = [a, b] ∧ k a b := by
  cases as with
  | nil => exact h.elim
  | cons a r => cases r with
    | nil => exact h.elim
    | cons b r => cases r with
      | nil => exact ⟨a, b, rfl, h⟩
      | cons _ _ => exact h.elim
/-- a list to read -/
noncomputable def onLst (σ : Sto) (a : AV) (k : List AV → Prop) : Prop := match a with
  | .ref l => match lstOf σ l with
    | some vs => k vs
    | none => False
  | _ => False
theorem onLst_of {σ : Sto} {a : AV} {k : List AV → Prop} (h : onLst σ a k) : ∃ l vs, a = .ref l ∧ lstOf σ l = some vs ∧ k vs := by
  cases a with
  | ref l =>
    replace h : (match lstOf σ l with | some vs => k vs | none => False) := h
    cases e : lstOf σ l with
    | none => rw [e] at h; exact h.elim
    | some vs => rw [e] at h; exact ⟨l, vs, rfl, e, h⟩
  | _ => exact h.elim
theorem onLst_mk {σ : Sto} {l : Addr} {vs : List AV} {k : List AV → Prop} (e : lstOf σ l = some vs) (h : k vs) : onLst σ (.ref l) k := by
  show (match lstOf σ l with | some vs => k vs | none => False)
  rw [e]; exact h
noncomputable def lenV (a : AV) (σ : Sto) (Φ : PE) : Prop := match a with
  | .tup vs => vs.length < 2 ^ 62 ∧ Φ (.int vs.length) σ
  | .str x => x.length < 2 ^ 62 ∧ Φ (.int x.length) σ
  | .ref l => onLst σ (.ref l) fun vs => vs.length < 2 ^ 62 ∧ Φ (.int vs.length) σ
  | _ => False
noncomputable def isiV (G : PG) (a b : AV) (σ : Sto) (Φ : PE) : Prop := match b with
  | .val c => ∃ T t b, c = .type T ∧ kindV σ a = some t ∧ W.kitOne G.K t (.type T) = some b ∧ a.exnK G.K ∧ Φ (.bool b) σ
  | .ref C => ∃ t b, kindV σ a = some t ∧ W.kitOne G.K t (.ref C) = some b ∧ a.exnK G.K ∧ Φ (.bool b) σ
  | _ => False
noncomputable def intV (a : AV) (σ : Sto) (Φ : PE) : Prop := match a with
  | .bool b => Φ (.int (if b then 1 else 0)) σ
  | _ => False
noncomputable def biV (G : PG) (n : Nat) (f : Str) (as : List AV) (σ : Sto) (Φ : PE) : Prop :=
  if f = "len" then arg1 as fun a => lenV a σ Φ
  else if f = "isinstance" then arg2 as fun a b => isiV G a b σ Φ
  else if f = "list" then arg1 as fun a => onLst σ a fun vs => newList σ vs Φ
  else if f = "max" then False ∨ arg2 as fun a b => int2 a b fun i j => 10 ≤ n ∧ Φ (.int (max i j)) σ
  else if f = "min" then False
  else if f = "all" then False
  else if f = "int" then arg1 as fun a => intV a σ Φ
  else False

inductive Src where
  | vals (vs : List AV)
  | lst (a : Addr)
  | zip (a b : Addr)
  | enum (a : Addr)
noncomputable def Src.pair : Src → Bool
  | .vals _ => false
  | .lst _ => false
  | .zip _ _ => true
  | .enum _ => true
noncomputable def Src.items (σ : Sto) : Src → Option (List AV)
  | .vals vs => some vs
  | .lst a => lstOf σ a
  | .zip a b => match lstOf σ a, lstOf σ b with
    | some xs, some ys => some (List.zipWith (fun x y => .tup [x, y]) xs ys)
    | _, _ => none
  | .enum a => match lstOf σ a with
    | some xs => some (xs.zipIdx.map fun p => .tup [.int p.2, p.1])
    | _ => none
/-- the ints of a range -/
noncomputable def rangeL (a b c : Int) : List AV := (List.range (Builtin.Range.rangeSize a b c).toNat).map fun (i : Nat) => .int (a + i * c)
noncomputable def rangeV (as : List AV) (Φ : List AV → Prop) : Prop :=
  match as with
  | [.int b] => -(2 ^ 62) ≤ b ∧ b < 2 ^ 62 ∧ Φ (rangeL 0 b 1)
  | [.int a, .int b, .int c] => -(2 ^ 62) ≤ a ∧ a < 2 ^ 62 ∧ -(2 ^ 62) ≤ b ∧ b < 2 ^ 62 ∧ 0 < c ∧ c < 1000 ∧ Φ (rangeL a b c)
  | _ => False

/-- a list's own methods -/
noncomputable def listM (m : Str) (x : Addr) (vs : List AV) (as : List AV) (σ : Sto) (Φ : PE) : Prop :=
  if m = "append" then match as with
    | [a] => vs.length < sizeLine ∧ Φ .none (upd σ x (.list (vs ++ [a])))
    | _ => False
  else if m = "pop" then match as with
    | [.int k] => ∃ v, 0 ≤ k ∧ k < vs.length ∧ k < 2 ^ 62 ∧ vs.length ≤ sizeLine ∧ vs[k.toNat]? = some v ∧ Φ v (upd σ x (.list (vs.eraseIdx k.toNat)))
    | _ => False
  else if m = "clear" then match as with
    | [] => vs.length ≤ sizeLine ∧ Φ .none (upd σ x (.list []))
    | _ => False
  else False
/-- a method is found, then the arguments are reckoned, then it is called -/
noncomputable def methV (G : PG) (n : Nat) (o : AV) (m : Str) (σ : Sto) (ev : (List AV → Sto → Prop) → Prop) (Φ : PE) (Ψ : PY) : Prop :=
  match o with
  | .ref x => match σ x with
    | some (.inst C d) => match σ d with
      | some (.ns l) => ∃ f, l.lookup m = none ∧ W.plainGet G.K C m = true ∧ W.findIn G.K (.ref C) m = some (some (.ref f)) ∧ W.isFn G.K (.ref f) = true ∧ W.keepIn G.K (.ref f) = true ∧ ev fun as σ₁ => WC G n (.ref f) (.ref x :: as) σ₁ Φ Ψ
      | _ => False
    | some (.list _) => (m = "append" ∨ m = "pop" ∨ m = "clear") ∧ ev fun as σ₁ => match σ₁ x with
      | some (.list vs) => listM m x vs as σ₁ Φ
      | _ => False
    | _ => False
  | .str x => (m = "join" ∧ ev fun as σ₁ => arg1 as fun a => onLst σ₁ a fun vs => ∃ ts : List Str, vs = ts.map .str ∧ JoinOk x ts = true ∧ Φ (.str (Txt.join x ts)) σ₁) ∨ (m = "split" ∧ ev fun as σ₁ => match as with
    | [.str y] => (y.length == 0) = false ∧ x.length + 2 ≤ sizeLine ∧ newList σ₁ ((Txt.split x y).map .str) Φ
    | _ => False)
  | _ => False


/-- a def, or a class of ours -/
noncomputable def KeepOk (G : PG) (fa : Addr) : Prop := W.keepIn G.K (.ref fa) = true ∨ ∀ B, G.T B → ∃ o fd, B.get? fa = some o ∧ o.data = .func fd

set_option genInjectivity false in
structure Tr where
  v : Loc → Sto → PE → PY → Prop
  t : Loc → Sto → (Bool → Sto → Prop) → PY → Prop
  i : Loc → Sto → (Src → Sto → Prop) → PY → Prop
noncomputable def Tr.test (v : Loc → Sto → PE → PY → Prop) : Loc → Sto → (Bool → Sto → Prop) → PY → Prop := fun ρ σ Φ Ψ => v ρ σ (fun a σ₁ => ∃ b, truthV σ₁ a = some b ∧ Φ b σ₁) Ψ
noncomputable def Tr.iter (n : Nat) (v : Loc → Sto → PE → PY → Prop) : Loc → Sto → (Src → Sto → Prop) → PY → Prop := fun ρ σ Φ Ψ => v ρ σ (fun a σ₁ => match a with | .ref l => Φ (.lst l) σ₁ | .str x => 10 ≤ n ∧ (∀ c ∈ x.cps.toList, c < 128) ∧ Φ (.vals (x.cps.toList.map fun c => .str ⟨#[c]⟩)) σ₁ | _ => False) Ψ
noncomputable def Tr.plain (n : Nat) (v : Loc → Sto → PE → PY → Prop) : Tr := ⟨v, Tr.test v, Tr.iter n v⟩

noncomputable def seqV : List Tr → Loc → Sto → (List AV → Sto → Prop) → PY → Prop
  | [], _, σ, Φ, _ => Φ [] σ
  | e :: es, ρ, σ, Φ, Ψ => e.v ρ σ (fun a σ₁ => seqV es ρ σ₁ (fun as σ₂ => Φ (a :: as) σ₂) Ψ) Ψ
noncomputable def andV : List Tr → Loc → Sto → PE → PY → Prop
  | [], _, _, _, _ => False
  | [e], ρ, σ, Φ, Ψ => e.v ρ σ Φ Ψ
  | e :: e' :: es, ρ, σ, Φ, Ψ => e.v ρ σ (fun a σ₁ => ∃ b, truthV σ₁ a = some b ∧ if b = true then andV (e' :: es) ρ σ₁ Φ Ψ else Φ a σ₁) Ψ
noncomputable def orV : List Tr → Loc → Sto → PE → PY → Prop
  | [], _, _, _, _ => False
  | [e], ρ, σ, Φ, Ψ => e.v ρ σ Φ Ψ
  | e :: e' :: es, ρ, σ, Φ, Ψ => e.v ρ σ (fun a σ₁ => ∃ b, truthV σ₁ a = some b ∧ if b = true then Φ a σ₁ else orV (e' :: es) ρ σ₁ Φ Ψ) Ψ
noncomputable def allT : List Tr → Loc → Sto → (Bool → Sto → Prop) → PY → Prop
  | [], _, σ, Φ, _ => Φ true σ
  | e :: es, ρ, σ, Φ, Ψ => e.t ρ σ (fun b σ₁ => if b = true then allT es ρ σ₁ Φ Ψ else Φ false σ₁) Ψ
noncomputable def anyT : List Tr → Loc → Sto → (Bool → Sto → Prop) → PY → Prop
  | [], _, σ, Φ, _ => Φ false σ
  | e :: es, ρ, σ, Φ, Ψ => e.t ρ σ (fun b σ₁ => if b = true then Φ true σ₁ else anyT es ρ σ₁ Φ Ψ) Ψ
noncomputable def optV : Option Tr → Loc → Sto → (Option AV → Sto → Prop) → PY → Prop
  | none, _, σ, Φ, _ => Φ none σ
  | some e, ρ, σ, Φ, Ψ => e.v ρ σ (fun a σ₁ => Φ (some a) σ₁) Ψ
/-- a comprehension by what holds between its turns -/
noncomputable def compV (elt : Tr) (x : Str) (it : Tr) (ifs : List Tr) (ρ : Loc) (σ : Sto) (Φ : PE) (Ψ : PY) : Prop :=
  it.i ρ σ (fun src σ₁ => src.pair = false ∧ ∃ vs, src.items σ₁ = some vs ∧ ∃ I : List AV → List AV → Sto → Prop, I vs [] σ₁ ∧
      (∀ rest acc σ₂, I rest acc σ₂ → src.items σ₂ = some vs) ∧
      (∀ v rest acc σ₂, I (v :: rest) acc σ₂ → acc.length < sizeLine ∧ allT ifs (putA x v ρ) σ₂ (fun b σ₃ => if b = true then elt.v (putA x v ρ) σ₃ (fun a σ₄ => I rest (acc ++ [a]) σ₄) (fun _ _ => False) else I rest acc σ₃) (fun _ _ => False)) ∧
      (∀ acc σ₂, I [] acc σ₂ → ∀ a, σ₂ a = none → Φ (.ref a) (upd σ₂ a (.list acc)))) Ψ

noncomputable def biI (G : PG) (n : Nat) (f : Str) (args : List Tr) (ρ : Loc) (σ : Sto) (Φ : Src → Sto → Prop) (Ψ : PY) : Prop :=
  if f = "range" then seqV args ρ σ (fun as σ₁ => 10 ≤ n ∧ rangeV as fun vs => Φ (.vals vs) σ₁) Ψ
  else if f = "enumerate" then seqV args ρ σ (fun as σ₁ => match as with | [.ref a] => 10 ≤ n ∧ Φ (.enum a) σ₁ | _ => False) Ψ
  else Tr.iter n (fun ρ σ Φ Ψ => seqV args ρ σ (fun as σ₁ => biV G n f as σ₁ Φ) Ψ) ρ σ Φ Ψ

noncomputable def putI {α : Type} [DecidableEq α] (k : α) (v : AV) : List (α × AV) → List (α × AV)
  | [] => [(k, v)]
  | (j, u) :: r => if j = k then (j, v) :: r else (j, u) :: putI k v r
noncomputable def strKs : List Ex → Option (List Str)
  | [] => some []
  | .cst (.str k) :: r => (strKs r).map (k :: ·)
  | _ => none
noncomputable def intKs : List Ex → Option (List Int)
  | [] => some []
  | .cst (.int k) :: r => (intKs r).map (k :: ·)
  | _ => none
noncomputable def putAll {α : Type} [DecidableEq α] : List α → List AV → List (α × AV) → List (α × AV)
  | k :: ks, v :: vs, m => putAll ks vs (putI k v m)
  | _, _, m => m
noncomputable def dictV {α : Type} [DecidableEq α] (mk : List (α × AV) → Cell) (ks : List α) (vs : List Tr) (ρ : Loc) (σ : Sto) (Φ : PE) (Ψ : PY) : Prop :=
  ∀ a, σ a = none → seqV vs ρ (upd σ a (mk [])) (fun as σ₁ => σ₁ a = some (mk []) ∧ Φ (.ref a) (upd σ₁ a (mk (putAll ks as [])))) Ψ
noncomputable def dictD (ks : List Ex) (vs : List Tr) (ρ : Loc) (σ : Sto) (Φ : PE) (Ψ : PY) : Prop :=
  match ks with
  | [] => vs = [] ∧ ∀ a, σ a = none → Φ (.ref a) (upd σ a (.dictI []))
  | k :: ks => match strKs (k :: ks) with
    | some l => dictV .dictS l vs ρ σ Φ Ψ
    | none => match intKs (k :: ks) with
      | some l => dictV .dictI l vs ρ σ Φ Ψ
      | none => False

mutual
noncomputable def tr (G : PG) (n : Nat) : Ex → Tr
  | .nm x => .plain n fun ρ σ Φ _ => match ρ.lookup x with
    | some a => Φ a σ
    | none => False
  | .gl x => .plain n fun _ σ Φ _ => globV G x fun a => Φ a σ
  | .cst a => .plain n fun _ σ Φ _ => Φ a σ
  | .bin op l r => .plain n fun ρ σ Φ Ψ => (tr G n l).v ρ σ (fun a σ₁ => (tr G n r).v ρ σ₁ (fun b σ₂ => binV op a b σ₂ Φ) Ψ) Ψ
  | .cmp op l r => .plain n fun ρ σ Φ Ψ => (tr G n l).v ρ σ (fun a σ₁ => (tr G n r).v ρ σ₁ (fun b σ₂ => cmpV G op a b σ₂ fun q => Φ (.bool q) σ₂) Ψ) Ψ
  | .cmp2 o1 o2 l m r => .plain n fun ρ σ Φ Ψ => (tr G n l).v ρ σ (fun a σ₁ => (tr G n m).v ρ σ₁ (fun b σ₂ => cmpV G o1 a b σ₂ fun q =>
      if q = true then (tr G n r).v ρ σ₂ (fun c σ₃ => cmpV G o2 b c σ₃ fun q' => Φ (.bool q') σ₃) Ψ else Φ (.bool false) σ₂) Ψ) Ψ
  | .and_ es => { Tr.plain n (andV (trs G n es)) with t := allT (trs G n es) }
  | .or_ es => { Tr.plain n (orV (trs G n es)) with t := anyT (trs G n es) }
  | .not_ e => { Tr.plain n (fun ρ σ Φ Ψ => (tr G n e).v ρ σ (fun a σ₁ => ∃ b, truthV σ₁ a = some b ∧ Φ (.bool (!b)) σ₁) Ψ) with t := fun ρ σ Φ Ψ => (tr G n e).t ρ σ (fun b σ₁ => Φ (!b) σ₁) Ψ }
  | .neg e => .plain n fun ρ σ Φ Ψ => (tr G n e).v ρ σ (fun a σ₁ => match a with | .int i => Φ (.int (-i)) σ₁ | _ => False) Ψ
  | .sub e i => .plain n fun ρ σ Φ Ψ => (tr G n e).v ρ σ (fun a σ₁ => (tr G n i).v ρ σ₁ (fun k σ₂ => subV a k σ₂ Φ) Ψ) Ψ
  | .slc e lo hi => .plain n fun ρ σ Φ Ψ => (tr G n e).v ρ σ (fun a σ₁ => optV (tro G n lo) ρ σ₁ (fun l σ₂ => optV (tro G n hi) ρ σ₂ (fun h σ₃ => slcV a l h σ₃ Φ) Ψ) Ψ) Ψ
  | .attr e a => .plain n fun ρ σ Φ Ψ => (tr G n e).v ρ σ (fun o σ₁ => attrV G o a σ₁ Φ) Ψ
  | .call f args => .plain n fun ρ σ Φ Ψ => ∃ fa, G.mg f = some (.ref fa) ∧ KeepOk G fa ∧ seqV (trs G n args) ρ σ (fun as σ₁ => WC G n (.ref fa) as σ₁ Φ Ψ) Ψ
  | .bi f args => { Tr.plain n (fun ρ σ Φ Ψ => seqV (trs G n args) ρ σ (fun as σ₁ => biV G n f as σ₁ Φ) Ψ) with i := biI G n f (trs G n args) }
  | .bik _ _ _ _ => .plain n fun _ _ _ _ => False
  | .meth o m args => .plain n fun ρ σ Φ Ψ => (tr G n o).v ρ σ (fun a σ₁ => methV G n a m σ₁ (fun k => seqV (trs G n args) ρ σ₁ k Ψ) Φ Ψ) Ψ
  | .list es => .plain n fun ρ σ Φ Ψ => seqV (trs G n es) ρ σ (fun as σ₁ => newList σ₁ as Φ) Ψ
  | .tup es => .plain n fun ρ σ Φ Ψ => seqV (trs G n es) ρ σ (fun as σ₁ => as.length ≤ sizeLine ∧ Φ (.tup as) σ₁) Ψ
  | .dict ks vs => .plain n (dictD ks (trs G n vs))
  | .comp elt x it ifs => .plain n (compV (tr G n elt) x (tr G n it) (trs G n ifs))
  | .lrange e => .plain n fun ρ σ Φ Ψ => (tr G n e).v ρ σ (fun a σ₁ => ∃ N : Nat, a = .int N ∧ 10 ≤ n ∧ N ≤ 100000 ∧ newList σ₁ (rangeL 0 N 1) Φ) Ψ
noncomputable def trs (G : PG) (n : Nat) : List Ex → List Tr
  | [] => []
  | e :: es => tr G n e :: trs G n es
noncomputable def tro (G : PG) (n : Nat) : Option Ex → Option Tr
  | none => none
  | some e => some (tr G n e)
end

/-- what a statement says -/
abbrev TS := Loc → Sto → PS → PX → Prop
noncomputable def sattrV (G : PG) (o : AV) (x : Str) (a : AV) (σ : Sto) (Φ : Sto → Prop) : Prop :=
  match o with
  | .ref r => match σ r with
    | some (.inst C d) => match σ d with
      | some (.ns m) => m.length < 1000 ∧ W.findIn G.K (.ref C) "__setattr__" = some (some (.builtin "object.__setattr__")) ∧ W.plainOver G.K C = true ∧ W.takerIn G.K C x = some none ∧ W.hasDictIn G.K C = true ∧ Φ (upd σ d (.ns (putA x a m)))
      | _ => False
    | _ => False
  | _ => False
noncomputable def sitemV (o i a : AV) (σ : Sto) (Φ : Sto → Prop) : Prop :=
  match o with
  | .ref r => match σ r with
    | some (.list vs) => match i with
      | .int k => 0 ≤ k ∧ k < vs.length ∧ k < 2 ^ 62 ∧ Φ (upd σ r (.list (vs.set k.toNat a)))
      | _ => False
    | some (.dictI kvs) => match i with
      | .int k => kvs.length < sizeLine ∧ Φ (upd σ r (.dictI (putI k a kvs)))
      | _ => False
    | some (.dictS kvs) => match i with
      | .str k => kvs.length < sizeLine ∧ Φ (upd σ r (.dictS (putI k a kvs)))
      | _ => False
    | _ => False
  | _ => False
/-- an exception class of ours under ValueError -/
noncomputable def bmVE : List Value := [.type "ValueError", .type "Exception", .type "BaseException", .type "object"]
noncomputable def ExcOk (G : PG) (x : Str) (C : Addr) : Prop := ∀ B, G.T B → OwnCls x C bmVE "ValueError.__new__" G.mg B
noncomputable def loopV (src : Src) (bind : AV → Loc → Option Loc) (body : TS) (ρ : Loc) (σ : Sto) (Φ : PS) (Ψ : PX) : Prop :=
  ∃ vs, src.items σ = some vs ∧ ∃ I : List AV → Loc → Sto → Prop, I vs ρ σ ∧ (∀ rest ρ₂ σ₂, I rest ρ₂ σ₂ → src.items σ₂ = some vs) ∧
    (∀ v rest ρ₂ σ₂, I (v :: rest) ρ₂ σ₂ → ∃ ρ₃, bind v ρ₂ = some ρ₃ ∧ body ρ₃ σ₂ (fun fl ρ₄ σ₄ => match fl with | .next => I rest ρ₄ σ₄ | .cont => I rest ρ₄ σ₄ | .brk => Φ .next ρ₄ σ₄ | .ret a => Φ (.ret a) ρ₄ σ₄) Ψ) ∧
    (∀ ρ₂ σ₂, I [] ρ₂ σ₂ → Φ .next ρ₂ σ₂)
noncomputable def bind1 (x : Str) (v : AV) (ρ : Loc) : Option Loc := some (putA x v ρ)
noncomputable def putAs : List Str → List AV → Loc → Loc
  | x :: xs, v :: vs, ρ => putAs xs vs (putA x v ρ)
  | _, _, ρ => ρ
noncomputable def bindT (xs : List Str) (v : AV) (ρ : Loc) : Option Loc := match v with
  | .tup vs => if vs.length = xs.length then some (putAs xs vs ρ) else none
  | _ => none
noncomputable def whileV (c : Tr) (body : TS) (ρ : Loc) (σ : Sto) (Φ : PS) (Ψ : PX) : Prop :=
  ∃ I : Nat → Loc → Sto → Prop, (∃ k, I k ρ σ) ∧ ∀ k ρ₂ σ₂, I k ρ₂ σ₂ → c.t ρ₂ σ₂ (fun b σ₃ => if b = true then body ρ₂ σ₃ (fun fl ρ₄ σ₄ => match fl with
      | .next => ∃ k', k' < k ∧ I k' ρ₄ σ₄ | .cont => ∃ k', k' < k ∧ I k' ρ₄ σ₄ | .brk => Φ .next ρ₄ σ₄ | .ret a => Φ (.ret a) ρ₄ σ₄) Ψ else Φ .next ρ₂ σ₃) (fun c σ₃ => Ψ c ρ₂ σ₃)

mutual
noncomputable def ts (G : PG) (n : Nat) : Sm → TS
  | .asg x e => fun ρ σ Φ Ψ => (tr G n e).v ρ σ (fun a σ₁ => Φ .next (putA x a ρ) σ₁) (fun c σ₁ => Ψ c ρ σ₁)
  | .asgT _ _ => fun _ _ _ _ => False
  | .sattr o x e => fun ρ σ Φ Ψ => (tr G n e).v ρ σ (fun a σ₁ => (tr G n o).v ρ σ₁ (fun b σ₂ => sattrV G b x a σ₂ fun σ₃ => Φ .next ρ σ₃) (fun c σ₁ => Ψ c ρ σ₁)) (fun c σ₁ => Ψ c ρ σ₁)
  | .sitem o i e => fun ρ σ Φ Ψ => (tr G n e).v ρ σ (fun a σ₁ => (tr G n o).v ρ σ₁ (fun b σ₂ => (tr G n i).v ρ σ₂ (fun k σ₃ => sitemV b k a σ₃ fun σ₄ => Φ .next ρ σ₄) (fun c σ₁ => Ψ c ρ σ₁)) (fun c σ₁ => Ψ c ρ σ₁)) (fun c σ₁ => Ψ c ρ σ₁)
  | .expr e => fun ρ σ Φ Ψ => (tr G n e).v ρ σ (fun _ σ₁ => Φ .next ρ σ₁) (fun c σ₁ => Ψ c ρ σ₁)
  | .ite c t f => fun ρ σ Φ Ψ => (tr G n c).t ρ σ (fun b σ₁ => if b = true then tss G n t ρ σ₁ Φ Ψ else tss G n f ρ σ₁ Φ Ψ) (fun c σ₁ => Ψ c ρ σ₁)
  | .for_ x it body => fun ρ σ Φ Ψ => (tr G n it).i ρ σ (fun src σ₁ => src.pair = false ∧ loopV src (bind1 x) (tss G n body) ρ σ₁ Φ Ψ) (fun c σ₁ => Ψ c ρ σ₁)
  | .forT xs it body => fun ρ σ Φ Ψ => (tr G n it).i ρ σ (fun src σ₁ => src.pair = true ∧ 10 ≤ n ∧ loopV src (bindT xs) (tss G n body) ρ σ₁ Φ Ψ) (fun c σ₁ => Ψ c ρ σ₁)
  | .while_ c body => fun ρ σ Φ Ψ => whileV (tr G n c) (tss G n body) ρ σ Φ Ψ
  | .ret none => fun ρ σ Φ _ => Φ (.ret .none) ρ σ
  | .ret (some e) => fun ρ σ Φ Ψ => (tr G n e).v ρ σ (fun a σ₁ => Φ (.ret a) ρ σ₁) (fun c σ₁ => Ψ c ρ σ₁)
  | .raise x _ => fun ρ σ _ Ψ => ∃ C, G.mg x = some (.ref C) ∧ 10 ≤ n ∧ ExcOk G x C ∧ Ψ (.ref C) ρ σ
  | .try_ body x y h => fun ρ σ Φ Ψ => 10 ≤ n ∧ tss G n body ρ σ Φ (fun c ρ₁ σ₁ => ∃ C, G.mg x = some (.ref C) ∧ W.exmOne G.K c (.ref C) = some true ∧
      ∀ e, tss G 9 h (putA y (.exn e c) ρ₁) σ₁ (fun fl ρ₂ σ₂ => ∀ ρ₃ : Loc, (∀ z, z ≠ y → ρ₃.lookup z = ρ₂.lookup z) → Φ fl ρ₃ σ₂) (fun _ _ _ => False))
noncomputable def tss (G : PG) (n : Nat) : List Sm → TS
  | [] => fun ρ σ Φ _ => Φ .next ρ σ
  | s :: r => fun ρ σ Φ Ψ => ts G n s ρ σ (fun fl ρ₁ σ₁ => match fl with | .next => tss G n r ρ₁ σ₁ Φ Ψ | .brk => Φ .brk ρ₁ σ₁ | .cont => Φ .cont ρ₁ σ₁ | .ret a => Φ (.ret a) ρ₁ σ₁) Ψ
end

end Mine
set_option maxRecDepth 100000
namespace Mine
open PySem PyProof.Rows

variable {G : PG}

structure Cx (G : PG) (B : Heap) (H : Hid) (A : Around) (env : Env) (n : Nat) : Prop where
  T : G.T B
  E : EnvOk B H env
  A : AOk B H env n A

section
variable {B : Heap} {H : Hid} {A : Around} {env : Env} {n : Nat} {ρ : Loc} {σ : Sto} {s : Shared} {Φ : PE} {Ψ : PX}

abbrev Go (G : PG) (B : Heap) (H : Hid) (A : Around) (env : Env) (ρ : Loc) (s : Shared) (t : Sem Value) (Φ : PE) (Ψ : PX) : Prop := wpAny G.M A t (QE G B H env ρ Φ s) (QX G B H env Ψ s) s

theorem Go.step {t : Sem Value} {s₁ : Shared} (st : Step H s s₁) (h : Go G B H A env ρ s₁ t Φ Ψ) : wpAny G.M A t (QE G B H env ρ Φ s) (QX G B H env Ψ s) s₁ :=
  wpAny_mono h (fun _ _ q => q.step st) fun _ _ q => q.step st

/-! ### constants, names -/
theorem go_load {x : Str} {a : AV} (C : Cx G B H A env n) (S : St G B H env ρ σ s) (hk : env.kindOf x = some .local ∨ env.kindOf x = some .cell ∨ env.kindOf x = some .free) (hn : (x == ("__classdict__" : Str)) = false) (hz : x ≠ ".0")
    (e : ρ.lookup x = some a) (p : Φ a σ) : Go G B H A env ρ s (loadName env x) Φ Ψ := by
  rcases hk with hk | hk | hk
  · obtain ⟨m, hm, hr⟩ := S.frame.ns
    have := hr x hk hz
    rw [e] at this
    cases q : m x with
    | none => rw [q] at this; exact this.elim
    | some v =>
      rw [q] at this
      exact wpAny_loadName_local C.E.kind hk hm q (qe S (.refl _ _) this p)
  · obtain ⟨c, v, h1, h2, h3⟩ := S.frame.cells x (.inl hk)
    rw [e] at h3
    cases v with
    | none => exact h3.elim
    | some v => exact wpAny_loadName_cell C.E.kind hk h1 h2 (qe S (.refl _ _) h3 p)
  · obtain ⟨c, v, h1, h2, h3⟩ := S.frame.cells x (.inr hk)
    rw [e] at h3
    cases v with
    | none => exact h3.elim
    | some v => exact wpAny_loadName_free C.E.kind hk h1 h2 (qe S (.refl _ _) h3 p) hn

theorem rel_avOf {h : Heap} (v : Value) : Rel H h (avOf v) v := by cases v <;> simp [avOf, Rel]

theorem go_glob {x : Str} (C : Cx G B H A env n) (S : St G B H env ρ σ s) (hk : env.kindOf x = some .globalImplicit) (hn : x ≠ "__name__") (pos : Pos) (hd : (x == ("__debug__" : Str)) = false)
    (p : globV G x fun a => Φ a σ) : Go G B H A env ρ s (eval (.Name x pos) env) Φ Ψ := by
  have hg := (G.hg C.T).keeps S.keep
  have hb := (G.hb C.T).keeps S.keep
  rw [← C.E.glob] at hg
  rw [← C.E.bltn] at hb
  unfold globV at p
  refine Calls.Name_function_global C.E.kind hk ?_ hd
  cases q : G.mg x with
  | some v =>
    rw [q] at p
    exact Calls.loadGlobal_global hg q (qe S (.refl _ _) (rel_avOf v) p)
  | none =>
    rw [q] at p
    obtain ⟨v, hv, p⟩ := p
    exact Calls.loadGlobal_builtin hg q hb ((G.bi x hn).trans hv) (qe S (.refl _ _) (by simp [Rel]) p)
end
end Mine
set_option maxRecDepth 100000
namespace Mine
open PySem PyProof.Rows

variable {G : PG}
section
variable {B : Heap} {H : Hid} {A : Around} {env : Env} {n : Nat} {ρ : Loc} {σ : Sto} {s : Shared} {Φ : PE} {Ψ : PX}

theorem intBits_le {i : Int} {k : Nat} (h : i.natAbs < 2 ^ k) : Builtin.Int.intBits i ≤ k := by
  unfold Builtin.Int.intBits
  split
  · omega
  · rename_i q
    have hn : i.natAbs ≠ 0 := fun e => q (by rw [Int.natAbs_eq_zero.mp e]; rfl)
    have := (Nat.log2_lt hn).mpr h
    omega

theorem St.listAt {l : Addr} {vs : List AV} (S : St G B H env ρ σ s) (e : lstOf σ l = some vs) : ∃ items n, s.heap.get? l = some ⟨.type "list", none, .seq items n, #[]⟩ ∧ RelL H s.heap vs items.toList := by
  unfold lstOf at e
  split at e
  · rename_i q; cases e; exact (S.store l _ q).1
  · rename_i q; cases e; exact (S.store l _ q).1
  · cases e
theorem isList_of {h : Heap} {l : Addr} {items : Array Value} {n : Nat} (e : h.get? l = some ⟨.type "list", none, .seq items n, #[]⟩) : h.IsList l items := ⟨_, e, rfl, n, rfl⟩

/-- a new list -/
theorem go_newList {vs : List AV} {ws : List Value} {Q : Value → Shared → Prop} (S : St G B H env ρ σ s) (r : RelL H s.heap vs ws) (p : newList σ vs Φ)
    (h : ∀ s', QE G B H env ρ Φ s (.ref s.heap.objs.size) s' → s' = { s with heap := s.heap.push { cls := .type "list", data := .seq ws.toArray } } → Q (.ref s.heap.objs.size) s') :
    Q (.ref s.heap.objs.size) { s with heap := s.heap.push { cls := .type "list", data := .seq ws.toArray } } := by
  refine h _ ?_ rfl
  have k : ∀ b o, s.heap.get? b = some o → (s.heap.push { cls := .type "list", data := .seq ws.toArray }).get? b = some o := fun b o e => Heap.get?_push_of_some _ e
  refine ⟨.ref s.heap.objs.size, _, by simp [Rel], S.new (s' := { s with heap := s.heap.push { cls := .type "list", data := .seq ws.toArray } }) k (Nat.le_refl _) (c := .list vs) ?_, .push _, p.2 _ (S.fresh (Nat.le_refl _))⟩
  exact ⟨ws.toArray, 0, Heap.get?_push_size _ rfl, by simpa using r.grow (.of_keep k)⟩

theorem go_add_lists {l b : Addr} {xs ys : List AV} (S : St G B H env ρ σ s) (hl : lstOf σ l = some xs) (hb : lstOf σ b = some ys) (p : newList σ (xs ++ ys) Φ) : Go G B H A env ρ s (binaryOp .Add (.ref l) (.ref b)) Φ Ψ := by
  obtain ⟨i1, n1, h1, r1⟩ := S.listAt hl
  obtain ⟨i2, n2, h2, r2⟩ := S.listAt hb
  have hsz : i1.size + i2.size ≤ sizeLine := by
    have := p.1
    rw [List.length_append, ← r1.length, ← r2.length] at this
    simpa using this
  refine concat_meets ⟨_, h1, rfl⟩ ⟨_, h2, rfl⟩ noFill_list_add seq_list_add PySem.F.slot_list_add PySem.F.entry_list_add (PySem.F.args_list_add_2 _ _) (list_addW l b i1 i2 n1 n2 none none #[] #[] hsz) ⟨h1, h2, ?_⟩
  have e : i1 ++ i2 = (i1.toList ++ i2.toList).toArray := by simp
  rw [e]
  exact go_newList S (r1.append r2) p fun s' q _ => q

theorem bin_ok {op : Operator} {a b : AV} {v u : Value} (S : St G B H env ρ σ s) (ra : Rel H s.heap a v) (rb : Rel H s.heap b u) (p : binV op a b σ Φ) : Go G B H A env ρ s (binaryOp op v u) Φ Ψ := by
  cases op with
  | Add =>
    replace p : addV a b σ Φ := p
    cases a with
    | int i => cases b with
      | int j =>
        simp only [Rel] at ra rb; obtain ⟨t, rfl⟩ := ra; obtain ⟨t', rfl⟩ := rb
        exact add_int (qe (S.tok _) (Step.tok _ _ _) (by simp [Rel]) p)
      | _ => exact p.elim
    | str x => cases b with
      | str y =>
        simp only [Rel] at ra rb; obtain ⟨t, rfl⟩ := ra; obtain ⟨t', rfl⟩ := rb
        exact add_str (fun t' tk => qe (S.tok _) (Step.tok _ _ _) (by simp [Rel]) p.2) p.1
      | _ => exact p.elim
    | ref l => cases b with
      | ref r =>
        simp only [Rel] at ra rb; subst ra; subst rb
        replace p : (match lstOf σ l with | some xs => (match lstOf σ r with | some ys => newList σ (xs ++ ys) Φ | none => False) | none => False) := p
        cases h1 : lstOf σ l with
        | none => rw [h1] at p; exact p.elim
        | some xs =>
          cases h2 : lstOf σ r with
          | none => rw [h1, h2] at p; exact p.elim
          | some ys => rw [h1, h2] at p; exact go_add_lists S h1 h2 p
      | _ => exact p.elim
    | _ => exact p.elim
  | Sub =>
    obtain ⟨i, j, rfl, rfl, p⟩ := int2_of p
    simp only [Rel] at ra rb; obtain ⟨t, rfl⟩ := ra; obtain ⟨t', rfl⟩ := rb
    exact sub_int (qe (S.tok _) (Step.tok _ _ _) (by simp [Rel]) p)
  | Mult =>
    obtain ⟨i, j, rfl, rfl, p⟩ := int2_of p
    simp only [Rel] at ra rb; obtain ⟨t, rfl⟩ := ra; obtain ⟨t', rfl⟩ := rb
    exact mul_int (qe (S.tok _) (Step.tok _ _ _) (by simp [Rel]) p.2) (IntMulOk.of_left (Nat.le_succ_of_le (intBits_le p.1)))
  | FloorDiv =>
    obtain ⟨i, j, rfl, rfl, p⟩ := int2_of p
    simp only [Rel] at ra rb; obtain ⟨t, rfl⟩ := ra; obtain ⟨t', rfl⟩ := rb
    refine floordiv_int p.1 (qe (S.tok _) (Step.tok _ _ _) (by simp [Rel]) p.2.2) (.inl (PyProof.noPylong_of_log2 ?_))
    have hn : j.natAbs ≠ 0 := fun e => p.1 (Int.natAbs_eq_zero.mp e)
    have := (Nat.log2_lt hn).mpr p.2.1
    omega
  | Mod =>
    obtain ⟨i, j, rfl, rfl, p⟩ := int2_of p
    simp only [Rel] at ra rb; obtain ⟨t, rfl⟩ := ra; obtain ⟨t', rfl⟩ := rb
    exact mod_int' p.1 (qe (S.tok _) (Step.tok _ _ _) (by simp [Rel]) p.2)
  | Pow =>
    obtain ⟨i, j, rfl, rfl, p⟩ := int2_of p
    simp only [Rel] at ra rb; obtain ⟨t, rfl⟩ := ra; obtain ⟨t', rfl⟩ := rb
    obtain ⟨rfl, h0, h1, p⟩ := p
    refine pow_int h0 ?_ (qe (S.tok _) (Step.tok _ _ _) (by simp [Rel]) p)
    have : (Builtin.Int.intBits 10 : Int) = 4 := by decide
    rw [this]; omega
  | _ => exact p.elim
end
end Mine
set_option maxRecDepth 100000
namespace Mine
open PySem PyProof.Rows PySem.SeqAt

variable {G : PG}
section
variable {B : Heap} {H : Hid} {A : Around} {env : Env} {n : Nat} {ρ : Loc} {σ : Sto} {s : Shared} {Φ : PE} {Ψ : PX}

mutual
theorem reads_of (S : St G B H env ρ σ s) : ∀ (k : Nat) {a : AV} {d : PyData} {v : Value}, datum σ k a = some d → Rel H s.heap a v → ∃ as, Reads s.heap v d as
  | 0, a, d, v, e, r => by simp [datum] at e
  | k + 1, .none, d, v, e, r => by simp only [datum] at e; cases e; simp only [Rel] at r; subst r; exact ⟨_, .none⟩
  | k + 1, .bool b, d, v, e, r => by simp only [datum] at e; cases e; simp only [Rel] at r; subst r; exact ⟨_, .bool b⟩
  | k + 1, .int i, d, v, e, r => by simp only [datum] at e; cases e; simp only [Rel] at r; obtain ⟨t, rfl⟩ := r; exact ⟨_, .int i t⟩
  | k + 1, .str x, d, v, e, r => by simp only [datum] at e; cases e; simp only [Rel] at r; obtain ⟨t, rfl⟩ := r; exact ⟨_, .str x t⟩
  | k + 1, .tup vs, d, v, e, r => by
    simp only [datum] at e
    obtain ⟨ds, h1, rfl⟩ := Option.map_eq_some_iff.mp e
    simp only [Rel] at r
    obtain ⟨a, items, rfl, ⟨o, ho, hc, m, hd⟩, _, rl⟩ := r
    obtain ⟨as, q⟩ := readsAll_of S k h1 rl
    exact ⟨_, .tuple ho hc hd q⟩
  | k + 1, .ref a, d, v, e, r => by
    simp only [datum] at e
    simp only [Rel] at r; subst r
    split at e
    · rename_i vs hq
      obtain ⟨ds, h1, rfl⟩ := Option.map_eq_some_iff.mp e
      obtain ⟨items, m, ho, rl⟩ := S.listAt hq
      obtain ⟨as, q⟩ := readsAll_of S k h1 rl
      exact ⟨_, .list ho rfl rfl q⟩
    · cases e
  | k + 1, .val _, d, v, e, r => by simp [datum] at e
  | k + 1, .exn _ _, d, v, e, r => by simp [datum] at e
theorem readsAll_of (S : St G B H env ρ σ s) : ∀ (k : Nat) {as : List AV} {ds : List PyData} {vs : List Value}, mapO (datum σ k) as = some ds → RelL H s.heap as vs → ∃ bs, ReadsAll s.heap vs ds bs
  | k, [], ds, vs, e, r => by simp only [mapO] at e; cases e; simp only [RelL] at r; subst r; exact ⟨_, .nil⟩
  | k, a :: as, ds, vs, e, r => by
    simp only [mapO] at e
    split at e
    · rename_i b bs h1 h2
      cases e
      simp only [RelL] at r
      obtain ⟨v, rest, rfl, r1, r2⟩ := r
      obtain ⟨x, q1⟩ := reads_of S k h1 r1
      obtain ⟨y, q2⟩ := readsAll_of S k h2 r2
      exact ⟨_, .cons q1 q2⟩
    · cases e
end

theorem units_of (C : Cx G B H A env n) : A.units + 64 < cLine := by have := C.A.units; unfold cLine; omega
abbrev GoB (G : PG) (B : Heap) (H : Hid) (A : Around) (env : Env) (ρ : Loc) (s : Shared) (t : Sem Value) (Φ : Bool → Sto → Prop) (Ψ : PX) : Prop :=
  wpAny G.M A t (fun v s' => ∃ b σ', v = .bool b ∧ St G B H env ρ σ' s' ∧ Step H s s' ∧ Φ b σ') (QX G B H env Ψ s) s

theorem eq_ok {a b : AV} {v u : Value} {Φ : Bool → Sto → Prop} (C : Cx G B H A env n) (S : St G B H env ρ σ s) (ra : Rel H s.heap a v) (rb : Rel H s.heap b u) (p : eqV σ a b fun q => Φ q σ) : GoB G B H A env ρ s (compareOp .Eq v u) Φ Ψ := by
  have gen : eqD σ a b (fun q => Φ q σ) → GoB G B H A env ρ s (compareOp .Eq v u) Φ Ψ := fun p => by
    obtain ⟨da, db, h1, h2, h3, h4, p⟩ := p
    obtain ⟨as, q1⟩ := reads_of S 6 h1 ra
    obtain ⟨bs, q2⟩ := reads_of S 6 h2 rb
    exact compareEq_shaped q1 q2 h3 h4 (units_of C) ⟨_, σ, rfl, S, .refl _ _, p⟩
  cases a with
  | int i => cases b with
    | int j =>
      simp only [Rel] at ra rb; obtain ⟨t, rfl⟩ := ra; obtain ⟨t', rfl⟩ := rb
      exact PyProof.Rows.eq_int ⟨_, σ, rfl, S, .refl _ _, p⟩
    | _ => exact gen p
  | str x => cases b with
    | str y =>
      simp only [Rel] at ra rb; obtain ⟨t, rfl⟩ := ra; obtain ⟨t', rfl⟩ := rb
      exact PyProof.Rows.eq_str ⟨_, σ, rfl, S, .refl _ _, p⟩
    | _ => exact gen p
  | bool x => cases b with
    | bool y =>
      simp only [Rel] at ra rb; subst ra; subst rb
      exact PyProof.Rows.eq_bool ⟨_, σ, rfl, S, .refl _ _, p⟩
    | _ => exact gen p
  | none => cases b with
    | none =>
      simp only [Rel] at ra rb; subst ra; subst rb
      exact PySem.EqNone.eq_none_none ⟨_, σ, rfl, S, .refl _ _, p⟩
    | _ => exact gen p
  | _ => exact gen p

theorem ne_ok {a b : AV} {v u : Value} {Φ : Bool → Sto → Prop} (C : Cx G B H A env n) (S : St G B H env ρ σ s) (ra : Rel H s.heap a v) (rb : Rel H s.heap b u) (p : eqV σ a b fun q => Φ (!q) σ) : GoB G B H A env ρ s (compareOp .NotEq v u) Φ Ψ := by
  have gen : eqD σ a b (fun q => Φ (!q) σ) → GoB G B H A env ρ s (compareOp .NotEq v u) Φ Ψ := fun p => by
    obtain ⟨da, db, h1, h2, h3, h4, p⟩ := p
    obtain ⟨as, q1⟩ := reads_of S 6 h1 ra
    obtain ⟨bs, q2⟩ := reads_of S 6 h2 rb
    exact compareNe_shaped q1 q2 h3 h4 (units_of C) ⟨_, σ, rfl, S, .refl _ _, p⟩
  cases a with
  | int i => cases b with
    | int j =>
      simp only [Rel] at ra rb; obtain ⟨t, rfl⟩ := ra; obtain ⟨t', rfl⟩ := rb
      exact PyProof.Rows.ne_int ⟨_, σ, rfl, S, .refl _ _, p⟩
    | _ => exact gen p
  | str x => cases b with
    | str y =>
      simp only [Rel] at ra rb; obtain ⟨t, rfl⟩ := ra; obtain ⟨t', rfl⟩ := rb
      exact PyProof.Rows.ne_str ⟨_, σ, rfl, S, .refl _ _, p⟩
    | _ => exact gen p
  | bool x => cases b with
    | bool y =>
      simp only [Rel] at ra rb; subst ra; subst rb
      exact PyProof.Rows.ne_bool ⟨_, σ, rfl, S, .refl _ _, p⟩
    | _ => exact gen p
  | none => cases b with
    | none =>
      simp only [Rel] at ra rb; subst ra; subst rb
      exact PySem.EqNone.ne_none_none ⟨_, σ, rfl, S, .refl _ _, p⟩
    | _ => exact gen p
  | _ => exact gen p

open Classical in
theorem in_seq {vs : List AV} {ws : List Value} {a : AV} {u : Value} {da : PyData} {dvs : List PyData} (C : Cx G B H A env n) (S : St G B H env ρ σ s) (ra : Rel H s.heap a u) (rl : RelL H s.heap vs ws) (h1 : datum σ 6 a = some da) (h2 : mapO (datum σ 6) vs = some dvs)
    (h3 : shaped da = true) (h4 : ∀ d ∈ dvs, shaped d = true) : ∃ e : Value → Bool, (∀ y, y ∈ ws → EqAt A.in1 s y u (e y)) ∧ ws.any e = dvs.any fun d => PyData.eqv d da := by
  -- the answer hangs on the value alone
  have uniq : ∀ y, (∃ d as, d ∈ dvs ∧ Reads s.heap y d as ∧ EqAt A.in1 s y u (PyData.eqv d da)) → True := fun _ _ => trivial
  refine ⟨fun y => if h : ∃ d, d ∈ dvs ∧ (∃ as, Reads s.heap y d as) then PyData.eqv h.choose da else false, ?_⟩
  have key : ∀ {vs : List AV} {ws : List Value} {ds : List PyData}, RelL H s.heap vs ws → mapO (datum σ 6) vs = some ds → (∀ d ∈ ds, d ∈ dvs) →
      (∀ y, y ∈ ws → ∃ d as, d ∈ dvs ∧ Reads s.heap y d as) ∧ (ws.any fun y => if h : ∃ d, d ∈ dvs ∧ (∃ as, Reads s.heap y d as) then PyData.eqv h.choose da else false) = ds.any fun d => PyData.eqv d da := by
    intro vs
    induction vs with
    | nil => intro ws ds r e _; simp only [RelL] at r; subst r; simp only [mapO] at e; cases e; simp
    | cons b vs ih =>
      intro ws ds r e hd
      simp only [RelL] at r
      obtain ⟨v, rest, rfl, r1, r2⟩ := r
      simp only [mapO] at e
      split at e
      · rename_i d ds' h1 h2
        cases e
        obtain ⟨as, q⟩ := reads_of S 6 h1 r1
        obtain ⟨i1, i2⟩ := ih r2 h2 fun x hx => hd x (.tail _ hx)
        refine ⟨fun y hy => ?_, ?_⟩
        · rcases List.mem_cons.mp hy with rfl | hy
          · exact ⟨d, as, hd d (.head _), q⟩
          · exact i1 y hy
        · have hex : ∃ d, d ∈ dvs ∧ (∃ as, Reads s.heap v d as) := ⟨d, hd d (.head _), as, q⟩
          have hu : hex.choose = d := by
            obtain ⟨c1, as', c2⟩ := hex.choose_spec
            exact Reads.unique _ _ _ _ _ (canLay_of_shaped (h4 _ c1)) c2 q
          rw [List.any_cons, List.any_cons, i2, dif_pos hex, hu]
      · cases e
  obtain ⟨k1, k2⟩ := key rl h2 fun _ h => h
  refine ⟨fun y hy => ?_, k2⟩
  obtain ⟨d, as, hd, q⟩ := k1 y hy
  have hex : ∃ d, d ∈ dvs ∧ (∃ as, Reads s.heap y d as) := ⟨d, hd, as, q⟩
  have hu : hex.choose = d := by
    obtain ⟨c1, as', c2⟩ := hex.choose_spec
    exact Reads.unique _ _ _ _ _ (canLay_of_shaped (h4 _ c1)) c2 q
  show EqAt A.in1 s y u (if h : ∃ d, d ∈ dvs ∧ (∃ as, Reads s.heap y d as) then PyData.eqv h.choose da else false)
  rw [dif_pos hex, hu]
  obtain ⟨bs, q2⟩ := reads_of S 6 h1 ra
  refine eqAt_reads d da A.in1 s y u as bs q q2 (canLay_of_shaped (h4 d hd)) (canLay_of_shaped h3) (room_of_shaped (h4 d hd) ?_)
  have := C.A.units
  show A.units + 1 + 64 < cLine
  unfold cLine; omega

theorem ref_ne_sys {a : Addr} {c : Cell} (S : St G B H env ρ σ s) (e : σ a = some c) (hw : c.own = true := by rfl) : (a == sysModules) = false := by
  have := S.low a c e hw
  have h : a ≠ sysModules := fun q => by
    rw [q] at this
    exact absurd this (by decide)
  simpa using h

theorem dictOf_lookup {K : Type} [DecidableEq K] : ∀ {vs : List (K × Value)} {kvs : List (K × AV)} {h : Heap} (k : K), vs.map (·.1) = kvs.map (·.1) → RelL H h (kvs.map (·.2)) (vs.map (·.2)) →
    (match kvs.lookup k with | some a => ∃ v, valueAt vs k = some v ∧ Rel H h a v | none => valueAt vs k = none)
  | [], [], h, k, _, _ => by simp [valueAt]
  | [], _ :: _, _, _, e, _ => by simp at e
  | _ :: _, [], _, _, e, _ => by simp at e
  | (j, v) :: vs, (j', a) :: kvs, h, k, e, r => by
    simp only [List.map_cons, List.cons.injEq] at e
    obtain ⟨rfl, e⟩ := e
    simp only [List.map_cons, RelL] at r
    obtain ⟨v', rest, e', r1, r2⟩ := r
    cases e'
    rw [List.lookup_cons]
    by_cases q : k = j
    · subst q
      simp only [beq_self_eq_true]
      exact ⟨v, by simp [valueAt], r1⟩
    · have : (k == j) = false := by simpa using q
      rw [this]
      have ih := dictOf_lookup k e r2
      have hv : valueAt ((j, v) :: vs) k = valueAt vs k := by
        have : ¬ j = k := fun z => q z.symm
        simp [valueAt, List.find?_cons, this]
      rw [hv]; exact ih

theorem mapOf_of {K : Type} [DecidableEq K] {knd : KeyKind G.prog G.w K} {h : Heap} {d : Addr} {vs : List (K × Value)} (D : h.DictOf knd d vs) : h.MapOf knd d (valueAt vs) := by
  obtain ⟨o, es, ep, h1, h2, h3, h4, h5, h6⟩ := D
  refine ⟨o, es, ep, h1, h2, h3, h4, fun k => ?_⟩
  rw [← h5.find k]
  unfold findBy
  rw [← Array.find?_toList]

theorem any_lookup {K : Type} [DecidableEq K] (k : K) : ∀ (kvs : List (K × AV)), (kvs.any fun kv => kv.1 == k) = (kvs.lookup k).isSome
  | [] => rfl
  | (j, a) :: r => by
    rw [List.any_cons, List.lookup_cons, any_lookup k r]
    by_cases q : k = j
    · subst q; simp
    · have h1 : (k == j) = false := by simpa using q
      have h2 : (j == k) = false := by simpa using fun z => q (Eq.symm z)
      simp [h1, h2]

theorem in_ok {a b : AV} {v u : Value} {Φ : Bool → Sto → Prop} (C : Cx G B H A env n) (S : St G B H env ρ σ s) (ra : Rel H s.heap a v) (rb : Rel H s.heap b u) (p : inV G σ a b fun q => Φ q σ) :
    wpAny G.M A (contains u v) (fun r s' => ∃ σ', St G B H env ρ σ' s' ∧ Step H s s' ∧ Φ r σ') (QX G B H env Ψ s) s := by
  have back : ∀ {r : Bool} {s' : Shared}, wpAny G.M A (compareOp .In v u) (fun x s' => ∃ b σ', x = .bool b ∧ St G B H env ρ σ' s' ∧ Step H s s' ∧ Φ b σ') (QX G B H env Ψ s) s →
      wpAny G.M A (contains u v) (fun r s' => ∃ σ', St G B H env ρ σ' s' ∧ Step H s s' ∧ Φ r σ') (QX G B H env Ψ s) s := by
    intro _ _ h Γ p' hΓ
    have := h Γ p' hΓ
    rw [show compareOp .In v u = (do return .bool (← contains u v)) from rfl, Sem.wp_bind'] at this
    refine Sem.wp_mono _ Γ _ (fun r p s' q => ?_) (fun _ _ _ q => q) _ _ this
    obtain ⟨b, σ', e, S', st, p⟩ := (q : ∃ b σ', Value.bool r = .bool b ∧ _)
    cases e
    exact ⟨σ', S', st, p⟩
  refine back (r := true) (s' := s) ?_
  unfold inV at p
  split at p
  · rename_i l
    simp only [Rel] at rb; subst rb
    split at p
    · rename_i vs hq
      exact p.elim
    split at p
    · rename_i kvs hq
      obtain ⟨i, rfl, p⟩ := p
      simp only [Rel] at ra; obtain ⟨t, rfl⟩ := ra
      obtain ⟨vs, D, e, r⟩ := (S.store l _ hq).1
      refine wpAny_in_of (knd := intKind G.prog G.w) (intKind_is G.prog G.w i t) (ref_ne_sys S hq) (mapOf_of D) ⟨_, σ, rfl, S.tok _, Step.tok _ _ _, ?_⟩
      rw [any_lookup] at p
      have := dictOf_lookup i e r
      cases z : kvs.lookup i with
      | none => rw [z] at this p; rw [this]; exact p
      | some a => rw [z] at this p; obtain ⟨w, hw, _⟩ := this; rw [hw]; exact p
    · exact p.elim
  · rename_i vs
    simp only [Rel] at rb
    obtain ⟨l, items, rfl, ht, _, rl⟩ := rb
    obtain ⟨da, dvs, h1, h2, h3, h4, p⟩ := p
    obtain ⟨e, he, ha⟩ := in_seq C S ra rl h1 h2 h3 h4
    refine in_tupleAt e ht (fun y hy => he y (by simpa using hy)) ⟨_, σ, rfl, S, .refl _ _, ?_⟩
    rw [← Array.any_toList, ha]; exact p
  · split at p
    · simp only [Rel] at ra rb; obtain ⟨t, rfl⟩ := ra; obtain ⟨t', rfl⟩ := rb
      exact P.in_str ⟨_, σ, rfl, S, .refl _ _, p⟩
    · exact p.elim
  · exact p.elim

theorem cmp_ok {op : CmpOp} {a b : AV} {v u : Value} {Φ : Bool → Sto → Prop} (C : Cx G B H A env n) (S : St G B H env ρ σ s) (ra : Rel H s.heap a v) (rb : Rel H s.heap b u) (p : cmpV G op a b σ fun q => Φ q σ) : GoB G B H A env ρ s (compareOp op v u) Φ Ψ := by
  have isn : a.novalue = true → (v == Value.none) = a.isNone := fun hv => by
    cases a <;> simp only [Rel] at ra
    · subst ra; rfl
    · subst ra; rfl
    · obtain ⟨t, rfl⟩ := ra; rfl
    · obtain ⟨t, rfl⟩ := ra; rfl
    · obtain ⟨x, y, rfl, _⟩ := ra; rfl
    · subst ra; rfl
    · cases hv
    · obtain ⟨rfl, _⟩ := ra; rfl
  cases op with
  | Eq => exact eq_ok C S ra rb p
  | NotEq => exact ne_ok C S ra rb p
  | Lt =>
    cases a with
    | int i => cases b with
      | int j =>
        simp only [Rel] at ra rb; obtain ⟨t, rfl⟩ := ra; obtain ⟨t', rfl⟩ := rb
        exact PyProof.Rows.lt_int ⟨_, σ, rfl, S, .refl _ _, p⟩
      | _ => exact p.elim
    | _ => exact p.elim
  | LtE =>
    replace p := int2_of p
    obtain ⟨i, j, rfl, rfl, p⟩ := p
    simp only [Rel] at ra rb; obtain ⟨t, rfl⟩ := ra; obtain ⟨t', rfl⟩ := rb
    exact PyProof.Rows.le_int ⟨_, σ, rfl, S, .refl _ _, p⟩
  | Gt =>
    cases a with
    | int i => cases b with
      | int j =>
        simp only [Rel] at ra rb; obtain ⟨t, rfl⟩ := ra; obtain ⟨t', rfl⟩ := rb
        exact PyProof.Rows.gt_int ⟨_, σ, rfl, S, .refl _ _, p⟩
      | _ => exact p.elim
    | _ => exact p.elim
  | GtE =>
    cases a with
    | int i => cases b with
      | int j =>
        simp only [Rel] at ra rb; obtain ⟨t, rfl⟩ := ra; obtain ⟨t', rfl⟩ := rb
        exact PyProof.Rows.ge_int ⟨_, σ, rfl, S, .refl _ _, p⟩
      | _ => exact p.elim
    | _ => exact p.elim
  | Is =>
    cases b with
    | none =>
      simp only [Rel] at rb; subst rb
      refine is_none ⟨_, σ, rfl, S, .refl _ _, ?_⟩
      rw [isn p.1]; exact p.2
    | bool y =>
      simp only [Rel] at rb; subst rb
      cases a with
      | bool x =>
        simp only [Rel] at ra; subst ra
        exact PyProof.Rows.is_bool ⟨_, σ, rfl, S, .refl _ _, p⟩
      | _ => exact p.elim
    | _ => exact p.elim
  | IsNot =>
    cases b with
    | none =>
      simp only [Rel] at rb; subst rb
      refine isNot_none ⟨_, σ, rfl, S, .refl _ _, ?_⟩
      rw [isn p.1]; exact p.2
    | bool y =>
      simp only [Rel] at rb; subst rb
      cases a with
      | bool x =>
        simp only [Rel] at ra; subst ra
        exact PyProof.Rows.isnot_bool ⟨_, σ, rfl, S, .refl _ _, p⟩
      | _ => exact p.elim
    | _ => exact p.elim
  | In =>
    show wpAny _ _ (contains u v >>= fun r => pure (Value.bool r)) _ _ _
    exact wpAny_bind (wpAny_mono (in_ok C S ra rb p) (fun r s' ⟨σ', S', st, q⟩ => wpAny_pure ⟨r, σ', rfl, S', st, q⟩) fun _ _ q => q)
  | NotIn =>
    show wpAny _ _ (contains u v >>= fun r => pure (Value.bool (!r))) _ _ _
    exact wpAny_bind (wpAny_mono (in_ok (Φ := fun q σ => Φ (!q) σ) C S ra rb p) (fun r s' ⟨σ', S', st, q⟩ => wpAny_pure ⟨!r, σ', rfl, S', st, q⟩) fun _ _ q => q)
end
end Mine
set_option maxRecDepth 100000
namespace Mine
open PySem PyProof.Rows PySem.SeqAt

variable {G : PG}
section
variable {B : Heap} {H : Hid} {A : Around} {env : Env} {n : Nat} {ρ : Loc} {σ : Sto} {s : Shared} {Φ : PE} {Ψ : PX}

theorem truth_ok {a : AV} {v : Value} {b : Bool} {Q : Bool → Shared → Prop} {E : Value → Shared → Prop} (ra : Rel H s.heap a v) (e : truthV σ a = some b) (h : Q b s) : wpAny G.M A (truthy v) Q E s := by
  cases a <;> simp only [truthV] at e <;> (try cases e)
  · simp only [Rel] at ra; subst ra; exact wpAny_pure h
  · simp only [Rel] at ra; subst ra; exact wpAny_truthy_bool h
  · simp only [Rel] at ra; obtain ⟨t, rfl⟩ := ra; exact PyProof.Rows.truthy_int h

/-- no cut -/
noncomputable def notSlice : Expr → Bool
  | .Slice .. => false
  | _ => true
theorem subscripted_item {slice : Expr} (h : notSlice slice = true) (o i : Value) : subscripted slice false o i = operate [o, i] (getItem o i) := by
  cases slice <;> first | rfl | cases h

theorem idx_get {vs : List AV} {ws : List Value} {k : Int} {a : AV} {h : Heap} (r : RelL H h vs ws) (e : idx vs k = some a) : ∃ j v, seqIndex? k ws.length = some j ∧ ws[j]? = some v ∧ Rel H h a v := by
  unfold idx at e
  obtain ⟨j, h1, h2⟩ := Option.bind_eq_some_iff.mp e
  obtain ⟨v, h3, h4⟩ := r.get j h2
  exact ⟨j, v, by rw [r.length]; exact h1, h3, h4⟩

theorem getItem_listI {l : Addr} {items : Array Value} {k : Int} {t : Tok} {x : Value} {j : Nat} {Q : Value → Shared → Prop} {E : Value → Shared → Prop} {prog : Program} {w : World} (hl : s.heap.IsList l items) (h0 : -(2 ^ 62) ≤ k) (h1 : k < 2 ^ 62) (hj : seqIndex? k items.size = some j) (hx : items[j]? = some x) (h : Q x s) :
    wpAny (model prog w) A (getItem (.ref l) (.int k t)) Q E s := by
  by_cases q : 0 ≤ k
  · have : j = k.toNat := by
      simp [seqIndex?, show ¬ k < 0 from by omega] at hj
      omega
    subst this
    exact wpAny_getItem_list hl q (by first | decide | with_reducible exact lv hn | with_reducible exact lv1 hn | with_reducible exact lv2 hn | with_reducible exact Int.natCast_nonneg _ | omega) hx h
  · have hk : k < 0 := by omega
    have hb : -(items.size : Int) ≤ k := by
      simp [seqIndex?, hk] at hj
      omega
    rw [seqIndex_neg hk hb] at hj
    cases hj
    exact wpAny_getItem_list_neg hl hk hb (by first | decide | with_reducible exact lv hn | with_reducible exact lv1 hn | with_reducible exact lv2 hn | with_reducible exact Int.natCast_nonneg _ | omega) hx h

theorem sub_ok {value slice : Expr} {a b : AV} {v u : Value} (hsl : notSlice slice = true) (S : St G B H env ρ σ s) (ra : Rel H s.heap a v) (rb : Rel H s.heap b u) (p : subV a b σ Φ) : Go G B H A env ρ s (subscriptTail value slice v u) Φ Ψ := by
  cases a with
  | tup vs => cases b with
    | int k =>
      simp only [Rel] at ra rb
      obtain ⟨l, items, rfl, ht, _, rl⟩ := ra
      obtain ⟨t, rfl⟩ := rb
      obtain ⟨x, h0, h1, e, p⟩ := p
      obtain ⟨j, w, e1, e2, rw⟩ := idx_get rl e
      exact tail_any ht.typeIs slot_tuple_getitem.lookup (PyProof.Rows.getItem_tuple ht (by first | decide | with_reducible exact lv hn | with_reducible exact lv1 hn | with_reducible exact lv2 hn | with_reducible exact Int.natCast_nonneg _ | omega) (by first | decide | with_reducible exact lv hn | with_reducible exact lv1 hn | with_reducible exact lv2 hn | with_reducible exact Int.natCast_nonneg _ | omega) (by simpa using e1) (by simpa using e2) (qe S (.refl _ _) rw p)) (subscripted_item hsl _ _)
    | _ => exact p.elim
  | ref l => cases b with
    | int k =>
      simp only [Rel] at ra rb; subst ra; obtain ⟨t, rfl⟩ := rb
      unfold subV at p
      dsimp only at p
      split at p
      · rename_i hq
        obtain ⟨items, m, ho, rl⟩ := S.listAt hq
        obtain ⟨x, h0, h1, e, p⟩ := p
        obtain ⟨j, w, e1, e2, rw⟩ := idx_get rl e
        have hl := isList_of ho
        exact tail_any hl.typeIs slot_list_getitem.lookup (getItem_listI hl h0 h1 (by simpa using e1) (by simpa using e2) (qe S (.refl _ _) rw p)) (subscripted_item hsl _ _)
      split at p
      · rename_i kvs hq
        obtain ⟨x, e, p⟩ := p
        obtain ⟨vs, D, e', r⟩ := (S.store _ _ hq).1
        have := dictOf_lookup k e' r
        rw [e] at this
        obtain ⟨w, hw, rw⟩ := this
        have M := mapOf_of D
        exact tail_any M.typeIs slot_dict_getitem.lookup (wpAny_getItem_of (knd := intKind G.prog G.w) (intKind_is G.prog G.w _ t) M hw (qe (S.tok _) (Step.tok _ _ _) rw p)) (subscripted_item hsl _ _)
      · exact p.elim
    | str k =>
      simp only [Rel] at ra rb; subst ra; obtain ⟨t, rfl⟩ := rb
      unfold subV at p
      dsimp only at p
      split at p
      · rename_i kvs hq
        obtain ⟨x, e, p⟩ := p
        obtain ⟨vs, D, e', r⟩ := (S.store l _ hq).1
        have := dictOf_lookup k e' r
        rw [e] at this
        obtain ⟨w, hw, rw⟩ := this
        have M := mapOf_of D
        exact tail_any M.typeIs slot_dict_getitem.lookup (wpAny_getItem_of (knd := strKind G.prog G.w) (strKind_is G.prog G.w k t) M hw (qe (S.tok _) (Step.tok _ _ _) rw p)) (subscripted_item hsl _ _)
      · exact p.elim
    | _ => exact p.elim
  | str x => cases b with
    | int k =>
      simp only [Rel] at ra rb; obtain ⟨t, rfl⟩ := ra; obtain ⟨t', rfl⟩ := rb
      obtain ⟨h0, h1, h2, p⟩ := p
      obtain ⟨T, id, hl, hT, hg⟩ := SB.item (prog := G.prog) (w := G.w) (A := A) (E := QX G B H env Ψ s) (s := s) (t := t) (u := t') (Q := QE G B H env ρ Φ s) (show fitsSsize _ = true by unfold fitsSsize; simp; omega) (charAt_isSome (by first | decide | with_reducible exact lv hn | with_reducible exact lv1 hn | with_reducible exact lv2 hn | with_reducible exact Int.natCast_nonneg _ | omega) h1) (qe (S.tok _) (Step.tok _ _ _) (by simp [Rel]) p)
      exact tail_any hT hl hg (subscripted_item hsl _ _)
    | _ => exact p.elim
  | _ => exact p.elim

/-! ### cuts -/
noncomputable def RelP (H : Hid) (h : Heap) : Option AV → Value → Prop
  | none, v => v = .none
  | some a, v => Rel H h a v
theorem isPart_of {o : Option AV} {l : Option Int} {v : Value} {h : Heap} (e : optI o = some l) (r : RelP H h o v) : IsPart v l := by
  cases o with
  | none => simp only [optI] at e; cases e; simp only [RelP] at r; subst r; exact .none
  | some a =>
    simp only [RelP] at r
    cases a <;> simp only [optI] at e <;> (try cases e)
    simp only [Rel] at r; obtain ⟨t, rfl⟩ := r; exact .int _ t

theorem cut_pick {items : Array Value} {vs : List AV} {h : Heap} {l u : Option Int} (r : RelL H h vs items.toList) (hl : ∀ k, l = some k → 0 ≤ k) (hu : ∀ k, u = some k → 0 ≤ k) : RelL H h (cutL vs l u) (slicePick items l u none).toList := by
  have e : (slicePick items l u none).toList = (items.toList.take ((u.getD (items.toList.length : Int)).toNat)).drop ((l.getD 0).toNat) := by
    rw [slicePick_plain, List.toList_toArray, List.drop_take]
    have key : ∀ k : Int, 0 ≤ k → clipAt items.size k = min k.toNat items.size := fun k hk => by
      have := clipAt_nat items.size k.toNat
      rwa [Int.toNat_of_nonneg hk] at this
    have hn : items.toList.length = items.size := by simp
    generalize items.toList = xs at *
    cases l with
    | none =>
      cases u with
      | none => simp [hn.symm]
      | some b =>
        simp only [Option.elim_none, Option.elim_some, key b (hu b rfl), Option.getD_none, Option.getD_some, Int.toNat_zero, Nat.sub_zero, List.drop_zero]
        rw [← hn, ← List.take_take, List.take_of_length_le (i := xs.length) (Nat.le_refl _)] <;> try (first | rfl | (simp [Nat.min_comm]))
    | some a =>
      cases u with
      | none =>
        simp only [Option.elim_none, Option.elim_some, key a (hl a rfl), Option.getD_none, Option.getD_some, Int.toNat_natCast]
        rw [← hn]
        by_cases q : a.toNat ≤ xs.length
        · rw [Nat.min_eq_left q]
        · rw [Nat.min_eq_right (by first | decide | with_reducible exact lv hn | with_reducible exact lv1 hn | with_reducible exact lv2 hn | with_reducible exact Int.natCast_nonneg _ | omega), List.drop_of_length_le (i := xs.length) (Nat.le_refl _), List.drop_of_length_le (by first | decide | with_reducible exact lv hn | with_reducible exact lv1 hn | with_reducible exact lv2 hn | with_reducible exact Int.natCast_nonneg _ | omega)]; simp
      | some b =>
        simp only [Option.elim_some, key a (hl a rfl), key b (hu b rfl), Option.getD_some]
        rw [← hn]
        by_cases q : a.toNat ≤ xs.length
        · rw [Nat.min_eq_left q]
          by_cases z : b.toNat ≤ xs.length
          · rw [Nat.min_eq_left z]
          · rw [Nat.min_eq_right (by first | decide | with_reducible exact lv hn | with_reducible exact lv1 hn | with_reducible exact lv2 hn | with_reducible exact Int.natCast_nonneg _ | omega), List.take_of_length_le (by simp), List.take_of_length_le (by simp; (first | with_reducible assumption | with_reducible exact Nat.lt_of_lt_of_le (by assumption) (by decide) | omega))]
        · rw [List.drop_of_length_le (i := a.toNat) (by first | decide | with_reducible exact lv hn | with_reducible exact lv1 hn | with_reducible exact lv2 hn | with_reducible exact Int.natCast_nonneg _ | omega), show min a.toNat xs.length = xs.length from by omega, List.drop_of_length_le (i := xs.length) (Nat.le_refl _)]; simp
  rw [e, r.length]
  exact RelL.drop _ (RelL.take _ r)

/-- the tail of a cut: the parts stand, the cut's object is made -/
theorem slc_ok {value : Expr} {lower upper : Option Expr} {ps : Pos} {a : AV} {lo hi : Option AV} {v vl vu : Value} (S : St G B H env ρ σ s) (ra : Rel H s.heap a v)
    (rl : RelP H s.heap lo vl) (ru : RelP H s.heap hi vu) (p : slcV a lo hi σ Φ) :
    wpAny G.M A (subscriptTail value (.Slice lower upper none ps) v (.ref s.heap.objs.size)) (QE G B H env ρ Φ s) (QX G B H env Ψ s) { s with heap := s.heap.push { cls := .type "slice", data := .fields #[vl, vu, .none] } } := by
  have S₁ := S.push { cls := .type "slice", data := .fields #[vl, vu, .none] }
  have st₁ : Step H s { s with heap := s.heap.push { cls := .type "slice", data := .fields #[vl, vu, .none] } } := .push _
  have ra₁ := ra.grow st₁.grow
  unfold slcV at p
  split at p
  · rename_i l h hl hu
    have pl := isPart_of hl rl
    have pu := isPart_of hu ru
    split at p
    · rename_i r
      simp only [Rel] at ra₁; subst ra₁
      split at p
      · rename_i vs hq
        obtain ⟨q1, q2, q3, p⟩ := p
        obtain ⟨items, m, ho, rl'⟩ := S₁.listAt hq
        have hL := isList_of ho
        refine tail_any hL.typeIs slot_list_getitem.lookup (wpAny_getItem_list_slice hL (Heap.IsSliceOf.new s.heap vl vu .none) pl pu .none (by simp) ?_ (by rw [← Array.length_toList, rl'.length]; exact q3)) rfl
        refine go_newList (Q := fun v s' => QE G B H env ρ Φ s v s') S₁ (cut_pick rl' q1 q2) p fun s' q e => q.step st₁
      · exact p.elim
    · rename_i x
      simp only [Rel] at ra₁; obtain ⟨t, rfl⟩ := ra₁
      obtain ⟨q3, p⟩ := p
      have fin : ∀ h' t' k, (St G B H env ρ σ { s with heap := h' } ∧ Step H s { s with heap := h' }) → QE G B H env ρ Φ s (.str (Txt.slice x l h) t') { s with heap := h', toks := k } := fun h' t' k ⟨S', st'⟩ => ⟨_, σ, by simp [Rel], S'.tok k, ⟨st'.grow, rfl, rfl⟩, p⟩
      have kept : KeptH fun h' => St G B H env ρ σ { s with heap := h' } ∧ Step H s { s with heap := h' } := fun h' ob ⟨S', st'⟩ => ⟨S'.push ob, st'.trans (.push (s := { s with heap := h' }) ob)⟩
      cases pl with
      | none =>
        cases pu with
        | none => obtain ⟨T, id, h1, hT, hg⟩ := SBH.sliceItem_nn (prog := G.prog) (w := G.w) (A := A) (E := QX G B H env Ψ s) (t := t) kept ⟨S, .refl _ _⟩ fin q3; exact tail_any hT h1 hg rfl
        | int j u => obtain ⟨T, id, h1, hT, hg⟩ := SBH.sliceItem_ns (prog := G.prog) (w := G.w) (A := A) (E := QX G B H env Ψ s) (t := t) kept ⟨S, .refl _ _⟩ fin q3; exact tail_any hT h1 hg rfl
      | int i u =>
        cases pu with
        | none => obtain ⟨T, id, h1, hT, hg⟩ := SBH.sliceItem_sn (prog := G.prog) (w := G.w) (A := A) (E := QX G B H env Ψ s) (t := t) kept ⟨S, .refl _ _⟩ fin q3; exact tail_any hT h1 hg rfl
        | int j u' => obtain ⟨T, id, h1, hT, hg⟩ := SBH.sliceItem_ss (prog := G.prog) (w := G.w) (A := A) (E := QX G B H env Ψ s) (t := t) kept ⟨S, .refl _ _⟩ fin q3; exact tail_any hT h1 hg rfl
    · exact p.elim
  · exact p.elim
end
end Mine
set_option maxRecDepth 100000
namespace Mine
open PySem PyProof.Rows PySem.SeqAt

variable {G : PG}
section
variable {B : Heap} {H : Hid} {A : Around} {env : Env} {n : Nat} {ρ : Loc} {σ : Sto} {s : Shared} {Φ : PE} {Ψ : PX}

theorem inK_at (C : Cx G B H A env n) (S : St G B H env ρ σ s) : W.Frag.In G.K s.heap := fun a o e => S.keep _ _ (G.inK C.T a o e)

/-! ### attributes of own instances -/
theorem ent_look {h : Heap} (x : Str) : ∀ {es : List DictEntry} {m : List (Str × AV)}, EntRel H h es m →
    (match m.lookup x with
      | some a => ∃ v, W.getL x es = some (some v) ∧ Rel H h a v
      | none => W.getL x es = some none) := by
  intro es m r
  have key : ∀ {es : List DictEntry} {m : List (Str × AV)}, EntRel H h es m →
      (es.any (·.refKey) = false) ∧ (match m.lookup x with | some a => ∃ e, es.find? (·.key.isStr x) = some e ∧ Rel H h a e.val | none => es.find? (·.key.isStr x) = none) := by
    intro es
    induction es with
    | nil => intro m r; cases m with | nil => simp | cons _ _ => exact r.elim
    | cons e es ih =>
      intro m r
      cases m with
      | nil => exact r.elim
      | cons kv m =>
        obtain ⟨⟨t, hk⟩, hv, r⟩ := r
        obtain ⟨i1, i2⟩ := ih r
        obtain ⟨y, a⟩ := kv
        have hr : e.refKey = false := by unfold DictEntry.refKey; rw [hk]
        refine ⟨by rw [List.any_cons, hr, i1]; rfl, ?_⟩
        rw [List.lookup_cons, List.find?_cons, hk]
        by_cases q : x = y
        · subst q
          have : (Value.str x t).isStr x = true := by simp [Value.isStr]
          simp only [beq_self_eq_true, this]
          exact ⟨e, rfl, hv⟩
        · have h1 : (x == y) = false := by simpa using q
          have h2 : (Value.str y t).isStr x = false := by simpa [Value.isStr] using fun z => q (Eq.symm z)
          simp only [h1, h2]
          exact i2
  obtain ⟨k1, k2⟩ := key r
  unfold W.getL
  cases q : m.lookup x with
  | none => rw [q] at k2; simp only at k2 ⊢; rw [k2, k1]; rfl
  | some a => rw [q] at k2; obtain ⟨e, he, hr⟩ := k2; exact ⟨e.val, by rw [he], hr⟩

theorem inst_at {x C d : Addr} {m : List (Str × AV)} (S : St G B H env ρ σ s) (hx : σ x = some (.inst C d)) (hd : σ d = some (.ns m)) :
    ∃ es k, W.InstAt s.heap x { cls := .ref C, dict := some d, data := .plain } C (some (W.dictOf es k)) ∧ s.heap.get? d = some (W.dictOf es k) ∧ EntRel H s.heap es m := by
  obtain ⟨es, k, ho, r⟩ := (S.store d _ hd).1
  have hx' : s.heap.get? x = some { cls := .ref C, dict := some d, data := .plain } := (S.store x _ hx).1
  refine ⟨es.toList, k, ⟨hx', rfl, rfl, ?_⟩, ?_, r⟩
  · show s.heap.get? d = some _
    rw [ho]
  · rw [ho]

theorem handed_rel {a : AV} {v : Value} {h : Heap} (r : Rel H h a v) (ha : a.novalue = true) : W.handedIn v = true := by
  cases a <;> simp only [Rel] at r <;> (try simp [AV.novalue] at ha)
  · subst r; rfl
  · subst r; rfl
  · obtain ⟨t, rfl⟩ := r; rfl
  · obtain ⟨t, rfl⟩ := r; rfl
  · obtain ⟨l, i, rfl, _⟩ := r; rfl
  · subst r; rfl
  · obtain ⟨rfl, _⟩ := r; rfl

theorem attr_ok {a : AV} {x : Str} {v : Value} {ex : Bool} (C : Cx G B H A env n) (S : St G B H env ρ σ s) (ra : Rel H s.heap a v) (p : attrV G a x σ Φ) : Go G B H A env ρ s (getAttr v x ex) Φ Ψ := by
  unfold attrV at p
  split at p
  · simp only [Rel] at ra; subst ra
    split at p
    · rename_i C' d hx
      split at p
      · rename_i m hd
        obtain ⟨b, hb, hnv, ⟨p1, p2, p3⟩, p⟩ := p
        obtain ⟨es, k, I, _, r⟩ := inst_at S hx hd
        have L := ent_look x r
        rw [hb] at L
        obtain ⟨w, hw, rw⟩ := L
        refine W.get_value (inK_at C S) I (W.plainGet_of p1).1 (W.findObj_own p2 p3 rfl hw) (handed_rel rw hnv) (qe (S.tok _) (Step.tok _ _ _) rw p)
      · exact p.elim
    · exact p.elim
  · exact p.elim

/-- an attribute's store into the instance's own dict -/
theorem set_ns {x C d : Addr} {name : Str} {v : Value} {es : List DictEntry} {k : Nat} {Q : Unit → Shared → Prop} {E : Value → Shared → Prop} (X : W.Frag.In G.K s.heap)
    (I : W.InstAt s.heap x { cls := .ref C, dict := some d, data := .plain } C (some (W.dictOf es k))) (D : s.heap.get? d = some (W.dictOf es k))
    (hs : W.findIn G.K (.ref C) "__setattr__" = some (some (.builtin "object.__setattr__"))) (hp : W.plainOver G.K C = true) (ht : W.takerIn G.K C name = some none) (hh : W.hasDictIn G.K C = true)
    (hl : (W.getL name es).isSome = true) (hz : (W.putL name (PyData.keyHash G.w.params name) (.str name (s.toks + 1)) v es).length ≤ 1001)
    (h : Q () { s with heap := s.heap.update d (Obj.putName name (PyData.keyHash G.w.params name) (.str name (s.toks + 1)) v), toks := s.toks + 1 + 1 }) :
    wpAny G.M A (setAttr (.ref x) name v) Q E s := by
  refine W.set_plain X I hs (W.osa_open X I hp ht fun b => ?_)
  obtain ⟨cd, hc, hd'⟩ := W.any_some hh
  have e : Obj.putName name (PyData.keyHash G.w.params name) (.str name (s.toks + 1)) v (W.dictOf es k) = W.dictOf (W.putL name (PyData.keyHash G.w.params name) (.str name (s.toks + 1)) v es) (W.putN name es k) := W.putName_dict ..
  have D' : (s.heap.update d (Obj.putName name (PyData.keyHash G.w.params name) (.str name (s.toks + 1)) v)).get? d = some (W.dictOf (W.putL name (PyData.keyHash G.w.params name) (.str name (s.toks + 1)) v es) (W.putN name es k)) := by
    rw [Heap.get?_update_self _ D (by rw [e]; rfl), e]
  obtain ⟨hx, hcl, hn, -⟩ := I
  refine wpAny_bind (wpAny_pure (wpAny_bind (wpAny_bind (wpAny_loadPart (s := { s with toks := s.toks + 1 }) hx (wpAny_bind ((W.looks_clsIn X hc).here (s := { s with toks := s.toks + 1 }) ?_))))))
  rw [hd']
  refine wpAny_pure (a := some d) (wpAny_bind (wpAny_pure (wpAny_bind ?_)))
  unfold nsSet
  refine wpAny_bind (wpAny_bind (wpAny_askSetting (wpAny_pure (wpAny_bind (wpAny_mkText (wpAny_bind (wpAny_loadPart (o := W.dictOf es k) D ?_)))))))
  have c : (!(es.toArray).any (·.key.isStr name) && (es.toArray).any (·.refKey)) = false := by
    rw [List.any_toArray, List.any_toArray]
    unfold W.getL at hl
    split at hl
    · rename_i en he
      rw [List.any_eq_true.mpr ⟨en, List.mem_of_find?_eq_some he, List.find?_some he⟩]; rfl
    · split at hl
      · cases hl
      · rename_i z; rw [Bool.not_eq_true] at z; rw [z, Bool.and_false]
  dsimp only
  rw [aRefKeyMayBeTheName_at, c]
  refine wpAny_updatePart (o := W.dictOf es k) D ?_
  refine wpAny_bind (wpAny_lookBehind (o := W.dictOf (W.putL name (PyData.keyHash G.w.params name) (.str name (s.toks + 1)) v es) (W.putN name es k)) D' (pastItsLine_dict (by rw [List.size_toArray, sizeLine_eq]; omega)) ?_)
  exact wpAny_pure h

theorem ent_put {h : Heap} {x : Str} {a : AV} {v : Value} {hsh : Int} {t : Tok} (rv : Rel H h a v) : ∀ {es : List DictEntry} {m : List (Str × AV)}, EntRel H h es m → EntRel H h (W.putL x hsh (.str x t) v es) (putA x a m)
  | [], [], _ => ⟨⟨t, rfl⟩, rv, trivial⟩
  | [], _ :: _, r => r.elim
  | _ :: _, [], r => r.elim
  | e :: es, (y, b) :: m, ⟨⟨t', hk⟩, hv, r⟩ => by
    unfold W.putL putA
    rw [hk]
    by_cases q : y = x
    · subst q
      have : (Value.str y t').isStr y = true := by simp [Value.isStr]
      rw [this, if_pos rfl, if_pos rfl]
      exact ⟨⟨t', by first | rfl | exact hk⟩, rv, r⟩
    · have : (Value.str y t').isStr x = false := by simpa [Value.isStr] using q
      rw [this, if_neg (by simp), if_neg q]
      exact ⟨⟨t', hk⟩, hv, ent_put rv r⟩

theorem sattr_ok {o a : AV} {x : Str} {u v : Value} {Q : Unit → Shared → Prop} {E : Value → Shared → Prop} {Φ : Sto → Prop} (C : Cx G B H A env n) (S : St G B H env ρ σ s) (ro : Rel H s.heap o u) (ra : Rel H s.heap a v) (p : sattrV G o x a σ Φ)
    (h : ∀ s' σ', St G B H env ρ σ' s' → Step H s s' → Φ σ' → Q () s') : wpAny G.M A (setAttr u x v) Q E s := by
  unfold sattrV at p
  split at p
  · simp only [Rel] at ro; subst ro
    split at p
    · rename_i r C' d hx
      split at p
      · rename_i m hd
        obtain ⟨p0, p1, p2, p3, p4, p⟩ := p
        obtain ⟨es, k, I, D, rel⟩ := inst_at S hx hd
        have L := ent_look x rel
        have hl : (W.getL x es).isSome = true := by
          cases q : m.lookup x with
          | none => rw [q] at L; rw [L]; rfl
          | some b => rw [q] at L; obtain ⟨w, hw, _⟩ := L; rw [hw]; rfl
        have rel' := ent_put (hsh := PyData.keyHash G.w.params x) (x := x) (t := s.toks + 1) ra rel
        refine set_ns (inK_at C S) I D p1 p2 p3 p4 hl ?_ ?_
        · rw [rel'.length]
          have : ∀ m : Loc, (putA x a m).length ≤ m.length + 1 := fun m => by
            induction m with
            | nil => simp [putA]
            | cons y m ih => obtain ⟨y, b⟩ := y; unfold putA; split <;> simp <;> omega
          have := this m
          omega
        · have e : Obj.putName x (PyData.keyHash G.w.params x) (.str x (s.toks + 1)) v (W.dictOf es k) = W.dictOf (W.putL x (PyData.keyHash G.w.params x) (.str x (s.toks + 1)) v es) (W.putN x es k) := W.putName_dict ..
          have D' : (s.heap.update d (Obj.putName x (PyData.keyHash G.w.params x) (.str x (s.toks + 1)) v)).get? d = some (W.dictOf (W.putL x (PyData.keyHash G.w.params x) (.str x (s.toks + 1)) v es) (W.putN x es k)) := by
            rw [Heap.get?_update_self _ D (by rw [e]; rfl), e]
          have kk : ∀ b o, b ≠ d → s.heap.get? b = some o → (s.heap.update d (Obj.putName x (PyData.keyHash G.w.params x) (.str x (s.toks + 1)) v)).get? b = some o := fun b o nb e => by
            rw [Heap.get?_update_other _ _ (Ne.symm nb)]; exact e
          have g : Grow H s.heap (s.heap.update d (Obj.putName x (PyData.keyHash G.w.params x) (.str x (s.toks + 1)) v)) := by
            obtain ⟨o', ho', ht, hr⟩ := (S.store d _ hd).1.there
            exact .of_keepBut kk ht fun o'' vs e => by rw [ho'] at e; cases e; exact hr vs
          obtain ⟨S', g'⟩ := S.put (s' := { s with heap := s.heap.update d (Obj.putName x (PyData.keyHash G.w.params x) (.str x (s.toks + 1)) v) }) (c := .ns (putA x a m)) hd rfl kk ⟨(W.putL x (PyData.keyHash G.w.params x) (.str x (s.toks + 1)) v es).toArray, W.putN x es k, D', by simpa using rel'.grow g⟩
          exact h _ _ (S'.tok _) ⟨g', rfl, rfl⟩ p
      · exact p.elim
    · exact p.elim
  · exact p.elim

/-! ### lists changed -/
theorem St.putList {l : Addr} {vs vs' : List AV} {items' : Array Value} {m' : Nat} {s' : Shared} (S : St G B H env ρ σ s) (hq : σ l = some (.list vs)) (kk : ∀ b o, b ≠ l → s.heap.get? b = some o → s'.heap.get? b = some o)
    (h' : s'.heap.get? l = some ⟨.type "list", none, .seq items' m', #[]⟩) (r : Grow H s.heap s'.heap → RelL H s'.heap vs' items'.toList) (hg : s'.gens = s.gens) (ho : s'.os = s.os) : St G B H env ρ (upd σ l (.list vs')) s' ∧ Step H s s' := by
  have g : Grow H s.heap s'.heap := by
    obtain ⟨o', ho', ht, hr⟩ := (S.store l _ hq).1.there
    exact .of_keepBut kk ht fun o'' vs e => by rw [ho'] at e; cases e; exact hr vs
  obtain ⟨S', _⟩ := S.put (c := .list vs') hq rfl kk ⟨items', m', h', r g⟩
  exact ⟨S', g, hg, ho⟩

theorem append_ok {l : Addr} {vs : List AV} {a : AV} {v : Value} {Q : Value → Shared → Prop} {E : Value → Shared → Prop} (S : St G B H env ρ σ s) (hq : σ l = some (.list vs)) (ra : Rel H s.heap a v) (hz : vs.length ≤ sizeLine)
    (h : ∀ s', St G B H env ρ (upd σ l (.list (vs ++ [a]))) s' → Step H s s' → Q .none s') : wpAny G.M A (call (.builtin "list.append") [.ref l, v]) Q E s := by
  obtain ⟨items, m, ho, rl⟩ := S.listAt (lstOf_list hq)
  refine wpAny_list_append_plain (items := items) ⟨m, ho⟩ (fun h' ⟨m', hp⟩ sb => ?_) (by rw [← Array.length_toList, rl.length]; exact hz)
  obtain ⟨S', st⟩ := S.putList (s' := { s with heap := h' }) (vs' := vs ++ [a]) hq (fun b o nb e => sb.extBut b o nb e) hp (fun g => by simpa using (rl.grow g).append (.one (ra.grow g))) rfl rfl
  exact h _ S' st

theorem pop_ok {l : Addr} {vs : List AV} {a : AV} {k : Int} {t : Tok} {Q : Value → Shared → Prop} {E : Value → Shared → Prop} (S : St G B H env ρ σ s) (hq : σ l = some (.list vs)) (h0 : 0 ≤ k) (h1 : k < vs.length) (h2 : k < 2 ^ 62) (e : vs[k.toNat]? = some a) (hz : vs.length ≤ sizeLine)
    (h : ∀ s' v, St G B H env ρ (upd σ l (.list (vs.eraseIdx k.toNat))) s' → Step H s s' → Rel H s'.heap a v → Q v s') : wpAny G.M A (call (.builtin "list.pop") [.ref l, .int k t]) Q E s := by
  obtain ⟨items, m, ho, rl⟩ := S.listAt (lstOf_list hq)
  obtain ⟨v, hv, rv⟩ := rl.get _ e
  have hn : items.size = vs.length := by rw [← Array.length_toList, rl.length]
  have hi : seqIndex? k items.size = some k.toNat := by
    simp [seqIndex?, show ¬ k < 0 from by omega]; omega
  refine call_meets PySem.F.slot_list_pop ⟨_, ho, rfl⟩ PySem.F.entry_list_pop (PySem.F.args_list_pop_2 _ _) (MeetsSeq.list_pop_at l items m k t k.toNat v (by unfold Builtin.List.listFitsIndex; simp; omega) hi (by simpa using hv) (by first | decide | with_reducible exact lv hn | with_reducible exact lv1 hn | with_reducible exact lv2 hn | with_reducible exact Int.natCast_nonneg _ | omega)) ⟨ho, ?_⟩
  have hlt : k.toNat < items.size := by omega
  have e1 : Obj.mapSeq (fun xs => xs.eraseIdxIfInBounds k.toNat) ⟨.type "list", none, .seq items m, #[]⟩ = ⟨.type "list", none, .seq (items.eraseIdxIfInBounds k.toNat) (if (items.eraseIdxIfInBounds k.toNat).size == items.size then m else m + 1), #[]⟩ := rfl
  have hp : (s.heap.update l (Obj.mapSeq fun xs => xs.eraseIdxIfInBounds k.toNat)).get? l = some ⟨.type "list", none, .seq (items.eraseIdxIfInBounds k.toNat) (if (items.eraseIdxIfInBounds k.toNat).size == items.size then m else m + 1), #[]⟩ := by
    rw [Heap.get?_update_self _ ho (by rw [e1]; rfl), e1]
  have e2 : (items.eraseIdxIfInBounds k.toNat).toList = items.toList.eraseIdx k.toNat := by
    simp [Array.eraseIdxIfInBounds, hlt]
  obtain ⟨S', st⟩ := S.putList (s' := { s with heap := s.heap.update l (Obj.mapSeq fun xs => xs.eraseIdxIfInBounds k.toNat) }) (vs' := vs.eraseIdx k.toNat) hq (fun b o nb e => by rw [Heap.get?_update_other _ _ (Ne.symm nb)]; exact e) hp (fun g => by rw [e2]; exact (rl.grow g).eraseIdx _) rfl rfl
  exact h _ v S' st (rv.grow st.grow)

theorem clear_ok {l : Addr} {vs : List AV} {Q : Value → Shared → Prop} {E : Value → Shared → Prop} (S : St G B H env ρ σ s) (hq : σ l = some (.list vs)) (hz : vs.length ≤ sizeLine)
    (h : ∀ s', St G B H env ρ (upd σ l (.list [])) s' → Step H s s' → Q .none s') : wpAny G.M A (call (.builtin "list.clear") [.ref l]) Q E s := by
  obtain ⟨items, m, ho, rl⟩ := S.listAt (lstOf_list hq)
  have hn : items.size = vs.length := by rw [← Array.length_toList, rl.length]
  refine call_meets PySem.F.slot_list_clear ⟨_, ho, rfl⟩ PySem.F.entry_list_clear (PySem.F.args_list_clear_1 _) (AutoSeq1.list_clear_list_0 l items m (by first | decide | with_reducible exact lv hn | with_reducible exact lv1 hn | with_reducible exact lv2 hn | with_reducible exact Int.natCast_nonneg _ | omega)) ⟨ho, ?_⟩
  have e1 : Obj.mapSeq (fun _ => #[]) ⟨.type "list", none, .seq items m, #[]⟩ = ⟨.type "list", none, .seq #[] (if (#[] : Array Value).size == items.size then m else m + 1), #[]⟩ := rfl
  have hp : (s.heap.update l (Obj.mapSeq fun _ => #[])).get? l = some ⟨.type "list", none, .seq #[] (if (#[] : Array Value).size == items.size then m else m + 1), #[]⟩ := by
    rw [Heap.get?_update_self _ ho (by rw [e1]; rfl), e1]
  obtain ⟨S', st⟩ := S.putList (s' := { s with heap := s.heap.update l (Obj.mapSeq fun _ => #[]) }) (vs' := []) hq (fun b o nb e => by rw [Heap.get?_update_other _ _ (Ne.symm nb)]; exact e) hp (fun g => by simpa using RelL.nil) rfl rfl
  exact h _ S' st
end
end Mine
set_option maxRecDepth 100000
namespace Mine
open PySem PyProof.Rows PySem.SeqAt

variable {G : PG}
section
variable {B : Heap} {H : Hid} {A : Around} {env : Env} {n : Nat} {ρ : Loc} {σ : Sto} {s : Shared} {Φ : PE} {Ψ : PX}

theorem hand_none (C : Cx G B H A env n) (h : 10 ≤ n) : A.handled = none := C.A.hand.elim id fun q => absurd q.1 (by first | decide | with_reducible exact lv hn | with_reducible exact lv1 hn | with_reducible exact lv2 hn | with_reducible exact Int.natCast_nonneg _ | omega)

theorem St.keepsQ {h' : Heap} {tk : Nat} {a : AV} {v : Value} (S : St G B H env ρ σ s) (k : ∀ b o, s.heap.get? b = some o → h'.get? b = some o) (r : Rel H h' a v) (p : Φ a σ) : QE G B H env ρ Φ s v { s with heap := h', toks := tk } :=
  ⟨a, σ, r, S.same (s' := { s with heap := h', toks := tk }) k, ⟨.of_keep k, rfl, rfl⟩, p⟩

theorem isi_ok {a : AV} {t v c : Value} {b : Bool} (C : Cx G B H A env n) (S : St G B H env ρ σ s) (ra : Rel H s.heap a v) (hk : kindV σ a = some t) (e : W.kitOne G.K t c = some b) (hx : a.exnK G.K) (p : Φ (.bool b) σ) : Go G B H A env ρ s (call (.builtin "isinstance") [v, c]) Φ Ψ := by
  have X := inK_at C S
  have fin : ∀ tk, QE G B H env ρ Φ s (.bool b) { s with toks := tk } := fun tk => qe (S.tok _) (Step.tok _ _ _) (by simp [Rel]) p
  cases a <;> simp only [kindV] at hk <;> simp only [Rel] at ra
  · cases hk; subst ra; exact W.kia_one W.kitx_none X trivial e (by simp) fin
  · cases hk; subst ra; exact W.kia_one W.kitx_bool X trivial e (by simp) fin
  · cases hk; obtain ⟨t, rfl⟩ := ra; exact W.kia_one W.kitx_int X trivial e (by simp) fin
  · cases hk; obtain ⟨t, rfl⟩ := ra; exact W.kia_one W.kitx_str X trivial e (by simp) fin
  · cases hk; obtain ⟨l, i, rfl, ⟨o, ho, hc, _⟩, _⟩ := ra; exact W.kia_one W.kitx_tuple X ⟨o, ho, hc⟩ e (by simp) fin
  · subst ra
    split at hk
    · rename_i hq; cases hk; obtain ⟨items, m, ho, _⟩ := S.listAt hq; exact W.kia_one W.kitx_list X ⟨_, ho, rfl⟩ e (by simp) fin
    split at hk
    · rename_i hq; cases hk; obtain ⟨vs, ⟨o, es, ep, ho, he, _⟩, _⟩ := (S.store _ _ hq).1; exact W.kia_one W.kitx_dict X ⟨o, ho, he.1⟩ e (by simp) fin
    · rename_i hq; cases hk; obtain ⟨vs, ⟨o, es, ep, ho, he, _⟩, _⟩ := (S.store _ _ hq).1; exact W.kia_one W.kitx_dict X ⟨o, ho, he.1⟩ e (by simp) fin
    · cases hk
  · cases hk
  · cases hk
    obtain ⟨rfl, C', o, vs, rfl, ho, hcd, hd⟩ := ra
    obtain ⟨D, z, hK⟩ := hx
    cases z
    exact W.kia_one (kitx_exn hK) X (inst_exn ho hcd.1 hcd.2 hd) e (by simp) fin

theorem split_ok {x y : Str} {t u : Tok} (S : St G B H env ρ σ s) (hy : (y.length == 0) = false) (hsz : x.length + 2 ≤ sizeLine) (p : newList σ ((Txt.split x y).map .str) Φ) : Go G B H A env ρ s (call (.builtin "str.split") [.str x t, .str y u]) Φ Ψ := by
  have fin : ∀ (l : List (Str × Tok)) (k : Nat), l.map (·.1) = Txt.split x y → QE G B H env ρ Φ s (.ref s.heap.objs.size) { s with toks := k, heap := s.heap.push { cls := .type "list", data := .seq (strValues l).toArray } } := by
    intro l k e
    have kp : ∀ b o, s.heap.get? b = some o → (s.heap.push { cls := .type "list", data := .seq (strValues l).toArray }).get? b = some o := fun b o e => Heap.get?_push_of_some _ e
    refine ⟨.ref s.heap.objs.size, _, by simp [Rel], S.new (s' := { s with toks := k, heap := s.heap.push { cls := .type "list", data := .seq (strValues l).toArray } }) kp (Nat.le_refl _) (c := .list ((Txt.split x y).map .str)) ?_, .keeps kp, p.2 _ (S.fresh (Nat.le_refl _))⟩
    refine ⟨(strValues l).toArray, 0, Heap.get?_push_size _ rfl, ?_⟩
    rw [← e]
    have : ∀ l : List (Str × Tok), RelL H (s.heap.push { cls := .type "list", data := .seq (strValues (l)).toArray }) ((l.map (·.1)).map .str) (strValues l) → True := fun _ _ => trivial
    clear this
    generalize s.heap.push _ = h'
    clear e kp
    induction l with
    | nil => exact .nil
    | cons a l ih => exact .cons (by simp [Rel]) ih
  have hn : (Builtin.Str.partsBetween x (Builtin.Str.occurrences x y 0 x.length (x.length + 1)) y.length).length ≤ sizeLine := by
    have e1 := StrLaws.occ_length_le x y 0 x.length (x.length + 1)
    rw [length_partsBetween]; omega
  cases h1 : (decide (x.length < y.length) || decide (Builtin.Str.strKind x < Builtin.Str.strKind y))
  · cases hf : (Builtin.Str.occurrences x y 0 x.length (x.length + 1)).isEmpty
    · refine call_meets PySem.F.slot_str_split (typeIs_str _ _ _) PySem.F.entry_str_split (PySem.F.args_str_split_2 _ _) (meets_str_split_sep x y t u h1 hy hf (by first | decide | with_reducible exact lv hn | with_reducible exact lv1 hn | with_reducible exact lv2 hn | with_reducible exact Int.natCast_nonneg _ | omega) hn) ?_
      show wants _ _ _ { s with toks := _, heap := s.heap.push { cls := .type "list", data := .seq (strsFrom s.toks (Builtin.Str.partsBetween x (Builtin.Str.occurrences x y 0 x.length (x.length + 1)) y.length)).toArray } }
      rw [strsFrom_eq]
      exact fin (numbered s.toks _) _ ((numbered_texts _ _).trans ((if_neg (ne_true_of_eq_false h1)).trans (if_neg (ne_true_of_eq_false hf))).symm)
    · exact call_meets PySem.F.slot_str_split (typeIs_str _ _ _) PySem.F.entry_str_split (PySem.F.args_str_split_2 _ _) (meets_str_split_not_found x y t u h1 hy hf)
        (fin [(x, t)] s.toks ((if_neg (ne_true_of_eq_false h1)).trans (if_pos hf)).symm)
  · exact call_meets PySem.F.slot_str_split (typeIs_str _ _ _) PySem.F.entry_str_split (PySem.F.args_str_split_2 _ _) (meets_str_split_cannot_occur x y t u h1)
      (fin [(x, t)] s.toks (if_pos h1).symm)
theorem strs_of {h : Heap} {ts : List Str} : ∀ {vs : List Value}, RelL H h (ts.map .str) vs → ∃ l : List (Str × Tok), vs = strValues l ∧ l.map (·.1) = ts := by
  induction ts with
  | nil => intro vs r; simp only [List.map_nil, RelL] at r; exact ⟨[], r, rfl⟩
  | cons x ts ih =>
    intro vs r
    simp only [List.map_cons, RelL, Rel] at r
    obtain ⟨v, vs', rfl, ⟨t, rfl⟩, r⟩ := r
    obtain ⟨l, rfl, rfl⟩ := ih r
    exact ⟨(x, t) :: l, rfl, rfl⟩
theorem join_ok {x : Str} {t : Tok} {l : Addr} {ts : List Str} (S : St G B H env ρ σ s) (hl : lstOf σ l = some (ts.map .str)) (hok : JoinOk x ts = true) (p : Φ (.str (Txt.join x ts)) σ) : Go G B H A env ρ s (call (.builtin "str.join") [.str x t, .ref l]) Φ Ψ := by
  obtain ⟨items, m, ho, rl⟩ := S.listAt hl
  obtain ⟨l', e, e'⟩ := strs_of rl
  have hi : items = (strValues l').toArray := by rw [← e]
  exact SC.join (hi ▸ isList_of ho) e' hok fun t' k => qe (S.tok _) (Step.tok _ _ _) (by simp [Rel]) p

theorem bi_ok {f : Str} {as : List AV} {vs : List Value} {fv : Value} (hf : bootBuiltins f = some fv) (C : Cx G B H A env n) (S : St G B H env ρ σ s) (r : RelL H s.heap as vs) (p : biV G n f as σ Φ) : Go G B H A env ρ s (call fv vs) Φ Ψ := by
  unfold biV at p
  split at p
  · rename_i e; subst e
    rw [show bootBuiltins "len" = some (.builtin "len") from by decide +kernel] at hf; cases hf
    replace p := arg1_of p
    obtain ⟨a, rfl, p⟩ := p
    simp only [RelL] at r
    obtain ⟨v, _, rfl, ra, rfl⟩ := r
    cases a with
    | tup vs =>
      simp only [Rel] at ra
      obtain ⟨l, items, rfl, ht, _, rl⟩ := ra
      have hz : items.size = _ := (by rw [← Array.length_toList, rl.length] : items.size = _)
      refine PyProof.Rows.len_tuple ht (by rw [hz]; have := p.1; omega) (qe (S.tok _) (Step.tok _ _ _) ?_ p.2)
      rw [hz]; simp [Rel]
    | str x =>
      simp only [Rel] at ra
      obtain ⟨t, rfl⟩ := ra
      exact PyProof.Rows.len_str (by have := p.1; omega) (qe (S.tok _) (Step.tok _ _ _) (by simp [Rel]) p.2)
    | ref l =>
      simp only [Rel] at ra; subst ra
      replace p := onLst_of (show onLst σ (.ref l) _ from p)
      obtain ⟨l', vs, e, hq, p⟩ := p
      cases e
      obtain ⟨items, m, ho, rl⟩ := S.listAt hq
      have hz : items.size = _ := (by rw [← Array.length_toList, rl.length] : items.size = _)
      refine PySem.Calls.call_len_list (isList_of ho) (by rw [hz]; omega) (qe (S.tok _) (Step.tok _ _ _) ?_ p.2)
      rw [hz]; simp [Rel]
    | _ => exact p.elim
  split at p
  · rename_i e; subst e
    rw [show bootBuiltins "isinstance" = some (.builtin "isinstance") from by decide +kernel] at hf; cases hf
    replace p := arg2_of p
    obtain ⟨a, c, rfl, p⟩ := p
    simp only [RelL] at r
    obtain ⟨v, _, rfl, ra, u, _, rfl, rb, rfl⟩ := r
    cases c with
    | val c =>
      obtain ⟨T, t, b, rfl, h1, h2, h3, p⟩ := p
      simp only [Rel] at rb; subst rb
      exact isi_ok C S ra h1 h2 h3 p
    | ref c =>
      obtain ⟨t, b, h1, h2, h3, p⟩ := p
      simp only [Rel] at rb; subst rb
      exact isi_ok C S ra h1 h2 h3 p
    | _ => exact p.elim
  split at p
  · rename_i e; subst e
    rw [show bootBuiltins "list" = some (.type "list") from by decide +kernel] at hf; cases hf
    replace p := arg1_of p
    obtain ⟨a, rfl, p⟩ := p
    replace p := onLst_of p
    obtain ⟨l, vs, rfl, hq, p⟩ := p
    simp only [RelL, Rel] at r
    obtain ⟨v, _, rfl, rfl, rfl⟩ := r
    obtain ⟨items, m, ho, rl⟩ := S.listAt hq
    refine call_list_seq (items := items) _ (.inl rfl) ho rfl rfl (fun h' c' hk hD => ?_) (by rw [← Array.length_toList, rl.length]; exact p.1)
    exact ⟨_, _, by simp [Rel], S.new (s' := { s with heap := h' }) hk (Nat.le_refl _) (c := .list _) ⟨items, c', hD, rl.grow (.of_keep hk)⟩, .keeps hk, p.2 _ (S.fresh (Nat.le_refl _))⟩
  split at p
  · rename_i e; subst e
    rw [show bootBuiltins "max" = some (.builtin "max") from by decide +kernel] at hf; cases hf
    rcases p with p | p
    · exact p.elim
    · replace p := arg2_of p
      obtain ⟨a, b, rfl, p⟩ := p
      replace p := int2_of p
      obtain ⟨i, j, rfl, rfl, p⟩ := p
      simp only [RelL, Rel] at r
      obtain ⟨v, _, rfl, ⟨t, rfl⟩, u, _, rfl, ⟨t', rfl⟩, rfl⟩ := r
      refine max_two_ints (hand_none C p.1) fun h' tk hk => S.keepsQ hk ?_ p.2
      split <;> simp only [Rel]
      · exact ⟨_, by rw [show max _ _ = _ from Int.max_eq_right (by first | decide | with_reducible exact lv hn | with_reducible exact lv1 hn | with_reducible exact lv2 hn | with_reducible exact Int.natCast_nonneg _ | omega)]⟩
      · exact ⟨_, by rw [show max _ _ = _ from Int.max_eq_left (by first | decide | with_reducible exact lv hn | with_reducible exact lv1 hn | with_reducible exact lv2 hn | with_reducible exact Int.natCast_nonneg _ | omega)]⟩
  split at p
  · rename_i e; subst e
    exact p.elim
  split at p
  · exact p.elim
  split at p
  · rename_i e; subst e
    rw [show bootBuiltins "int" = some (.type "int") from by decide +kernel] at hf; cases hf
    replace p := arg1_of p
    obtain ⟨a, rfl, p⟩ := p
    simp only [RelL] at r
    obtain ⟨v, _, rfl, ra, rfl⟩ := r
    cases a with
    | bool b =>
      simp only [Rel] at ra; subst ra
      exact call_int_bool (qe (S.tok _) (Step.tok _ _ _) (by simp [Rel]) p)
    | _ => exact p.elim
  · exact p.elim
end
end Mine
set_option maxRecDepth 100000
namespace Mine
open PySem PyProof.Rows

variable {G : PG}

open Classical in
/-- hide the objects N as they are -/
noncomputable def hidN (H : Hid) (N : List Addr) (h : Heap) : Hid := fun a => if a ∈ N then h.get? a else H a
theorem hidN_of {H : Hid} {N : List Addr} {h : Heap} {a : Addr} (e : a ∈ N) : hidN H N h a = h.get? a := if_pos e
theorem hidN_ne {H : Hid} {N : List Addr} {h : Heap} {a : Addr} (e : a ∉ N) : hidN H N h a = H a := if_neg e
theorem hidN_hidN (H : Hid) (N : List Addr) (h h' : Heap) : hidN (hidN H N h) N h' = hidN H N h' := by
  funext a
  by_cases q : a ∈ N
  · rw [hidN_of q, hidN_of q]
  · rw [hidN_ne q, hidN_ne q, hidN_ne q]

/-- N is new -/
structure NOk (B : Heap) (H : Hid) (env : Env) (N : List Addr) : Prop where
  base : ∀ b ∈ N, B.get? b = none
  hid : ∀ b ∈ N, H b = none
  loc : env.locals ∉ N
  cells : ∀ x ∈ env.cells, x.2 ∉ N
/-- N's objects are there, of a kind that no step touches -/
noncomputable def There (N : List Addr) (h : Heap) : Prop := ∀ b ∈ N, ∃ o, h.get? b = some o ∧ ∀ C vs, o.cls = .ref C → o.data ≠ .fields vs

section
variable {B : Heap} {H : Hid} {A : Around} {env : Env} {n : Nat} {ρ : Loc} {σ : Sto} {s s₁ : Shared} {N : List Addr}

theorem hidN_some {h : Heap} {a : Addr} (q : NOk B H env N) (t : There N h) : hidN H N h a = none ↔ (a ∉ N ∧ H a = none) := by
  by_cases e : a ∈ N
  · obtain ⟨o, ho, _⟩ := t a e
    rw [hidN_of e, ho]; simp [e]
  · rw [hidN_ne e]; simp [e]

theorem Cx.hidN {h : Heap} (C : Cx G B H A env n) (q : NOk B H env N) : Cx G B (hidN H N h) A env n := by
  have fr : ∀ l, FramesIn B H l → FramesIn B (Mine.hidN H N h) l := fun l hl e he => by
    obtain ⟨h1, L, o, h2, h3, h4, h5⟩ := hl e he
    exact ⟨h1, L, o, h2, h3, by rw [hidN_ne fun z => by rw [q.hid L z] at h4; cases h4]; exact h4, h5⟩
  obtain ⟨T, E, ⟨a1, a2, a3, fe, outer, a4, a5, a6, a7⟩⟩ := C
  refine ⟨T, ⟨E.kind, E.glob, E.bltn, ⟨E.loc.1, by rw [hidN_ne q.loc]; exact E.loc.2⟩, E.apart, fun x hx => ⟨(E.own x hx).1, by rw [hidN_ne (q.cells x hx)]; exact (E.own x hx).2⟩⟩, a1, a2, ?_, fe, outer, a4, fr _ a5, a6, fun z => fr _ (a7 z)⟩
  rcases a3 with a3 | ⟨z, e, o, vs, h1, h2, h3⟩
  · exact .inl a3
  · exact .inr ⟨z, e, o, vs, h1, by rw [hidN_ne fun z => by rw [q.hid e z] at h2; cases h2]; exact h2, h3⟩
theorem FrameOk.hidN {h : Heap} (F : FrameOk B H env) (q : NOk B H env N) : FrameOk B (hidN H N h) env :=
  { kind := F.kind, glob := F.glob, bltn := F.bltn, loc := ⟨F.loc.1, by rw [hidN_ne q.loc]; exact F.loc.2⟩, apart := F.apart, fr := F.fr, nodup := F.nodup
    own := fun x hx => ⟨(F.own x hx).1, by rw [hidN_ne (q.cells x hx)]; exact (F.own x hx).2⟩ }

theorem FrameAt.dom {H' : Hid} {h : Heap} (d : ∀ a items, IsTup h a items → H a = none → H' a = none) (x : FrameAt H h env ρ) : FrameAt H' h env ρ := by
  obtain ⟨⟨m, hn, hm⟩, hc, ht⟩ := x
  refine ⟨⟨m, hn, fun x e z => (hm x e z).dom d⟩, fun x e => ?_, ht⟩
  obtain ⟨c, v, e1, e2, r⟩ := hc x e
  exact ⟨c, v, e1, e2, r.dom d⟩

/-- new objects are hidden -/
theorem St.hide (S : St G B H env ρ σ s) (k : ∀ b o, s.heap.get? b = some o → s₁.heap.get? b = some o) (f : ∀ b ∈ N, s.heap.objs.size ≤ b) :
    St G B (hidN H N s₁.heap) env ρ σ s₁ ∧ NOk B H env N := by
  have lt : ∀ b o, s.heap.get? b = some o → b ∉ N := fun b o e z => Nat.lt_irrefl _ (Nat.lt_of_lt_of_le (Heap.lt_size e) (f b z))
  have d : ∀ a items, IsTup s.heap a items → H a = none → Mine.hidN H N s₁.heap a = none := fun a items ⟨o, ho, _⟩ q => by rw [hidN_ne (lt a o ho)]; exact q
  have g : Grow (Mine.hidN H N s₁.heap) s.heap s₁.heap := .of_keep k
  refine ⟨⟨fun b o e => k b o (S.keep b o e), fun a o e => ?_, (S.frame.dom d).keep (fun b o _ e => ⟨o.slots, k b o e⟩) g, fun a c e => ?_, S.root, S.low⟩, ?_⟩
  · by_cases q : a ∈ N
    · rw [hidN_of q] at e
      exact ⟨o.slots, e, fun _ => rfl⟩
    · rw [hidN_ne q] at e
      obtain ⟨sl, h1, h2⟩ := S.hid a o e
      exact ⟨sl, k a _ h1, h2⟩
  · obtain ⟨q1, q2, q3, q4⟩ := S.store a c e
    obtain ⟨o, ho, _⟩ := q1.there
    exact ⟨(q1.dom d).keep (fun o e => k a o e) g, q2, by rw [hidN_ne (lt a o ho)]; exact q3, q4⟩
  · refine ⟨fun b hb => none_of_not_some fun o e => lt b o (S.keep b o e) hb, fun b hb => none_of_not_some fun o e => ?_, fun z => ?_, fun x hx z => ?_⟩
    · obtain ⟨sl, h1, _⟩ := S.hid b o e
      exact lt b _ h1 hb
    · exact Nat.lt_irrefl _ (Nat.lt_of_lt_of_le S.locals_lt (f _ z))
    · exact Nat.lt_irrefl _ (Nat.lt_of_lt_of_le (S.cell_lt hx) (f _ z))

/-- what is hidden moves -/
theorem St.turn {h : Heap} (q : NOk B H env N) (t : There N h) (S : St G B (hidN H N h) env ρ σ s) (k : ∀ b o, b ∉ N → s.heap.get? b = some o → s₁.heap.get? b = some o) (t' : There N s₁.heap) (ts : There N s.heap) :
    St G B (hidN H N s₁.heap) env ρ σ s₁ ∧ Grow (hidN H N h) s.heap s₁.heap ∧ ∀ a, hidN H N h a = none → hidN H N s₁.heap a = none := by
  have dd : ∀ a, Mine.hidN H N h a = none → Mine.hidN H N s₁.heap a = none := fun a z => (hidN_some q t').mpr ((hidN_some q t).mp z)
  have d : ∀ a items, IsTup s.heap a items → Mine.hidN H N h a = none → Mine.hidN H N s₁.heap a = none := fun a _ _ z => dd a z
  have g0 : Grow (Mine.hidN H N h) s.heap s₁.heap := ⟨fun a items z ⟨o, ho, r⟩ => ⟨o, k a o ((hidN_some q t).mp z).1 ho, r⟩, fun a o vs C e c dq => ⟨o, vs, k a o (fun z => by
      obtain ⟨o', h1, h2⟩ := ts a z
      rw [e] at h1; cases h1; exact h2 C vs c dq) e, .rfl, dq⟩⟩
  have g : Grow (Mine.hidN H N s₁.heap) s.heap s₁.heap := ⟨fun a items z => g0.tup a items ((hidN_some q t).mpr ((hidN_some q t').mp z)), g0.recs⟩
  refine ⟨⟨fun b o e => k b o (fun z => by rw [q.base b z] at e; cases e) (S.keep b o e), fun a o e => ?_, (S.frame.dom d).keep (fun b o z e => ⟨o.slots, k b o ?_ e⟩) g, fun a c e => ?_, S.root, S.low⟩, g0, dd⟩
  · by_cases z : a ∈ N
    · rw [hidN_of z] at e
      exact ⟨o.slots, e, fun _ => rfl⟩
    · rw [hidN_ne z] at e
      obtain ⟨sl, h1, h2⟩ := S.hid a o (by rw [hidN_ne z]; exact e)
      exact ⟨sl, k a _ z h1, h2⟩
  · rcases z with rfl | ⟨y, hy, rfl⟩
    · exact q.loc
    · exact q.cells y hy
  · obtain ⟨q1, q2, q3, q4⟩ := S.store a c e
    obtain ⟨z1, z2⟩ := (hidN_some q t).mp q3
    exact ⟨(q1.dom d).keep (fun o e => k a o z1 e) g, q2, dd a q3, q4⟩

/-- the end: they are let go -/
theorem St.unhide {h : Heap} (q : NOk B H env N) (t : There N h) (S : St G B (hidN H N h) env ρ σ s) : St G B H env ρ σ s := by
  have d : ∀ a items, IsTup s.heap a items → Mine.hidN H N h a = none → H a = none := fun a _ _ z => ((hidN_some q t).mp z).2
  refine ⟨S.keep, fun a o e => ?_, S.frame.dom d, fun a c e => ?_, S.root, S.low⟩
  · exact S.hid a o (by rw [hidN_ne fun z => by rw [q.hid a z] at e; cases e]; exact e)
  · obtain ⟨q1, q2, q3, q4⟩ := S.store a c e
    exact ⟨q1.dom d, q2, ((hidN_some q t).mp q3).2, q4⟩
theorem St.leave {h : Heap} (q : NOk B H env N) (t : There N h) (S : St G B (hidN H N h) env ρ σ s) (k : ∀ b o, b ∉ N → s.heap.get? b = some o → s₁.heap.get? b = some o) (ts : There N s.heap) :
    St G B H env ρ σ s₁ ∧ Grow (hidN H N h) s.heap s₁.heap := by
  have d : ∀ a items, IsTup s.heap a items → Mine.hidN H N h a = none → H a = none := fun a _ _ z => ((hidN_some q t).mp z).2
  have g0 : Grow (Mine.hidN H N h) s.heap s₁.heap := ⟨fun a items z ⟨o, ho, r⟩ => ⟨o, k a o ((hidN_some q t).mp z).1 ho, r⟩, fun a o vs C e c dq => ⟨o, vs, k a o (fun z => by
      obtain ⟨o', h1, h2⟩ := ts a z
      rw [e] at h1; cases h1; exact h2 C vs c dq) e, .rfl, dq⟩⟩
  refine ⟨⟨fun b o e => k b o (fun z => by rw [q.base b z] at e; cases e) (S.keep b o e), fun a o e => ?_, ?_, fun a c e => ?_, S.root, S.low⟩, g0⟩
  · have na : a ∉ N := fun z => by rw [q.hid a z] at e; cases e
    obtain ⟨sl, h1, h2⟩ := S.hid a o (by rw [hidN_ne na]; exact e)
    exact ⟨sl, k a _ na h1, h2⟩
  · refine FrameAt.dom (H := Mine.hidN H N h) (fun a _ _ z => ((hidN_some q t).mp z).2) (S.frame.keep (fun b o z e => ⟨o.slots, k b o ?_ e⟩) g0)
    rcases z with rfl | ⟨y, hy, rfl⟩
    · exact q.loc
    · exact q.cells y hy
  · obtain ⟨q1, q2, q3, q4⟩ := S.store a c e
    obtain ⟨z1, z2⟩ := (hidN_some q t).mp q3
    exact ⟨CellAt.dom (H := Mine.hidN H N h) (fun a _ _ z => ((hidN_some q t).mp z).2) (q1.keep (fun o e => k a o z1 e) g0), q2, z2, q4⟩
/-- steps under the hidden ones are steps from before them -/
theorem Step.over {s₀ : Shared} {h : Heap} (f : ∀ b ∈ N, s₀.heap.objs.size ≤ b) (x : Step H s₀ s) (y : Step (hidN H N h) s s₁) : Step H s₀ s₁ := by
  refine ⟨⟨fun a items z w => ?_, fun a o vs C e c d => ?_⟩, y.gens.trans x.gens, y.os.trans x.os⟩
  · have na : a ∉ N := fun q => by obtain ⟨o, ho, _⟩ := w; exact Nat.lt_irrefl _ (Nat.lt_of_lt_of_le (Heap.lt_size ho) (f a q))
    exact y.grow.tup a items (by rw [hidN_ne na]; exact z) (x.grow.tup a items z w)
  · obtain ⟨o', vs', e1, c1, d1⟩ := x.grow.recs a o vs C e c d
    obtain ⟨o2, vs2, e2, c2, d2⟩ := y.grow.recs a o' vs' C e1 (c1.1.trans c) d1
    exact ⟨o2, vs2, e2, c2.trans c1, d2⟩
theorem after_at {h : Heap} {b : Addr} {o : Obj} (S : St G B (hidN H N h) env ρ σ s) (hb : b ∈ N) (e : h.get? b = some o) (nd : ∀ es n, o.data ≠ .dict es n) : s.heap.get? b = some o := by
  obtain ⟨sl, h1, h2⟩ := S.hid b o (by rw [hidN_of hb]; exact e)
  rw [h1, h2 nd]
theorem There.after {h : Heap} (t : There N h) (S : St G B (hidN H N h) env ρ σ s) : There N s.heap := fun b hb => by
  obtain ⟨o, e, r⟩ := t b hb
  obtain ⟨sl, h1, _⟩ := S.hid b o (by rw [hidN_of hb]; exact e)
  exact ⟨_, h1, r⟩
/-- the hidden ones as they stand now -/
theorem St.fresh_hidN {h : Heap} (q : NOk B H env N) (t : There N h) (S : St G B (hidN H N h) env ρ σ s) : St G B (hidN H N s.heap) env ρ σ s :=
  (S.turn q t (fun _ _ _ e => e) (t.after S) (t.after S)).1
theorem Flies.unhide {h h' : Heap} {e : Addr} {cls : Value} (q : NOk B H env N) (t : There N h) (f : Flies B (hidN H N h) σ h' e cls) : Flies B H σ h' e cls := by
  have m : ∀ {a}, Mine1 B (Mine.hidN H N h) σ a → Mine1 B H σ a := fun z => ⟨z.base, ((hidN_some q t).mp z.hid).2, z.sto⟩
  obtain ⟨n1, n2, o, vs, a, b, c, d, e⟩ := f
  refine ⟨m n1, n2, o, vs, a, b, c, d, e.imp id ?_⟩
  rintro ⟨T, e1, e2, e3, e4⟩
  exact ⟨T, e1, m e2, e3, e4⟩
/-! ### iterators -/
noncomputable def okName : Expr → Prop := fun t => ∃ x p, t = .Name x p
noncomputable def okTup : Expr → Prop := fun t => ∃ es k p, t = .Tuple es k p
noncomputable def okFor (src : Src) (t : Expr) : Prop := if src.pair = true then okTup t else okName t
/-- an iterator over src: J k stands behind k items -/
noncomputable def ItSelf (G : PG) (it : Addr) (J : Nat → Heap → Prop) : Prop := ∀ {A : Around} {s : Shared} {k : Nat} {Q : Value → Shared → Prop} {E : Value → Shared → Prop}, J k s.heap → Q (.ref it) s → wpAny G.M A (pyIter (.ref it)) Q E s
noncomputable def ItFrame (N : List Addr) (J : Nat → Heap → Prop) : Prop := ∀ k h h', J k h → (∀ b ∈ N, ∀ o, h.get? b = some o → h'.get? b = some o) → J k h'
noncomputable def ItThere (N : List Addr) (J : Nat → Heap → Prop) : Prop := ∀ k h, J k h → ∀ b ∈ N, ∃ o, h.get? b = some o ∧ (∀ es n, o.data ≠ .dict es n) ∧ ∀ C, o.cls ≠ .ref C
noncomputable def ItNext (G : PG) (n : Nat) (src : Src) (it : Addr) (N : List Addr) (J : Nat → Heap → Prop) : Prop := ∀ {B : Heap} {H : Hid} {A : Around} {env : Env} {ρ : Loc} {σ : Sto} {s : Shared} {k : Nat} {vs : List AV} {v : AV} {target : Expr} {Q : Option Value → Shared → Prop} {E : Value → Shared → Prop} {Q' : Value → Unit → Shared → Prop},
    Cx G B H A env n → St G B H env ρ σ s → J k s.heap → (∀ b ∈ N, H b ≠ none) → src.items σ = some vs → vs[k]? = some v → okFor src target →
    (∀ u h' tk, (∀ b o, b ∉ N → s.heap.get? b = some o → h'.get? b = some o) → wpAny G.M A (letOwnedTupleGo target (.ref it) u) (Q' u) E { s with heap := h', toks := tk } → Q (some u) { s with heap := h', toks := tk }) →
    (∀ u h' tk, (∀ b o, b ∉ N → s.heap.get? b = some o → h'.get? b = some o) → J (k + 1) h' → Rel (hidN H N h') h' v u → Q' u () { s with heap := h', toks := tk }) →
    wpAny G.M A (pyNext (.ref it)) Q E s
noncomputable def ItNextN (G : PG) (n : Nat) (src : Src) (it : Addr) (N : List Addr) (J : Nat → Heap → Prop) : Prop := ∀ {B : Heap} {H : Hid} {A : Around} {env : Env} {ρ : Loc} {σ : Sto} {s : Shared} {k : Nat} {vs : List AV} {v : AV} {Q : Option Value → Shared → Prop} {E : Value → Shared → Prop}, src.pair = false →
    Cx G B H A env n → St G B H env ρ σ s → J k s.heap → (∀ b ∈ N, H b ≠ none) → src.items σ = some vs → vs[k]? = some v →
    (∀ u h' tk, (∀ b o, b ∉ N → s.heap.get? b = some o → h'.get? b = some o) → J (k + 1) h' → Rel (hidN H N h') h' v u → Q (some u) { s with heap := h', toks := tk }) →
    wpAny G.M A (pyNext (.ref it)) Q E s
noncomputable def ItDone (G : PG) (n : Nat) (src : Src) (it : Addr) (N : List Addr) (J : Nat → Heap → Prop) : Prop := ∀ {B : Heap} {H : Hid} {A : Around} {env : Env} {ρ : Loc} {σ : Sto} {s : Shared} {vs : List AV} {Q : Option Value → Shared → Prop} {E : Value → Shared → Prop},
    Cx G B H A env n → St G B H env ρ σ s → J vs.length s.heap → src.items σ = some vs →
    (∀ h' tk, (∀ b o, b ∉ N → s.heap.get? b = some o → h'.get? b = some o) → Q none { s with heap := h', toks := tk }) → wpAny G.M A (pyNext (.ref it)) Q E s
structure Itr (G : PG) (n : Nat) (src : Src) (it : Addr) (N : List Addr) (J : Nat → Heap → Prop) : Prop where
  mem : it ∈ N
  self : ItSelf G it J
  frame : ItFrame N J
  there : ItThere N J
  next : ItNext G n src it N J
  nextN : ItNextN G n src it N J
  done : ItDone G n src it N J
end
end Mine
set_option maxRecDepth 100000
namespace Mine
open PySem PyProof.Rows

variable {G : PG}

/-- nothing is handled, or an exception without a context -/
noncomputable def HandOk (A : Around) (h : Heap) : Prop := A.handled = none ∨ ∃ e o vs, A.handled = some (.ref e) ∧ h.get? e = some o ∧ o.data = .fields vs ∧ vs[2]? = some Value.none
theorem Cx.handOk {B : Heap} {H : Hid} {A : Around} {env : Env} {n : Nat} {ρ : Loc} {σ : Sto} {s : Shared} (C : Cx G B H A env n) (S : St G B H env ρ σ s) : HandOk A s.heap := by
  rcases C.A.hand with q | ⟨_, e, o, vs, h1, h2, h3, _, h4⟩
  · exact .inl q
  · obtain ⟨sl, h5, _⟩ := S.hid e o h2
    exact .inr ⟨e, _, vs, h1, h5, h3, h4⟩

section
variable {prog : Program} {w : World} {A : Around} {E : Value → Shared → Prop} {s : Shared}

theorem entry_unchain : entryFor table "proto.unchain" = some Builtin.«proto.unchain» := entryFor_of_tree (by kernel_rfl)

/-- a new exception is raised -/
theorem raise_new {α : Type} {a : Addr} {o : Obj} {vs : Array Value} {Q : α → Shared → Prop} (ho : s.heap.get? a = some o) (hd : o.data = .fields vs) (hz : 2 < vs.size) (hh : HandOk A s.heap) (hne : A.handled ≠ some (.ref a))
    (h : ∀ h', Heap.SameBut a s.heap h' → (∃ o', h'.get? a = some o' ∧ o'.cls = o.cls ∧ ∃ u, o'.data = .fields (vs.setIfInBounds 2 u) ∨ o' = o) → E (.ref a) { s with heap := h' }) :
    wpAny (model prog w) A (raiseNew (.ref a) : Sem α) Q E s := by
  unfold raiseNew
  refine wpAny_bind (wpAny_handled ?_)
  rcases hh with hh | ⟨e, oe, ws, hh, he, hde, hc⟩
  · rw [hh]
    exact wpAny_bind (wpAny_pure (wpAny_throw (h s.heap (.refl ..) ⟨o, ho, rfl, .none, .inr rfl⟩)))
  · rw [hh]
    have ne : e ≠ a := fun q => hne (by rw [hh, q])
    dsimp only
    have hb : (Value.ref e != Value.ref a) = true := by simp [ne]
    rw [if_pos hb]
    refine wpAny_bind (wpAny_holding (wpAny_runValue (codeAny_builtin entry_unchain ?_)))
    show wpAny _ _ (field (.ref e) 2 >>= _) _ _ s
    refine wpAny_bind (wpAny_field he hde hc ?_)
    rw [if_pos (by rfl)]
    refine wpAny_pure ?_
    have : wpAny (model prog w) A (setField (.ref a) 2 (.ref e)) (fun _ s' => wpAny (model prog w) A (throw (Value.ref a) : Sem α) Q E s') E s := by
      refine wpAny_setField ho hd hz ?_
      have hd₃ := Obj.data_mapFields hd (·.setIfInBounds 2 (Value.ref e))
      exact wpAny_throw (h _ (Heap.SameBut.update ..) ⟨_, Heap.get?_update_self _ ho (Obj.isFreed_of_fields hd₃), Obj.cls_mapFields _ _, .ref e, .inl hd₃⟩)
    exact wpAny_bind this

/-- a list's end, under a handler too -/
theorem list_end {it l : Addr} {i : Nat} {items : Array Value} {Q : Option Value → Shared → Prop} (hh : HandOk A s.heap) (hit : s.heap.IsListIter it l i) (hne : A.handled ≠ some (.ref it)) (hl : s.heap.IsList l items) (hx : items[i]? = none)
    (hQ : ∀ h', Heap.ExtBut it s.heap h' → Q none { s with heap := h' }) : wpAny (model prog w) A (pyNext (.ref it)) Q E s := by
  obtain ⟨o, ho, hc, hd⟩ := id hit
  obtain ⟨ol, hol, _, nl, hdl⟩ := hl
  unfold pyNext
  refine wpAny_bind (wpAny_attempt (wpAny_callSpecial?_slot (name := Str.ofString "__next__") hit.typeIs slot_listiter_next (wpAny_call_entry slot_listiter_next hit.typeIs entry_listiter_next ?_ (args_listiter_next _))))
  show wpAny _ _ (field (.ref it) 0 >>= _) _ _ s
  refine wpAny_bind (wpAny_field ho hd (x := .ref l) rfl ?_)
  show wpAny _ _ (if (Value.ref l == Value.none) = true then _ else _) _ _ s
  rw [if_neg (show ¬ ((Value.ref l == Value.none) = true) from Bool.false_ne_true)]
  show wpAny _ _ (field (.ref it) 1 >>= _) _ _ s
  refine wpAny_bind (wpAny_field ho hd (x := .int i 0) rfl ?_)
  show wpAny _ _ (seqItems? (.ref l) >>= _) _ _ s
  refine wpAny_bind (wpAny_seqItems hol hdl ?_)
  simp only [Int.toNat_natCast, hx]
  refine wpAny_bind (wpAny_rule (wpAny_bind (wpAny_setField ho hd (by simp) ?_)))
  show wpAny _ _ (newExc (.type "StopIteration") [] >>= _) _ _ _
  refine wpAny_bind ?_
  simp only [newExc, newTuple]
  refine wpAny_bind (wpAny_newObj_type ?_ (by size_fits))
  refine wpAny_bind (m := firstArgMember _ _) (wpAny_of_eq (a := Value.none) (by first | rfl | (simp only [firstArgMember]; rfl)) ?_)
  refine wpAny_newObj_type ?_ (by size_fits)
  have keep : ∀ (o1 o2 : Obj) {b : Addr} {o' : Obj}, b ≠ it → s.heap.get? b = some o' → (((s.heap.update it (Obj.mapFields fun x => x.setIfInBounds 0 Value.none)).push o1).push o2).get? b = some o' := fun o1 o2 _ _ nb e =>
    Heap.get?_push_of_some _ (Heap.get?_push_of_some _ ((Heap.get?_update_other _ _ (Ne.symm nb)).trans e))
  have big : ∀ o1 : Obj, s.heap.objs.size < ((s.heap.update it (Obj.mapFields fun x => x.setIfInBounds 0 Value.none)).push o1).objs.size := fun o1 => by rw [Heap.size_push, Heap.size_update]; exact Nat.lt_succ_self _
  refine raise_new (Heap.get?_push_size _ rfl) rfl (by simp; (first | with_reducible assumption | with_reducible exact Nat.lt_of_lt_of_le (by assumption) (by decide) | omega)) ?_ ?_ fun h' hs ho' => ?_
  · rcases hh with hh | ⟨e, oe, ws, hh, he, hde, hcx⟩
    · exact .inl hh
    · exact .inr ⟨e, oe, ws, hh, keep _ _ (fun q => hne (by rw [hh, q])) he, hde, hcx⟩
  · intro z
    rcases hh with hh | ⟨e, oe, ws, hh, he, hde, hcx⟩
    · rw [show A.in1.handled = none from hh] at z; cases z
    · rw [show A.in1.handled = _ from hh] at z
      have := Option.some.inj z
      injection this with this
      have l1 := Heap.lt_size he
      have l2 := big { cls := .type "tuple", data := .seq ([] : List Value).toArray }
      rw [this] at l1
      exact Nat.lt_irrefl _ (Nat.lt_trans l1 l2)
  · obtain ⟨o', ho', hc', _⟩ := ho'
    refine wpAny_bind (wpAny_isInstance (T := "StopIteration") (b := true) ⟨o', ho', hc'⟩ isSubtype_stop ?_)
    refine wpAny_pure (hQ _ fun b o2 nb e => ?_)
    refine hs.extBut b o2 (fun q => ?_) (keep _ _ nb e)
    have l1 := Heap.lt_size e
    have l2 := big { cls := .type "tuple", data := .seq ([] : List Value).toArray }
    rw [q] at l1
    exact Nat.lt_irrefl _ (Nat.lt_trans l1 l2)
end
end Mine
set_option maxRecDepth 100000
namespace Mine
open PySem PyProof.Rows

variable {G : PG}

theorem Rel.moved {H : Hid} {N : List Addr} {h h' : Heap} {v : AV} {u : Value} (r : Rel H h v u) (hH : ∀ b ∈ N, H b ≠ none) (k : ∀ b o, b ∉ N → h.get? b = some o → h'.get? b = some o) (t : There N h) (t' : There N h') : Rel (hidN H N h') h' v u := by
  refine (r.dom (H' := hidN H N h') fun a items _ q => ?_).grow ⟨fun a items z ⟨o, ho, r⟩ => ⟨o, k a o (fun q => ?_) ho, r⟩, fun a o vs C e c d => ⟨o, vs, k a o (fun q => ?_) e, .rfl, d⟩⟩
  · rw [hidN_ne fun z => hH a z q]; exact q
  · obtain ⟨o', h1, _⟩ := t' a q
    rw [hidN_of q, h1] at z; cases z
  · obtain ⟨o', h1, h2⟩ := t a q
    rw [e] at h1; cases h1; exact h2 C vs c d


theorem isListIter_there {h : Heap} {it l : Addr} {k : Nat} (j : h.IsListIter it l k) : ∃ o, h.get? it = some o ∧ (∀ es n, o.data ≠ .dict es n) ∧ ∀ C, o.cls ≠ .ref C := by
  obtain ⟨o, h1, h2, h3⟩ := j
  exact ⟨o, h1, by simp [h3], by simp [h2]⟩
theorem There.of {N : List Addr} {h : Heap} (q : ∀ b ∈ N, ∃ o, h.get? b = some o ∧ (∀ es n, o.data ≠ .dict es n) ∧ ∀ C, o.cls ≠ .ref C) : There N h := fun b hb => let ⟨o, h1, _, h2⟩ := q b hb; ⟨o, h1, fun C _ e => absurd e (h2 C)⟩

theorem mem1 {a b : Addr} (h : b ∈ [a]) : b = a := by simpa using h
theorem notMem1 {a b : Addr} (h : b ∉ [a]) : b ≠ a := by simpa using h

theorem itr_list (G : PG) (n : Nat) (l it : Addr) : Itr G n (.lst l) it [it] (fun k h => h.IsListIter it l k) where
  mem := .head _
  self := fun j q => wpAny_pyIter_listiter j q
  frame := fun k h h' j q => j.at fun o e => q it (by simp) o e
  there := fun k h j b hb => by obtain rfl := mem1 hb; exact isListIter_there j
  next := fun {B H A env ρ σ s k vs v target Q E Q'} C S j hH hs hv hT h1 h2 => by
    have hq : lstOf σ l = some vs := hs
    · skip
      obtain ⟨items, m, ho, rl⟩ := S.listAt hq
      obtain ⟨u, hu, ru⟩ := rl.get k hv
      obtain ⟨x, p, rfl⟩ : okName target := hT
      have t : There [it] s.heap := .of fun b hb => by obtain rfl := mem1 hb; exact isListIter_there j
      refine wpAny_pyNext_list_item j (isList_of ho) (x := u) (by simpa using hu) fun h' hit' hs' => ?_
      have kk : ∀ b o, b ∉ [it] → s.heap.get? b = some o → h'.get? b = some o := fun b o hb e => hs'.extBut b o (notMem1 hb) e
      have t' : There [it] h' := .of fun b hb => by obtain rfl := mem1 hb; exact isListIter_there hit'
      exact h1 u h' s.toks kk (wpAny_pure (h2 u h' s.toks kk hit' (ru.moved hH kk t t')))
  nextN := fun {B H A env ρ σ s k vs v Q E} _ C S j hH hs hv h1 => by
    have hq : lstOf σ l = some vs := hs
    · skip
      obtain ⟨items, m, ho, rl⟩ := S.listAt hq
      obtain ⟨u, hu, ru⟩ := rl.get k hv
      have t : There [it] s.heap := .of fun b hb => by obtain rfl := mem1 hb; exact isListIter_there j
      refine wpAny_pyNext_list_item j (isList_of ho) (x := u) (by simpa using hu) fun h' hit' hs' => ?_
      have kk : ∀ b o, b ∉ [it] → s.heap.get? b = some o → h'.get? b = some o := fun b o hb e => hs'.extBut b o (notMem1 hb) e
      have t' : There [it] h' := .of fun b hb => by obtain rfl := mem1 hb; exact isListIter_there hit'
      exact h1 u h' s.toks kk hit' (ru.moved hH kk t t')
  done := fun {B H A env ρ σ s vs Q E} C S j hs h1 => by
    have hq : lstOf σ l = some vs := hs
    · skip
      obtain ⟨items, m, ho, rl⟩ := S.listAt hq
      have hz : items.size = vs.length := by rw [← Array.length_toList, rl.length]
      refine list_end (C.handOk S) j (fun z => ?_) (isList_of ho) (by simp [hz]) fun h' he => h1 h' s.toks fun b o hb e => he b o (notMem1 hb) e
      rcases C.A.hand with q | ⟨_, e, o, ws, g1, g2, g3, g4, _⟩
      · rw [q] at z; cases z
      · rw [g1] at z; injection z with z; injection z with z; subst z
        obtain ⟨sl, g5, _⟩ := S.hid e o g2
        obtain ⟨o', g6, _, g7⟩ := j
        rw [g5] at g6; cases g6
        rw [show _ = _ from g3] at g7; injection g7 with g7; rw [g7] at g4; simp at g4

theorem rangeL_get {a b c : Int} {k : Nat} {v : AV} (h : (rangeL a b c)[k]? = some v) : v = .int (a + k * c) ∧ k < (Builtin.Range.rangeSize a b c).toNat := by
  unfold rangeL at h
  rw [List.getElem?_map] at h
  obtain ⟨i, e1, e2⟩ := Option.map_eq_some_iff.mp h
  rw [List.getElem?_eq_some_iff] at e1
  obtain ⟨hlt, e3⟩ := e1
  simp at e3
  rw [List.length_range] at hlt
  subst e3; exact ⟨e2.symm, hlt⟩

theorem itr_range (G : PG) (n : Nat) (hn : 10 ≤ n) (a b c : Int) (it : Addr) : Itr G n (.vals (rangeL a b c)) it [it] (fun k h => IsRangeIter h it (a + (k : Nat) * c) (((Builtin.Range.rangeSize a b c).toNat : Int) - (k : Nat)) c) where
  mem := .head _
  self := fun j q => wpAny_pyIter_rangeiter j q
  frame := fun k h h' j q => q it (by simp) _ j
  there := fun k h j b hb => by obtain rfl := mem1 hb; exact ⟨_, j, by simp, by simp⟩
  next := fun {B H A env ρ σ s k vs v target Q E Q'} C S j hH hs hv hT h1 h2 => by
    simp only [Src.items] at hs; cases hs
    obtain ⟨rfl, hlt⟩ := rangeL_get hv
    obtain ⟨x, p, rfl⟩ : okName target := hT
    refine wpAny_pyNext_range_item j (by first | decide | with_reducible exact lv hn | with_reducible exact lv1 hn | with_reducible exact lv2 hn | with_reducible exact Int.natCast_nonneg _ | omega) fun h' hit' hs' => ?_
    have kk : ∀ b o, b ∉ [it] → s.heap.get? b = some o → h'.get? b = some o := fun b o hb e => hs'.extBut b o (notMem1 hb) e
    refine h1 _ h' _ kk (wpAny_pure (h2 _ h' _ kk ?_ (by simp [Rel])))
    have e1 : a + ((k + 1 : Nat) : Int) * c = a + (k : Int) * c + c := by push_cast; rw [Int.add_mul, Int.one_mul, Int.add_assoc]
    dsimp only
    rw [e1, show ((Builtin.Range.rangeSize a b c).toNat : Int) - ((k + 1 : Nat) : Int) = ((Builtin.Range.rangeSize a b c).toNat : Int) - (k : Int) - 1 by omega]
    exact hit'
  nextN := fun {B H A env ρ σ s k vs v Q E} _ C S j hH hs hv h1 => by
    simp only [Src.items] at hs; cases hs
    obtain ⟨rfl, hlt⟩ := rangeL_get hv
    refine wpAny_pyNext_range_item j (by first | decide | with_reducible exact lv hn | with_reducible exact lv1 hn | with_reducible exact lv2 hn | with_reducible exact Int.natCast_nonneg _ | omega) fun h' hit' hs' => ?_
    have kk : ∀ b o, b ∉ [it] → s.heap.get? b = some o → h'.get? b = some o := fun b o hb e => hs'.extBut b o (notMem1 hb) e
    refine h1 _ h' _ kk ?_ (by simp [Rel])
    have e1 : a + ((k + 1 : Nat) : Int) * c = a + (k : Int) * c + c := by push_cast; rw [Int.add_mul, Int.one_mul, Int.add_assoc]
    dsimp only
    rw [e1, show ((Builtin.Range.rangeSize a b c).toNat : Int) - ((k + 1 : Nat) : Int) = ((Builtin.Range.rangeSize a b c).toNat : Int) - (k : Int) - 1 by omega]
    exact hit'
  done := fun {B H A env ρ σ s vs Q E} C S j hs h1 => by
    simp only [Src.items] at hs; cases hs
    refine wpAny_pyNext_range_end (hand_none C hn) j (by simp [rangeL]) fun h' he => h1 h' s.toks fun b o hb e => he b o (notMem1 hb) e

theorem itr_str (G : PG) (n : Nat) (hn : 10 ≤ n) (x : Str) (t : Tok) (it : Addr) : Itr G n (.vals (x.cps.toList.map fun c => .str ⟨#[c]⟩)) it [it] (fun k h => h.IsStrIter it "str_ascii_iterator" x t k) where
  mem := .head _
  self := fun j q => wpAny_pyIter_striter_ascii j q
  frame := fun k h h' j q => let ⟨o, ho, r⟩ := j; ⟨o, q it (by simp) o ho, r⟩
  there := fun k h j b hb => by obtain rfl := mem1 hb; obtain ⟨o, h1, h2, h3⟩ := j; exact ⟨o, h1, by simp [h3], by simp [h2]⟩
  next := fun {B H A env ρ σ s k vs v target Q E Q'} C S j hH hs hv hT h1 h2 => by
    simp only [Src.items] at hs; cases hs
    rw [List.getElem?_map] at hv
    obtain ⟨c, e1, rfl⟩ := Option.map_eq_some_iff.mp hv
    obtain ⟨y, p, rfl⟩ : okName target := hT
    refine wpAny_pyNext_ascii_item j (c := c) (by simpa using e1) fun h' hit' hs' => ?_
    have kk : ∀ b o, b ∉ [it] → s.heap.get? b = some o → h'.get? b = some o := fun b o hb e => hs'.extBut b o (notMem1 hb) e
    exact h1 _ h' _ kk (wpAny_pure (h2 _ h' _ kk hit' (by simp [Rel])))
  nextN := fun {B H A env ρ σ s k vs v Q E} _ C S j hH hs hv h1 => by
    simp only [Src.items] at hs; cases hs
    rw [List.getElem?_map] at hv
    obtain ⟨c, e1, rfl⟩ := Option.map_eq_some_iff.mp hv
    refine wpAny_pyNext_ascii_item j (c := c) (by simpa using e1) fun h' hit' hs' => ?_
    have kk : ∀ b o, b ∉ [it] → s.heap.get? b = some o → h'.get? b = some o := fun b o hb e => hs'.extBut b o (notMem1 hb) e
    exact h1 _ h' _ kk hit' (by simp [Rel])
  done := fun {B H A env ρ σ s vs Q E} C S j hs h1 => by
    simp only [Src.items] at hs; cases hs
    refine wpAny_pyNext_ascii_end (hand_none C hn) j (by simp) fun h' he => h1 h' s.toks fun b o hb e => he b o (notMem1 hb) e

theorem relL2 {H : Hid} {h : Heap} {x y : AV} {u v : Value} (a : Rel H h x u) (b : Rel H h y v) : RelL H h [x, y] [u, v] := .cons a (.cons b .nil)
theorem itr_enum (G : PG) (n : Nat) (hn : 10 ≤ n) (e it l : Addr) (hei : e ≠ it) (hle : l ≠ e) (hli : l ≠ it) : Itr G n (.enum l) e [e, it] (fun k h => (∃ old, IsEnum h e it k old) ∧ h.IsListIter it l k) where
  mem := .head _
  self := fun j q => let ⟨_, j1⟩ := j.1; wpAny_pyIter_enum j1 q
  frame := fun k h h' ⟨⟨old, j1⟩, j2⟩ q => ⟨⟨old, q e (by simp) _ j1⟩, j2.at fun o e => q it (by simp) o e⟩
  there := fun k h ⟨⟨old, j1⟩, j2⟩ b hb => by
    simp at hb
    rcases hb with rfl | rfl
    · exact ⟨_, j1, by simp, by simp⟩
    · exact isListIter_there j2
  next := fun {B H A env ρ σ s k vs v target Q E Q'} C S j hH hs hv hT h1 h2 => by
    obtain ⟨⟨old, j1⟩, j2⟩ := j
    simp only [Src.items] at hs
    split at hs
    · rename_i xs hq1; cases hs
      obtain ⟨it1, m1, ho1, rl1⟩ := S.listAt hq1
      rw [List.getElem?_map, List.getElem?_zipIdx] at hv
      cases e1 : xs[k]? with
      | none => rw [e1] at hv; simp at hv
      | some x =>
          rw [e1] at hv; simp at hv; subst hv
          obtain ⟨u1, hu1, ru1⟩ := rl1.get k e1
          obtain ⟨es, kk, pp, rfl⟩ : okTup target := hT
          have W := WalksT.enumerate (prog := G.prog) (w := G.w) (A := A) (hand_none C hn) e it l hei hle hli it1
          have hk : k < it1.size := by
            have a1 : k < it1.toList.length := (List.getElem?_eq_some_iff.mp hu1).1
            simpa using a1
          have nt : There [e, it] s.heap := .of fun b hb => by
            simp at hb
            rcases hb with rfl | rfl
            · exact ⟨_, j1, by simp, by simp⟩
            · exact isListIter_there j2
          refine W.item k s _ _ hk ⟨⟨old, j1⟩, j2, isList_of ho1⟩ fun T vals h' tk hP hTn hT hM hkeep => ?_
          obtain ⟨t, x', p1, rfl⟩ := hP
          have q1 : it1[k]? = some u1 := by simpa using hu1
          rw [q1] at p1; cases p1
          refine h1 _ h' tk hkeep (W.go es kk pp k T _ _ _ hM fun h'' hst hk2 => ?_)
          obtain ⟨⟨old', g1⟩, g2, _⟩ := hst
          have kk' : ∀ b o, b ∉ [e, it] → s.heap.get? b = some o → h''.get? b = some o := fun b o hb q => hk2 b o hb (hkeep b o hb q)
          have nt' : There [e, it] h'' := .of fun b hb => by
            simp at hb
            rcases hb with rfl | rfl
            · exact ⟨_, g1, by simp, by simp⟩
            · exact isListIter_there g2
          have hTN : T ∉ [e, it] := fun q => by
            obtain ⟨o, e, _⟩ := nt T q
            exact Nat.lt_irrefl _ (Nat.lt_of_lt_of_le (Heap.lt_size e) hTn)
          have hTH : H T = none := none_of_not_some fun o e => Nat.lt_irrefl _ (Nat.lt_of_lt_of_le (S.hid_lt e) hTn)
          refine h2 _ h'' tk kk' ⟨⟨old', g1⟩, g2⟩ ?_
          simp only [Rel]
          refine ⟨T, _, rfl, ?_, by rw [hidN_ne hTN]; exact hTH, relL2 (by simp only [Rel]; exact ⟨t, rfl⟩) (ru1.moved hH kk' nt nt')⟩
          obtain ⟨o, ho, r⟩ := hT
          exact ⟨o, hk2 T o (W.apart k T h' hM) ho, r⟩
    · cases hs
  nextN := fun h => by simp [Src.pair] at h
  done := fun {B H A env ρ σ s vs Q E} C S j hs h1 => by
    obtain ⟨⟨old, j1⟩, j2⟩ := j
    simp only [Src.items] at hs
    split at hs
    · rename_i xs hq1; cases hs
      obtain ⟨it1, m1, ho1, rl1⟩ := S.listAt hq1
      have z1 : it1.size = xs.length := by rw [← Array.length_toList, rl1.length]
      rw [List.length_map, List.length_zipIdx, ← z1] at j1 j2
      exact (WalksT.enumerate (prog := G.prog) (w := G.w) (A := A) (hand_none C hn) e it l hei hle hli it1).done s _ _ ⟨⟨old, j1⟩, j2, isList_of ho1⟩ fun h' tk hk => h1 h' tk hk
    · cases hs
end Mine
set_option maxRecDepth 100000
namespace Mine
open PySem PyProof.Rows

variable {G : PG}
section
variable {B : Heap} {H : Hid} {A : Around} {env : Env} {n : Nat} {ρ : Loc} {σ : Sto} {s s₁ : Shared} {N : List Addr} {Ψ : PX} {Φ : PS}

/-- an exception through a loop of the frame's own -/
theorem own_back {e : Value} {s' : Shared} (C : Cx G B H A env n) (F : FrameOk B H env) (q : QX G B H env Ψ s e s') : notedBy G.M A env (cameBackBy G.M A env (QX G B H env Ψ s)) e s' := by
  obtain ⟨ea, cls, ρ', σ', rfl, f, S, st, p⟩ := q
  unfold notedBy
  have key : ∀ s₂, St G B H env ρ' σ' s₂ → FliesT B H σ' s₂.heap ea cls → Step H s' s₂ → cameBackBy G.M A env (QX G B H env Ψ s) (.ref ea) s₂ := fun s₂ S₂ f₂ st₂ => by
    unfold cameBackBy
    obtain ⟨new, ncls, oe, vs, he, hc, hd, hsz, T, h1, rest⟩ := id f₂
    refine wpAny_bind (wpAny_field he hd h1 ?_)
    rw [if_neg (show ¬ ((Value.ref T == Value.none) = true) from Bool.false_ne_true)]
    exact set_flight S₂ f₂ fun s₃ S₃ f₃ st₃ => ⟨ea, cls, ρ', σ', rfl, f₃.flies, S₃, (st.trans st₂).trans st₃, p⟩
  exact note_frame C.A F S f fun s₂ S₂ f₂ st₂ => key s₂ S₂ f₂ st₂
theorem QX.unhide {h : Heap} {e : Value} {s' s₂ : Shared} (q : NOk B H env N) (t : There N h) (f : ∀ b ∈ N, s.heap.objs.size ≤ b) (st : Step H s s₂) (x : QX G B (hidN H N h) env Ψ s₂ e s') : QX G B H env Ψ s e s' := by
  obtain ⟨ea, cls, ρ', σ', rfl, fl, S, st', p⟩ := x
  exact ⟨ea, cls, ρ', σ', rfl, fl.unhide q t, S.unhide q t, st.over f st', p⟩
theorem loop_ok {src : Src} {it : Addr} {J : Nat → Heap → Prop} {target : Expr} {body : List Stmt} {bind : AV → Loc → Option Loc} {bodyT : TS}
    (I0 : Itr G n src it N J) (hT : okFor src target)
    (hbind : ∀ {H : Hid} {s : Shared} {v : AV} {u : Value} {ρ ρ' : Loc} {σ : Sto} {Q : Unit → Shared → Prop} {E : Value → Shared → Prop}, Cx G B H A env n → FrameOk B H env → St G B H env ρ σ s → Rel H s.heap v u → bind v ρ = some ρ' →
      (∀ s', St G B H env ρ' σ s' → Step H s s' → Q () s') → wpAny G.M A (assign target env u) Q E s)
    (hbody : ∀ ρ σ Φ Ψ, bodyT ρ σ Φ Ψ → WS G n env (execs body env) ρ σ Φ Ψ)
    (C : Cx G B H A env n) (F : FrameOk B H env) (S : St G B H env ρ σ s) (k : ∀ b o, s.heap.get? b = some o → s₁.heap.get? b = some o) (st : Step H s s₁) (fN : ∀ b ∈ N, s.heap.objs.size ≤ b) (j : J 0 s₁.heap)
    (p : loopV src bind bodyT ρ σ Φ Ψ) :
    codeAny G.M A (.forLoop target (.ref it) body [] env) (fun r s' => match r with
      | .ok f => ∃ fl ρ' σ', RelF H s'.heap fl f ∧ St G B H env ρ' σ' s' ∧ Step H s s' ∧ Φ fl ρ' σ'
      | .error e => cameBackBy G.M A env (QX G B H env Ψ s) e s') s₁ := by
  obtain ⟨vs, hvs, I, i0, iv, turn, fin⟩ := p
  obtain ⟨S₁, q⟩ := S.hide k fN
  have err : ∀ {h : Heap} {s₂ : Shared}, There N h → Step H s s₂ → ∀ e s', QX G B (hidN H N h) env Ψ s₂ e s' → notedBy G.M A env (cameBackBy G.M A env (QX G B H env Ψ s)) e s' := fun t st e s' x => own_back C F (x.unhide q t fN st)
  refine codeAny_forLoop_any (fun m s' => ∃ i ρ σ, i ≤ vs.length ∧ m = vs.length - i ∧ I (vs.drop i) ρ σ ∧ St G B (hidN H N s'.heap) env ρ σ s' ∧ J i s'.heap ∧ Step H s s') ?_ vs.length ⟨0, ρ, σ, Nat.zero_le _, rfl, i0, S₁, j, st⟩
  rintro m s' ⟨i, ρ', σ', hi, rfl, hI, S', j', st'⟩
  have t' : There N s'.heap := .of (I0.there i _ j')
  have hH : ∀ b ∈ N, hidN H N s'.heap b ≠ none := fun b hb => by
    obtain ⟨o, ho, _⟩ := t' b hb
    rw [hidN_of hb, ho]; simp
  by_cases hlt : i < vs.length
  · have hd : vs.drop i = vs[i] :: vs.drop (i + 1) := List.drop_eq_getElem_cons hlt
    rw [hd] at hI
    obtain ⟨ρ₃, hb, hbd⟩ := turn _ _ _ _ hI
    refine I0.next (C.hidN q) S' j' hH (iv _ _ _ hI) (List.getElem?_eq_getElem hlt) hT (Q' := fun u _ s₁' => wpAny G.M A (assign target env u) (fun _ s₂ => wpAny G.M A (execs body env) _ _ s₂) _ s₁') (fun u h' tk kk w => w) fun u h' tk kk jn r => ?_
    rw [hidN_hidN] at r
    have tn : There N h' := .of (I0.there _ _ jn)
    obtain ⟨S₂, g₂, _⟩ := St.turn (s₁ := { s' with heap := h', toks := tk }) q t' S' kk tn t'
    have st₂ : Step H s { s' with heap := h', toks := tk } := st'.over fN ⟨g₂, rfl, rfl⟩
    refine hbind (C.hidN q) (F.hidN q) S₂ r hb fun s₃ S₃ st₃ => ?_
    have st₃' : Step H s s₃ := st₂.over fN st₃
    refine wpAny_mono (hbody _ _ _ _ hbd B _ A s₃ C.T (F.hidN q) (C.hidN q).A S₃) (fun f s₄ hf => ?_) fun e s₄ x => err tn st₃' e s₄ x
    obtain ⟨fl, ρ₄, σ₄, rf, S₄, st₄, p₄⟩ := hf
    have st₄' : Step H s s₄ := st₃'.over fN st₄
    have j₄ : J (i + 1) s₄.heap := I0.frame _ _ _ jn fun b hb o e => by
      obtain ⟨o', e', nd, _⟩ := I0.there _ _ jn b hb
      rw [e] at e'; cases e'
      exact after_at S₄ hb e nd
    cases fl with
    | next => obtain rfl : f = .next := rf; exact ⟨vs.length - (i + 1), (by first | decide | with_reducible exact lv hn | with_reducible exact lv1 hn | with_reducible exact lv2 hn | with_reducible exact Int.natCast_nonneg _ | omega), i + 1, ρ₄, σ₄, hlt, rfl, p₄, S₄.fresh_hidN q tn, j₄, st₄'⟩
    | cont => obtain rfl : f = .cont := rf; exact ⟨vs.length - (i + 1), (by first | decide | with_reducible exact lv hn | with_reducible exact lv1 hn | with_reducible exact lv2 hn | with_reducible exact Int.natCast_nonneg _ | omega), i + 1, ρ₄, σ₄, hlt, rfl, p₄, S₄.fresh_hidN q tn, j₄, st₄'⟩
    | brk => obtain rfl : f = .brk := rf; exact ⟨.next, ρ₄, σ₄, rfl, S₄.unhide q tn, st₄', p₄⟩
    | ret a =>
      obtain ⟨v, rfl, ra⟩ := rf
      exact ⟨.ret a, ρ₄, σ₄, ⟨v, rfl, ra.dom fun b items _ z => ((hidN_some q tn).mp z).2⟩, S₄.unhide q tn, st₄', p₄⟩
  · have hie : i = vs.length := by omega
    subst hie
    rw [List.drop_length] at hI
    refine I0.done (C.hidN q) S' j' (iv _ _ _ hI) fun h' tk kk => ?_
    obtain ⟨S₂, g₂⟩ := St.leave (s₁ := { s' with heap := h', toks := tk }) q t' S' kk t'
    exact wpAny_pure ⟨.next, ρ', σ', rfl, S₂, st'.over fN ⟨g₂, rfl, rfl⟩, fin _ _ hI⟩

theorem while_ok {test : Expr} {body : List Stmt} {c : Tr} {bodyT : TS}
    (hc : ∀ ρ σ Φ Ψ, c.t ρ σ Φ Ψ → WB G n env (isTrue test env (eval test env)) ρ σ Φ (fun cl ρ' σ' => ρ' = ρ ∧ Ψ cl σ'))
    (hbody : ∀ ρ σ Φ Ψ, bodyT ρ σ Φ Ψ → WS G n env (execs body env) ρ σ Φ Ψ)
    (C : Cx G B H A env n) (F : FrameOk B H env) (S : St G B H env ρ σ s) (p : whileV c bodyT ρ σ Φ Ψ) :
    codeAny G.M A (.whileLoop test body [] env) (fun r s' => match r with
      | .ok f => ∃ fl ρ' σ', RelF H s'.heap fl f ∧ St G B H env ρ' σ' s' ∧ Step H s s' ∧ Φ fl ρ' σ'
      | .error e => cameBackBy G.M A env (QX G B H env Ψ s) e s') s := by
  obtain ⟨I, ⟨k0, i0⟩, turn⟩ := p
  refine codeAny_whileLoop (fun m s' => ∃ ρ σ, I m ρ σ ∧ St G B H env ρ σ s' ∧ Step H s s') ?_ k0 ⟨ρ, σ, i0, S, .refl _ _⟩
  rintro m s' ⟨ρ', σ', hI, S', st'⟩
  have err : ∀ {s₂ : Shared}, Step H s s₂ → ∀ e s', QX G B H env Ψ s₂ e s' → notedBy G.M A env (cameBackBy G.M A env (QX G B H env Ψ s)) e s' := fun st e s' x => own_back C F (x.step st)
  refine wpAny_mono (hc _ _ _ _ (turn _ _ _ hI) B H A s' C.T C.E C.A S') (fun b s₂ hb => ?_) fun e s₂ x => ?_
  · obtain ⟨σ₂, S₂, st₂, p₂⟩ := hb
    have st₂' := st'.trans st₂
    cases b with
    | false => exact wpAny_pure ⟨.next, _, _, rfl, S₂, st₂', p₂⟩
    | true =>
      simp only [if_true] at p₂ ⊢
      refine wpAny_mono (hbody _ _ _ _ p₂ B H A s₂ C.T F C.A S₂) (fun f s₃ hf => ?_) fun e s₃ x => err st₂' e s₃ x
      obtain ⟨fl, ρ₄, σ₄, rf, S₄, st₄, p₄⟩ := hf
      cases fl with
      | next => obtain rfl : f = .next := rf; obtain ⟨k', hk, p₄⟩ := p₄; exact ⟨k', hk, ρ₄, σ₄, p₄, S₄, st₂'.trans st₄⟩
      | cont => obtain rfl : f = .cont := rf; obtain ⟨k', hk, p₄⟩ := p₄; exact ⟨k', hk, ρ₄, σ₄, p₄, S₄, st₂'.trans st₄⟩
      | brk => obtain rfl : f = .brk := rf; exact ⟨.next, ρ₄, σ₄, rfl, S₄, st₂'.trans st₄, p₄⟩
      | ret a => obtain ⟨v, rfl, ra⟩ := rf; exact ⟨.ret a, ρ₄, σ₄, ⟨v, rfl, ra⟩, S₄, st₂'.trans st₄, p₄⟩
  · refine err st' e s₂ ?_
    obtain ⟨ea, cls, ρ₂, σ₂, rfl, f, S₂, st₂, rfl, p₂⟩ := x
    exact ⟨ea, cls, _, σ₂, rfl, f, S₂, st₂, p₂⟩
end
end Mine
set_option maxRecDepth 100000
namespace Mine
open PySem PyProof.Rows

variable {G : PG}
section
variable {B : Heap} {H : Hid} {A : Around} {env : Env} {n : Nat} {ρ : Loc} {σ : Sto} {s s₁ : Shared} {N : List Addr} {Ψ : PX} {Φ : PS} {Q : Unit → Shared → Prop} {E : Value → Shared → Prop}

theorem Pairwise.of_mem {α : Type} {R : α → α → Prop} (sy : ∀ a b, R a b → R b a) : ∀ {l : List α} {x y : α}, l.Pairwise R → x ∈ l → y ∈ l → x ≠ y → R x y
  | z :: r, x, y, h, hx, hy, ne => by
    obtain ⟨h1, h2⟩ := List.pairwise_cons.mp h
    rcases List.mem_cons.mp hx with e | hx'
    · rcases List.mem_cons.mp hy with e' | hy'
      · exact absurd (e.trans e'.symm) ne
      · exact e ▸ h1 y hy'
    · rcases List.mem_cons.mp hy with e' | hy'
      · exact sy _ _ (e' ▸ h1 x hx')
      · exact Pairwise.of_mem sy h2 hx' hy' ne

/-- a local name is bound -/
theorem store_local {x : Str} {a : AV} {v : Value} (E0 : EnvOk B H env) (hk : env.kindOf x = some .local) (S : St G B H env ρ σ s) (r : Rel H s.heap a v)
    (h : ∀ s', St G B H env (putA x a ρ) σ s' → Step H s s' → Q () s') : wpAny G.M A (storeName env x v) Q E s := by
  obtain ⟨m, hn, hm⟩ := S.frame.ns
  refine wpAny_storeName_local hk hn (fun h' hn' hs' => ?_) (by rw [E0.kind]; rfl)
  have kk : ∀ b o, b ≠ env.locals → s.heap.get? b = some o → h'.get? b = some o := fun b o nb e => hs'.extBut b o nb e
  have g : Grow H s.heap h' := by
    obtain ⟨o, es, ep, ho, hd, _⟩ := hn
    exact .of_keepBut kk (fun items ⟨o', ho', _, _, hd'⟩ => by rw [ho] at ho'; cases ho'; rw [hd] at hd'; cases hd') fun o' vs ho' hd' => by rw [ho] at ho'; cases ho'; rw [hd] at hd'; cases hd'
  refine h { s with heap := h', toks := s.toks + 1 } ⟨fun b o e => kk b o (fun z => by rw [z, E0.loc.1] at e; cases e) (S.keep b o e), fun b o e => ?_, ⟨⟨_, hn', fun y hy hz => ?_⟩, fun y hy => ?_, fun y hy => ?_⟩, fun b c e => ?_, S.root, S.low⟩ ⟨g, rfl, rfl⟩
  · obtain ⟨sl, e1, e2⟩ := S.hid b o e
    exact ⟨sl, kk b _ (fun z => by rw [z, E0.loc.2] at e; cases e) e1, e2⟩
  · rw [putA_lookup]
    by_cases q : y = x
    · rw [if_pos q, if_pos q]; exact r.grow g
    · rw [if_neg q, if_neg q]; exact (hm y hy hz).grow g
  · obtain ⟨c, u, e1, ⟨o, ho, hd⟩, e3⟩ := S.frame.cells y hy
    refine ⟨c, u, e1, ⟨o, kk c o (E0.apart _ (mem_of_lookup e1)) ho, hd⟩, ?_⟩
    rw [putA_lookup, if_neg]
    · exact e3.grow g
    · intro q; subst q; rcases hy with q | q <;> rw [hk] at q <;> cases q
  · obtain ⟨u, o, ho, hd⟩ := S.frame.there y hy
    exact ⟨u, o, kk _ o (E0.apart _ hy) ho, hd⟩
  · obtain ⟨q1, q2, q3, q4, q5⟩ := S.store b c e
    exact ⟨q1.keep (fun o e => kk b o q4 e) g, q2, q3, q4, q5⟩

/-- a captured name is bound -/
theorem store_cell {x : Str} {a : AV} {v : Value} (F : FrameOk B H env) (hk : env.kindOf x = some .cell) (S : St G B H env ρ σ s) (r : Rel H s.heap a v)
    (h : ∀ s', St G B H env (putA x a ρ) σ s' → Step H s s' → Q () s') : wpAny G.M A (storeName env x v) Q E s := by
  obtain ⟨c, u, e1, e2, e3⟩ := S.frame.cells x (.inl hk)
  have hmem := mem_of_lookup e1
  refine wpAny_storeName_cell F.kind hk e1 e2 fun h' hc' hs' => ?_
  have kk : ∀ b o, b ≠ c → s.heap.get? b = some o → h'.get? b = some o := fun b o nb e => hs'.extBut b o nb e
  have g : Grow H s.heap h' := by
    obtain ⟨o, ho, hd⟩ := e2
    exact .of_keepBut kk (fun items ⟨o', ho', _, _, hd'⟩ => by rw [ho] at ho'; cases ho'; rw [hd] at hd'; cases hd') fun o' vs ho' hd' => by rw [ho] at ho'; cases ho'; rw [hd] at hd'; cases hd'
  have hL : env.locals ≠ c := fun z => F.apart _ hmem z.symm
  refine h { s with heap := h' } ⟨fun b o e => kk b o (fun z => by rw [z, (F.own _ hmem).1] at e; cases e) (S.keep b o e), fun b o e => ?_, ⟨?_, fun y hy => ?_, fun y hy => ?_⟩, fun b c' e => ?_, S.root, S.low⟩ ⟨g, rfl, rfl⟩
  · obtain ⟨sl, e1, e2⟩ := S.hid b o e
    exact ⟨sl, kk b _ (fun z => by rw [z, (F.own _ hmem).2] at e; cases e) e1, e2⟩
  · obtain ⟨m, ⟨o, es, ep, ho, hr⟩, hm⟩ := S.frame.ns
    refine ⟨m, ⟨o, es, ep, kk _ o hL ho, hr⟩, fun y hy hz => ?_⟩
    rw [putA_lookup, if_neg]
    · exact (hm y hy hz).grow g
    · intro q; subst q; rw [hk] at hy; cases hy
  · obtain ⟨c2, u2, g1, ⟨o, ho, hd⟩, g3⟩ := S.frame.cells y hy
    by_cases q : y = x
    · subst q
      rw [e1] at g1; cases g1
      exact ⟨c, some v, e1, hc', by rw [putA_lookup, if_pos rfl]; exact r.grow g⟩
    · have ne : c2 ≠ c := Pairwise.of_mem (R := fun (a b : Str × Addr) => a.2 ≠ b.2) (fun _ _ z => z.symm) F.nodup (mem_of_lookup g1) hmem (fun z => q (congrArg Prod.fst z))
      exact ⟨c2, u2, g1, ⟨o, kk _ o ne ho, hd⟩, by rw [putA_lookup, if_neg q]; exact g3.grow g⟩
  · obtain ⟨u2, o, ho, hd⟩ := S.frame.there y hy
    by_cases q : y.2 = c
    · rw [q]; exact ⟨some v, hc'⟩
    · exact ⟨u2, o, kk _ o q ho, hd⟩
  · obtain ⟨q1, q2, q3, q4, q5⟩ := S.store b c' e
    exact ⟨q1.keep (fun o e => kk b o (fun z => q5 _ hmem z.symm) e) g, q2, q3, q4, q5⟩

noncomputable def isLoc (sc : Scope) (x : Str) : Prop := sc.names.lookup x = some .local ∨ sc.names.lookup x = some .cell
theorem store_ok {x : Str} {a : AV} {v : Value} (F : FrameOk B H env) (hk : isLoc env.scope x) (S : St G B H env ρ σ s) (r : Rel H s.heap a v)
    (h : ∀ s', St G B H env (putA x a ρ) σ s' → Step H s s' → Q () s') : wpAny G.M A (storeName env x v) Q E s := by
  rcases hk with hk | hk
  · exact store_local F.toEnvOk hk S r h
  · exact store_cell F hk S r h
theorem assign_name_ok {x : Str} {px : Pos} {a : AV} {v : Value} (F : FrameOk B H env) (hk : isLoc env.scope x) (S : St G B H env ρ σ s) (r : Rel H s.heap a v)
    (h : ∀ s', St G B H env (putA x a ρ) σ s' → Step H s s' → Q () s') : wpAny G.M A (assign (.Name x px) env v) Q E s :=
  wpAny_assign_Name (store_ok F hk S r h)

/-- names of a tuple's target -/
noncomputable def namesOf : List Expr → Option (List Str)
  | [] => some []
  | .Name x _ :: r => (namesOf r).map (x :: ·)
  | _ => none
theorem assign_names_ok : ∀ {elts : List Expr} {xs : List Str} {as : List AV} {vs : List Value} {ρ : Loc} {s : Shared} {Q : Unit → Shared → Prop}, namesOf elts = some xs → (∀ x ∈ xs, isLoc env.scope x) → as.length = xs.length → FrameOk B H env → St G B H env ρ σ s → RelL H s.heap as vs →
    (∀ s', St G B H env (putAs xs as ρ) σ s' → Step H s s' → Q () s') → wpAny G.M A (assignInOrder ((assignEach elts env).map (·.2)) vs) Q E s
  | [], xs, as, vs, ρ, s, Q, e, hl, hz, F, S, r, h => by
    cases e
    obtain rfl : as = [] := List.length_eq_zero_iff.mp hz
    simp only [RelL] at r; subst r
    exact wpAny_pure (h s S (.refl _ _))
  | t :: r, xs, as, vs, ρ, s, Q, e, hl, hz, F, S, rl, h => by
    cases t <;> simp only [namesOf] at e <;> (try cases e)
    rename_i x px
    obtain ⟨ys, e', rfl⟩ := Option.map_eq_some_iff.mp e
    cases as with
    | nil => simp at hz
    | cons a as =>
      simp only [RelL] at rl
      obtain ⟨v, vs', rfl, r1, r2⟩ := rl
      show wpAny G.M A (assignInOrder (assign (.Name x px) env :: (assignEach r env).map (·.2)) (v :: vs')) Q E s
      have step : wpAny G.M A (assign (.Name x px) env v) (fun _ s' => wpAny G.M A (assignInOrder ((assignEach r env).map (·.2)) vs') Q E s') E s :=
        assign_name_ok F (hl x (by simp)) S r1 fun s' S' st' => assign_names_ok e' (fun y hy => hl y (by simp [hy])) (by simpa using hz) F S' (r2.grow st'.grow) fun s'' S'' st'' => h s'' S'' (st'.trans st'')
      unfold assignInOrder
      first
        | exact wpAny_bind (wpAny_holding step)
        | exact wpAny_bind step
theorem assignEach_names {env : Env} : ∀ {elts : List Expr} {xs : List Str}, namesOf elts = some xs → (assignEach elts env).length = xs.length ∧ (assignEach elts env).findIdx? (·.1) = none
  | [], xs, e => by cases e; exact ⟨rfl, rfl⟩
  | t :: r, xs, e => by
    cases t <;> simp only [namesOf] at e <;> (try cases e)
    obtain ⟨ys, e', rfl⟩ := Option.map_eq_some_iff.mp e
    obtain ⟨h1, h2⟩ := assignEach_names (env := env) e'
    refine ⟨by show _ + 1 = _; rw [h1]; rfl, ?_⟩
    show List.findIdx? _ ((false, _) :: _) = none
    rw [List.findIdx?_cons]
    simp [h2]
theorem assign_tup_ok {elts : List Expr} {k} {pos : Pos} {xs : List Str} {a : AV} {v : Value} {ρ' : Loc} (C : Cx G B H A env n) (hn : 10 ≤ n) (F : FrameOk B H env) (e : namesOf elts = some xs) (hl : ∀ x ∈ xs, isLoc env.scope x) (S : St G B H env ρ σ s) (r : Rel H s.heap a v) (hb : bindT xs a ρ = some ρ')
    (h : ∀ s', St G B H env ρ' σ s' → Step H s s' → Q () s') : wpAny G.M A (assign (.Tuple elts k pos) env v) Q E s := by
  unfold bindT at hb
  split at hb
  · rename_i vs
    split at hb
    · rename_i hz; cases hb
      simp only [Rel] at r
      obtain ⟨t, items, rfl, ht, hH, rl⟩ := r
      obtain ⟨a1, a2⟩ := assignEach_names (env := env) e
      refine assign_Tuple_tuple (hand_none C hn) ht (by rw [a1, ← Array.length_toList, rl.length, hz]) a2 fun h' he => ?_
      have kk : ∀ b o, s.heap.get? b = some o → h'.get? b = some o := fun b o e => he b o (Nat.ne_of_lt (Heap.lt_size e)) e
      exact assign_names_ok e hl hz F (S.same (s' := { s with heap := h' }) kk) (rl.grow (.of_keep kk)) fun s' S' st' => h s' S' (Step.trans (.keeps kk) st')
    · cases hb
  · cases hb
end
end Mine
set_option maxRecDepth 100000
namespace Mine
open PySem PyProof.Rows

variable {G : PG}

/-- the names that a comprehension captures -/
noncomputable def clOf (env : Env) : List (Str × NameKind) → List (Str × Addr) → List (Str × Addr)
  | [], acc => acc
  | (n, k) :: r, acc => if k == .free then (match env.cells.lookup n with | some c => clOf env r ((n, c) :: acc) | none => clOf env r acc) else clOf env r acc

theorem closure_go (env : Env) : ∀ (names : List (Str × NameKind)) (acc : List (Str × Addr)), (∀ y ∈ names, y.2 = .free → ∃ c, env.cells.lookup y.1 = some c) →
    (forIn names acc fun (p : Str × NameKind) (cs : List (Str × Addr)) => (if p.2 == NameKind.free then do let a ← cellOf env p.1; pure (ForInStep.yield ((p.1, a) :: cs)) else pure (ForInStep.yield cs) : Sem _)) = pure (clOf env names acc)
  | [], acc, _ => by simp [clOf]
  | (n, k) :: r, acc, h => by
    rw [List.forIn_cons]
    unfold clOf
    by_cases q : (k == NameKind.free) = true
    · obtain ⟨c, hc⟩ := h (n, k) (by simp) (by simpa using q)
      simp only [q, if_true, cellOf, hc, pure_bind]
      exact closure_go env r _ fun y hy => h y (by simp [hy])
    · simp only [q, if_false, pure_bind]
      exact closure_go env r _ fun y hy => h y (by simp [hy])
theorem closureFor_cl {cs : Scope} {env : Env} (h : ∀ y ∈ cs.names, y.2 = .free → ∃ c, env.cells.lookup y.1 = some c) : closureFor cs env = pure (clOf env cs.names []) := by
  have := closure_go env cs.names [] h
  unfold closureFor
  first
    | (rw [this]; rfl)
    | (simp only [pure_bind] at this ⊢; rw [← this]; rfl)
    | (rw [← this]; simp)
theorem clOf_sound (env : Env) : ∀ (names : List (Str × NameKind)) (acc : List (Str × Addr)), (∀ y ∈ acc, env.cells.lookup y.1 = some y.2) → ∀ y ∈ clOf env names acc, env.cells.lookup y.1 = some y.2
  | [], acc, h, y, hy => h y hy
  | (n, k) :: r, acc, h, y, hy => by
    unfold clOf at hy
    split at hy
    · split at hy
      · rename_i c hc
        exact clOf_sound env r _ (fun z hz => by rcases List.mem_cons.mp hz with rfl | hz; exact hc; exact h z hz) y hy
      · exact clOf_sound env r _ h y hy
    · exact clOf_sound env r _ h y hy
theorem clOf_some (env : Env) {n : Str} {c : Addr} (hc : env.cells.lookup n = some c) : ∀ (names : List (Str × NameKind)) (acc : List (Str × Addr)), (∀ y ∈ acc, env.cells.lookup y.1 = some y.2) → (n, NameKind.free) ∈ names ∨ acc.lookup n = some c → (clOf env names acc).lookup n = some c
  | [], acc, h, q => q.elim (fun z => nomatch z) id
  | (m, k) :: r, acc, h, q => by
    unfold clOf
    split
    · rename_i hk
      split
      · rename_i d hd
        refine clOf_some env hc r _ (fun z hz => by rcases List.mem_cons.mp hz with rfl | hz; exact hd; exact h z hz) ?_
        by_cases e : n = m
        · subst e; rw [hc] at hd; cases hd
          exact .inr (by simp)
        · refine q.imp (fun z => ?_) fun z => ?_
          · rcases List.mem_cons.mp z with z | z
            · exact absurd (congrArg Prod.fst z) e
            · exact z
          · rw [List.lookup_cons, show (n == m) = false by simpa using e]; exact z
      · rename_i hd
        refine clOf_some env hc r _ h (q.imp (fun z => ?_) id)
        rcases List.mem_cons.mp z with z | z
        · rw [show m = n from (congrArg Prod.fst z).symm, hc] at hd; cases hd
        · exact z
    · rename_i hk
      refine clOf_some env hc r _ h (q.imp (fun z => ?_) id)
      rcases List.mem_cons.mp z with z | z
      · exact absurd (by rw [show k = .free from (congrArg Prod.snd z).symm]; rfl) hk
      · exact z

theorem clOf_free (env : Env) : ∀ (names : List (Str × NameKind)) (acc : List (Str × Addr)), ∀ y ∈ clOf env names acc, y ∈ acc ∨ (y.1, NameKind.free) ∈ names
  | [], acc, y, hy => .inl hy
  | (n, k) :: r, acc, y, hy => by
    unfold clOf at hy
    split at hy
    · rename_i hk
      split at hy
      · rcases clOf_free env r _ y hy with h | h
        · rcases List.mem_cons.mp h with rfl | h
          · exact .inr (by rw [show k = .free by simpa using hk]; simp)
          · exact .inl h
        · exact .inr (.tail _ h)
      · exact (clOf_free env r _ y hy).imp id (.tail _)
    · exact (clOf_free env r _ y hy).imp id (.tail _)

/-- the scope of a comprehension over x in a function's scope -/
structure CompScope (sc cs : Scope) (x : Str) : Prop where
  kind : cs.kind = .function
  nz : x ≠ ".0"
  cell : ∀ y ∈ cs.names, y.2 ≠ .cell
  loc : ∀ y ∈ cs.names, y.2 = .local → (y.1 = x ∨ y.1 = ".0") ∧ cs.names.lookup y.1 = some .local
  x : cs.names.lookup x = some .local
  free : ∀ y ∈ cs.names, y.2 = .free → sc.names.lookup y.1 = some .cell ∧ cs.names.lookup y.1 = some .free
noncomputable def relabelS (cs sc : Scope) : Scope := { cs with names := cs.names.map fun (n, k) => if (k == .free && sc.kind == .function && sc.names.lookup n == some .cell) then (n, .cell) else (n, k) }
theorem lookup_map_kind (f : Str → NameKind → NameKind) : ∀ (l : List (Str × NameKind)) (y : Str), (l.map fun (n, k) => (n, f n k)).lookup y = (l.lookup y).map (f y)
  | [], _ => rfl
  | (m, k) :: r, y => by
    rw [List.map_cons, List.lookup_cons, List.lookup_cons]
    cases q : y == m with
    | true => simp [beq_iff_eq.mp q]
    | false => exact lookup_map_kind f r y
theorem lookup_relabelS (cs sc : Scope) (y : Str) : (relabelS cs sc).names.lookup y = (cs.names.lookup y).map fun k => if (k == .free && sc.kind == .function && sc.names.lookup y == some .cell) then .cell else k := by
  unfold relabelS
  have := lookup_map_kind (fun n k => if (k == .free && sc.kind == .function && sc.names.lookup n == some .cell) then .cell else k) cs.names y
  rw [← this]
  show List.lookup y (List.map _ _) = List.lookup y (List.map _ _)
  congr 2
  funext p
  obtain ⟨n, k⟩ := p
  dsimp only
  split <;> rfl

section
variable {B : Heap} {H : Hid} {A : Around} {env : Env} {n : Nat} {ρ : Loc} {σ : Sto} {s s₁ : Shared} {N : List Addr} {Ψ : PX} {Φ : PS} {cs : Scope} {x : Str} {C : Addr}

open Classical in
noncomputable def hidC (H : Hid) (env : Env) (cl : List (Str × Addr)) (C : Addr) (h : Heap) : Hid := fun a =>
  if a = C then none else if a = env.locals ∨ (∃ y ∈ env.cells, y.2 = a ∧ ∀ z ∈ cl, z.2 ≠ a) then h.get? a else H a
theorem hidC_C {H : Hid} {cl : List (Str × Addr)} {h : Heap} : hidC H env cl C h C = none := if_pos rfl
theorem hidC_in {H : Hid} {cl : List (Str × Addr)} {h : Heap} {a : Addr} (ne : a ≠ C) (q : a = env.locals ∨ (∃ y ∈ env.cells, y.2 = a ∧ ∀ z ∈ cl, z.2 ≠ a)) : hidC H env cl C h a = h.get? a := by unfold hidC; rw [if_neg ne, if_pos q]
theorem hidC_out {H : Hid} {cl : List (Str × Addr)} {h : Heap} {a : Addr} (ne : a ≠ C) (q : ¬ (a = env.locals ∨ (∃ y ∈ env.cells, y.2 = a ∧ ∀ z ∈ cl, z.2 ≠ a))) : hidC H env cl C h a = H a := by unfold hidC; rw [if_neg ne, if_neg q]

theorem St.notTup_locals (S : St G B H env ρ σ s) {items : Array Value} : ¬ IsTup s.heap env.locals items := fun ⟨o, ho, _, _, hd⟩ => by
  obtain ⟨m, ⟨o', es, ep, ho', hd', _⟩, _⟩ := S.frame.ns
  rw [ho] at ho'; cases ho'; rw [hd] at hd'; cases hd'
theorem St.notTup_cell (S : St G B H env ρ σ s) {y : Str × Addr} (hy : y ∈ env.cells) {items : Array Value} : ¬ IsTup s.heap y.2 items := fun ⟨o, ho, _, _, hd⟩ => by
  obtain ⟨v, o', ho', hd'⟩ := S.frame.there y hy
  rw [ho] at ho'; cases ho'; rw [hd] at hd'; cases hd'

/-- into the comprehension's own frame -/
theorem St.inComp {v : AV} {u : Value} {m : Str → Option Value} (X : CompScope env.scope cs x) (q : NOk B H env N) (E0 : EnvOk B H env) (S : St G B (hidN H N s.heap) env ρ σ s) (hC : C ∈ N) (hCn : s.heap.Ns C m) (hx : m x = some u) (r : Rel (hidN H N s.heap) s.heap v u) :
    St G B (hidC (hidN H N s.heap) env (clOf env cs.names []) C s.heap) (compEnvC cs (clOf env cs.names []) C env) (putA x v ρ) σ s := by
  have sub : ∀ y ∈ clOf env cs.names [], env.cells.lookup y.1 = some y.2 := clOf_sound env _ _ fun _ h => nomatch h
  have hCsome : hidN H N s.heap C ≠ none := by obtain ⟨o, _, _, ho, _⟩ := hCn; rw [hidN_of hC, ho]; simp
  have hCL : env.locals ≠ C := fun z => q.loc (z ▸ hC)
  have hCc : ∀ y ∈ env.cells, y.2 ≠ C := fun y hy z => q.cells y hy (z ▸ hC)
  have d : ∀ a items, IsTup s.heap a items → hidN H N s.heap a = none → hidC (hidN H N s.heap) env (clOf env cs.names []) C s.heap a = none := fun a items t z => by
    have ne : a ≠ C := fun e => hCsome (e ▸ z)
    rw [hidC_out ne]
    · exact z
    · rintro (e | ⟨y, hy, e, _⟩)
      · subst e; exact S.notTup_locals t
      · subst e; exact S.notTup_cell hy t
  refine ⟨S.keep, fun a o e => ?_, ⟨⟨m, hCn, fun y hy hz => ?_⟩, fun y hy => ?_, fun y hy => S.frame.there (y.1, y.2) (mem_of_lookup (sub y hy))⟩, fun a c e => ?_, S.root, S.low⟩
  · by_cases e1 : a = C
    · subst e1; rw [hidC_C] at e; cases e
    · by_cases e2 : a = env.locals ∨ (∃ y ∈ env.cells, y.2 = a ∧ ∀ z ∈ clOf env cs.names [], z.2 ≠ a)
      · rw [hidC_in e1 e2] at e
        exact ⟨o.slots, e, fun _ => rfl⟩
      · rw [hidC_out e1 e2] at e
        exact S.hid a o e
  · have hy' : (relabelS cs env.scope).names.lookup y = some .local := hy
    rw [lookup_relabelS] at hy'
    cases e : cs.names.lookup y with
    | none => rw [e] at hy'; cases hy'
    | some k =>
      rw [e] at hy'
      simp only [Option.map_some, Option.some.injEq] at hy'
      have hk : k = .local := by
        split at hy'
        · cases hy'
        · exact hy'
      subst hk
      rcases (X.loc _ (mem_of_lookup e) rfl).1 with e1 | e1
      · obtain rfl : y = x := e1
        rw [putA_lookup, if_pos rfl, hx]; exact r.dom d
      · exact absurd e1 hz
  · have hy' : (relabelS cs env.scope).names.lookup y = some .cell ∨ (relabelS cs env.scope).names.lookup y = some .free := hy
    rw [lookup_relabelS] at hy'
    cases e : cs.names.lookup y with
    | none => rw [e] at hy'; rcases hy' with hy' | hy' <;> cases hy'
    | some k =>
      rw [e] at hy'
      simp only [Option.map_some, Option.some.injEq] at hy'
      have hk : k = .free := by
        cases k <;> simp at hy' ⊢
        exact X.cell _ (mem_of_lookup e) rfl
      subst hk
      have hkc := (X.free _ (mem_of_lookup e) rfl).1
      obtain ⟨c, v', e1, e2, e3⟩ := S.frame.cells y (.inl hkc)
      have yx : y ≠ x := fun z => by rw [z, X.x] at e; cases e
      refine ⟨c, v', clOf_some env e1 _ _ (fun _ h => nomatch h) (.inl (mem_of_lookup e)), e2, ?_⟩
      rw [putA_lookup, if_neg yx]; exact e3.dom d
  · obtain ⟨q1, q2, q3, q4, q5⟩ := S.store a c e
    have ne : a ≠ C := fun z => hCsome (z ▸ q3)
    refine ⟨q1.dom d, q2, ?_, ne, fun y hy => q5 _ (mem_of_lookup (sub y hy))⟩
    rw [hidC_out ne]
    · exact q3
    · rintro (z | ⟨y, hy, z, _⟩)
      · exact q4 z
      · exact q5 y hy z

theorem cx_inComp (X : CompScope env.scope cs x) (q : NOk B H env N) (t : There N s.heap) (hf : env.frame = some env.locals) (S : St G B (hidN H N s.heap) env ρ σ s) (hC : C ∈ N) (K : Cx G B H A env n) :
    Cx G B (hidC (hidN H N s.heap) env (clOf env cs.names []) C s.heap) A (compEnvC cs (clOf env cs.names []) C env) n := by
  have sub : ∀ y ∈ clOf env cs.names [], env.cells.lookup y.1 = some y.2 := clOf_sound env _ _ fun _ h => nomatch h
  have hCL : env.locals ≠ C := fun z => q.loc (z ▸ hC)
  have hCc : ∀ y ∈ env.cells, y.2 ≠ C := fun y hy z => q.cells y hy (z ▸ hC)
  have up : ∀ {a o}, H a = some o → hidC (hidN H N s.heap) env (clOf env cs.names []) C s.heap a = some o := fun {a o} e => by
    have na : a ∉ N := fun z => by rw [q.hid a z] at e; cases e
    have nc : a ≠ C := fun z => na (by rw [z]; exact hC)
    rw [hidC_out nc, hidN_ne na, e]
    rintro (z | ⟨y, hy, z, _⟩)
    · rw [z, K.E.loc.2] at e; cases e
    · rw [← z, (K.E.own y hy).2] at e; cases e
  have fr : ∀ l, FramesIn B H l → FramesIn B (hidC (hidN H N s.heap) env (clOf env cs.names []) C s.heap) l := fun l hl e he => by
    obtain ⟨h1, L, o, h2, h3, h4, h5⟩ := hl e he
    exact ⟨h1, L, o, h2, h3, up h4, h5⟩
  obtain ⟨T, E, ⟨a1, a2, a3, fe, outer, a4, a5, a6, a7⟩⟩ := K
  refine ⟨T, ⟨X.kind, E.glob, E.bltn, ⟨q.base C hC, hidC_C⟩, fun y hy => hCc _ (mem_of_lookup (sub y hy)), fun y hy => ⟨(E.own _ (mem_of_lookup (sub y hy))).1, ?_⟩⟩, a1, a2, ?_, fe, outer, a4, fr _ a5, fun z => ?_, fun _ => ?_⟩
  · have hm := mem_of_lookup (sub y hy)
    rw [hidC_out (hCc _ hm), hidN_ne (q.cells _ hm)]
    · exact (E.own _ hm).2
    · rintro (z | ⟨w, hw, z, z'⟩)
      · exact E.apart _ hm z
      · exact z' y hy rfl
  · rcases a3 with a3 | ⟨z, e, o, vs, h1, h2, h3⟩
    · exact .inl a3
    · exact .inr ⟨z, e, o, vs, h1, up h2, h3⟩
  · have z' : env.frame = some C := z
    rw [hf] at z'; exact absurd (Option.some.inj z') hCL
  · obtain rfl := a6 hf
    intro e he
    obtain rfl : e = fe := by simpa using he
    obtain ⟨m, ⟨o, es, ep, e1, e2, _⟩, _⟩ := S.frame.ns
    exact ⟨by rw [E.kind]; decide, e.locals, o, hf, E.loc.1, by rw [hidC_in hCL (.inl rfl), e1], es, ep, e2⟩
/-- and back -/
theorem St.outComp {ρ' : Loc} {σ' : Sto} {s' : Shared} (X : CompScope env.scope cs x) (q : NOk B H env N) (t : There N s.heap) (E0 : EnvOk B H env) (S : St G B (hidN H N s.heap) env ρ σ s) (hC : C ∈ N) (nd : env.cells.Pairwise fun x y => x.2 ≠ y.2) (hρ : ∀ y, y ≠ x → ρ'.lookup y = ρ.lookup y)
    (S' : St G B (hidC (hidN H N s.heap) env (clOf env cs.names []) C s.heap) (compEnvC cs (clOf env cs.names []) C env) ρ' σ' s') (g : Grow (hidC (hidN H N s.heap) env (clOf env cs.names []) C s.heap) s.heap s'.heap) :
    St G B (hidN H N s'.heap) env ρ σ' s' ∧ There N s'.heap ∧ (∀ a items, IsTup s.heap a items → hidN H N s.heap a = none → hidC (hidN H N s.heap) env (clOf env cs.names []) C s.heap a = none) ∧
      (∀ a items, IsTup s'.heap a items → hidC (hidN H N s.heap) env (clOf env cs.names []) C s.heap a = none → hidN H N s'.heap a = none) := by
  have sub : ∀ y ∈ clOf env cs.names [], env.cells.lookup y.1 = some y.2 := clOf_sound env _ _ fun _ h => nomatch h
  have hCL : env.locals ≠ C := fun z => q.loc (z ▸ hC)
  have hCc : ∀ y ∈ env.cells, y.2 ≠ C := fun y hy z => q.cells y hy (z ▸ hC)
  have hCsome : hidN H N s.heap C ≠ none := by obtain ⟨o, ho, _⟩ := t C hC; rw [hidN_of hC, ho]; simp
  have notC : ∀ items, ¬ IsTup s'.heap C items := fun items t => S'.notTup_locals t
  have nin : ∀ b ∈ N, b ≠ C → hidC (hidN H N s.heap) env (clOf env cs.names []) C s.heap b = s.heap.get? b := fun b hb ne => by
    rw [hidC_out ne, hidN_of hb]
    rintro (z | ⟨y, hy, z, _⟩)
    · exact q.loc (z ▸ hb)
    · exact q.cells y hy (z ▸ hb)
  have t' : There N s'.heap := fun b hb => by
    by_cases e : b = C
    · subst e
      obtain ⟨m, ⟨o, es, ep, ho, hd, _⟩, _⟩ := S'.frame.ns
      exact ⟨o, ho, fun D vs _ z => by rw [hd] at z; cases z⟩
    · obtain ⟨o, ho, hr⟩ := t b hb
      obtain ⟨sl, h1, _⟩ := S'.hid b o ((nin b hb e).trans ho)
      exact ⟨_, h1, hr⟩
  have d1 : ∀ a items, IsTup s.heap a items → hidN H N s.heap a = none → hidC (hidN H N s.heap) env (clOf env cs.names []) C s.heap a = none := fun a items tt z => by
    have ne : a ≠ C := fun e => hCsome (e ▸ z)
    rw [hidC_out ne]
    · exact z
    · rintro (e | ⟨y, hy, e, _⟩)
      · subst e; exact S.notTup_locals tt
      · subst e; exact S.notTup_cell hy tt
  have d2 : ∀ a items, IsTup s'.heap a items → hidC (hidN H N s.heap) env (clOf env cs.names []) C s.heap a = none → hidN H N s'.heap a = none := fun a items tt z => by
    have ne : a ≠ C := fun e => notC items (e ▸ tt)
    refine (hidN_some q t').mpr ?_
    by_cases e2 : a = env.locals ∨ (∃ y ∈ env.cells, y.2 = a ∧ ∀ z ∈ clOf env cs.names [], z.2 ≠ a)
    · rw [hidC_in ne e2] at z
      rcases e2 with e2 | ⟨y, hy, e2, _⟩
      · obtain ⟨m, ⟨o, es, ep, ho, _⟩, _⟩ := S.frame.ns
        rw [e2, ho] at z; cases z
      · obtain ⟨v, o, ho, _⟩ := S.frame.there y hy
        rw [← e2, ho] at z; cases z
    · rw [hidC_out ne e2] at z
      exact (hidN_some q t).mp z
  have capt : ∀ y ∈ env.cells, (∃ z ∈ clOf env cs.names [], z.2 = y.2) ∨ hidC (hidN H N s.heap) env (clOf env cs.names []) C s.heap y.2 = s.heap.get? y.2 := fun y hy => by
    by_cases e : ∃ z ∈ clOf env cs.names [], z.2 = y.2
    · exact .inl e
    · exact .inr (hidC_in (hCc y hy) (.inr ⟨y, hy, rfl, fun z hz w => e ⟨z, hz, w⟩⟩))
  refine ⟨⟨S'.keep, fun a o e => ?_, ⟨?_, fun y hy => ?_, fun y hy => ?_⟩, fun a c e => ?_, S'.root, S'.low⟩, t', d1, d2⟩
  · by_cases z : a ∈ N
    · rw [hidN_of z] at e
      exact ⟨o.slots, e, fun _ => rfl⟩
    · rw [hidN_ne z] at e
      refine S'.hid a o ?_
      have nc : a ≠ C := fun w => z (by rw [w]; exact hC)
      rw [hidC_out nc, hidN_ne z, e]
      rintro (w | ⟨y, hy, w, _⟩)
      · rw [w, E0.loc.2] at e; cases e
      · rw [← w, (E0.own y hy).2] at e; cases e
  · obtain ⟨m, ⟨o, es, ep, ho, hd, hr⟩, hm⟩ := S.frame.ns
    obtain ⟨sl, h1, _⟩ := S'.hid env.locals o (by rw [hidC_in hCL (.inl rfl), ho])
    exact ⟨m, ⟨_, es, ep, h1, hd, hr⟩, fun y hy hz => (((hm y hy hz).dom d1).grow g).dom d2⟩
  · obtain ⟨c, v, e1, ⟨o, ho, hd⟩, e3⟩ := S.frame.cells y hy
    have hmem := mem_of_lookup e1
    by_cases w : ∃ z ∈ clOf env cs.names [], z.2 = c
    · obtain ⟨z, hz, e⟩ := w
      have zm := mem_of_lookup (sub z hz)
      have zy : z.1 = y := Classical.byContradiction fun ne => Pairwise.of_mem (R := fun (a b : Str × Addr) => a.2 ≠ b.2) (fun _ _ w => w.symm) nd zm hmem (fun w => ne (congrArg Prod.fst w)) e
      obtain ⟨f1, f2⟩ : (z.1, NameKind.free) ∈ cs.names ∧ True := ⟨(clOf_free env _ _ z hz).elim (fun w => nomatch w) id, trivial⟩
      have lk := (X.free _ f1 rfl).2
      have ck := (X.free _ f1 rfl).1
      rw [zy] at lk ck
      have kc : (compEnvC cs (clOf env cs.names []) C env).kindOf y = some .cell := by
        show (relabelS cs env.scope).names.lookup y = some .cell
        have lk' : List.lookup y cs.names = some .free := lk
        have ck' : List.lookup y env.scope.names = some .cell := ck
        rw [lookup_relabelS, lk', ck']
        simp [E0.kind]
      obtain ⟨c', v', g1, g2, g3⟩ := S'.frame.cells y (.inl kc)
      have : env.cells.lookup y = some c' := sub (y, c') (mem_of_lookup g1)
      rw [e1] at this; cases this
      have yx : y ≠ x := fun w => by
        have lk' : List.lookup y cs.names = some .free := lk
        rw [w, X.x] at lk'; cases lk'
      rw [hρ y yx] at g3
      exact ⟨c, v', e1, g2, g3.dom d2⟩
    · obtain ⟨sl, h1, _⟩ := S'.hid c o (by rw [hidC_in (hCc _ hmem) (.inr ⟨_, hmem, rfl, fun z hz e => w ⟨z, hz, e⟩⟩), ho])
      exact ⟨c, v, e1, ⟨_, h1, hd⟩, ((e3.dom d1).grow g).dom d2⟩
  · rcases capt y hy with ⟨z, hz, e⟩ | e
    · rw [← e]; exact S'.frame.there z hz
    · obtain ⟨v, o, ho, hd⟩ := S.frame.there y hy
      obtain ⟨sl, h1, _⟩ := S'.hid y.2 o (e.trans ho)
      exact ⟨v, _, h1, hd⟩
  · obtain ⟨q1, q2, q3, q4, q5⟩ := S'.store a c e
    have ne : a ≠ C := q4
    obtain ⟨o, ho, nt, _⟩ := q1.there
    have na : ¬ (a = env.locals ∨ (∃ y ∈ env.cells, y.2 = a ∧ ∀ z ∈ clOf env cs.names [], z.2 ≠ a)) := fun z => by
      rw [hidC_in ne z] at q3
      rcases z with z | ⟨y, hy, z, _⟩
      · obtain ⟨m, ⟨o, es, ep, ho, _⟩, _⟩ := S.frame.ns
        rw [z, ho] at q3; cases q3
      · obtain ⟨v, o, ho, _⟩ := S.frame.there y hy
        rw [← z, ho] at q3; cases q3
    rw [hidC_out ne na] at q3
    refine ⟨q1.dom d2, q2, (hidN_some q t').mpr ((hidN_some q t).mp q3), fun z => na (.inl z), fun y hy z => ?_⟩
    rcases capt y hy with ⟨w, hw, e⟩ | e
    · exact q5 w hw (e.trans z)
    · by_cases w : ∃ z ∈ clOf env cs.names [], z.2 = y.2
      · obtain ⟨w, hw, e⟩ := w; exact q5 w hw (e.trans z)
      · exact na (.inr ⟨y, hy, z, fun u hu e => w ⟨u, hu, e.trans z.symm⟩⟩)
end
end Mine
set_option maxRecDepth 100000
namespace Mine
open PySem PyProof.Rows

variable {G : PG}
section
variable {B : Heap} {H : Hid} {A : Around} {env : Env} {n : Nat} {ρ : Loc} {σ : Sto} {s s₀ s₁ : Shared} {N : List Addr} {Ψ : PX} {Φ : PS} {cs : Scope} {x : Str} {C : Addr}

/-- what stands behind an evaluation in the comprehension's frame -/
structure CompSt (G : PG) (B : Heap) (H : Hid) (N : List Addr) (env : Env) (ρ : Loc) (C : Addr) (x : Str) (v : AV) (s₀ : Shared) (σ : Sto) (s : Shared) : Prop where
  S : St G B (hidN H N s.heap) env ρ σ s
  T : There N s.heap
  X : ∃ m u, s.heap.Ns C m ∧ m x = some u ∧ Rel (hidN H N s.heap) s.heap v u
  st : Step H s₀ s
structure CompMv (H : Hid) (N : List Addr) (C : Addr) (s s' : Shared) : Prop where
  ex : ∀ b ∈ N, b ≠ C → ∀ o, s.heap.get? b = some o → (∀ es n, o.data ≠ .dict es n) → s'.heap.get? b = some o
  rel : ∀ as ws, RelL (hidN H N s.heap) s.heap as ws → RelL (hidN H N s'.heap) s'.heap as ws
theorem comp_out {v : AV} {σ' : Sto} {s' : Shared} (Sc : CompScope env.scope cs x) (q : NOk B H env N) (fN : ∀ b ∈ N, s₀.heap.objs.size ≤ b) (K : Cx G B H A env n) (nd : env.cells.Pairwise fun x y => x.2 ≠ y.2) (hC : C ∈ N) (Z : CompSt G B H N env ρ C x v s₀ σ s)
    (S' : St G B (hidC (hidN H N s.heap) env (clOf env cs.names []) C s.heap) (compEnvC cs (clOf env cs.names []) C env) (putA x v ρ) σ' s') (st : Step (hidC (hidN H N s.heap) env (clOf env cs.names []) C s.heap) s s') :
    CompSt G B H N env ρ C x v s₀ σ' s' ∧ CompMv H N C s s' ∧ ∀ a u, Rel (hidC (hidN H N s.heap) env (clOf env cs.names []) C s.heap) s'.heap a u → Rel (hidN H N s'.heap) s'.heap a u := by
  obtain ⟨S1, t', d1, d2⟩ := Z.S.outComp Sc q Z.T K.E hC nd (fun y hy => by rw [putA_lookup, if_neg hy]) S' st.grow
  have kx : (compEnvC cs (clOf env cs.names []) C env).kindOf x = some .local := by
    show (relabelS cs env.scope).names.lookup x = some .local
    rw [lookup_relabelS, Sc.x]; rfl
  have x0 := Sc.nz
  obtain ⟨m, hn, hm⟩ := S'.frame.ns
  have hv := hm x kx x0
  rw [putA_lookup, if_pos rfl] at hv
  refine ⟨⟨S1, t', ?_, ?_⟩, ⟨fun b hb ne o ho nd => ?_, fun as ws r => ((r.dom d1).grow st.grow).dom d2⟩, fun a u r => r.dom d2⟩
  · cases e : m x with
    | none => rw [e] at hv; exact hv.elim
    | some u => rw [e] at hv; exact ⟨m, u, hn, e, Rel.dom d2 hv⟩
  · refine ⟨⟨fun a items z w => ?_, fun a o vs D e c d => ?_⟩, st.gens.trans Z.st.gens, st.os.trans Z.st.os⟩
    · have na : a ∉ N := fun y => by obtain ⟨o, ho, _⟩ := w; exact Nat.lt_irrefl _ (Nat.lt_of_lt_of_le (Heap.lt_size ho) (fN a y))
      have w' := Z.st.grow.tup a items z w
      exact st.grow.tup a items (d1 a items w' (by rw [hidN_ne na]; exact z)) w'
    · obtain ⟨o', vs', e1, c1, dd1⟩ := Z.st.grow.recs a o vs D e c d
      obtain ⟨o2, vs2, e2, c2, dd2⟩ := st.grow.recs a o' vs' D e1 (c1.1.trans c) dd1
      exact ⟨o2, vs2, e2, c2.trans c1, dd2⟩
  · obtain ⟨sl, h1, h2⟩ := S'.hid b o (by
      rw [hidC_out ne, hidN_of hb, ho]
      rintro (z | ⟨y, hy, z, _⟩)
      · exact q.loc (z ▸ hb)
      · exact q.cells y hy (z ▸ hb))
    rw [h1, h2 nd]

theorem comp_eval {v : AV} {t : Env → Sem Value} {ΦE : PE} {Q : Value → Shared → Prop} {E : Value → Shared → Prop} (Sc : CompScope env.scope cs x) (q : NOk B H env N) (fN : ∀ b ∈ N, s₀.heap.objs.size ≤ b) (K : Cx G B H A env n) (hf : env.frame = some env.locals) (nd : env.cells.Pairwise fun x y => x.2 ≠ y.2) (hC : C ∈ N)
    (Z : CompSt G B H N env ρ C x v s₀ σ s) (h : WE G n (compEnvC cs (clOf env cs.names []) C env) (t (compEnvC cs (clOf env cs.names []) C env)) (putA x v ρ) σ ΦE (fun _ _ _ => False))
    (hQ : ∀ a u σ' s', CompSt G B H N env ρ C x v s₀ σ' s' → CompMv H N C s s' → Rel (hidN H N s'.heap) s'.heap a u → ΦE a σ' → Q u s') : wpAny G.M A (t (compEnvC cs (clOf env cs.names []) C env)) Q E s := by
  obtain ⟨m, u, hn, hx, r⟩ := Z.X
  have K' := cx_inComp Sc q Z.T hf Z.S hC K
  have S' := Z.S.inComp Sc q K.E hC hn hx r
  refine wpAny_mono (h B _ A s K'.T K'.E K'.A S') (fun w s' hw => ?_) fun e s' hx => ?_
  · obtain ⟨a, σ', ra, S'', st, p⟩ := hw
    obtain ⟨z1, z2, z3⟩ := comp_out Sc q fN K nd hC Z S'' st
    exact hQ a w σ' s' z1 z2 (z3 a w ra) p
  · obtain ⟨_, _, _, _, _, _, _, _, z⟩ := hx; exact z.elim
theorem comp_test {v : AV} {t : Env → Sem Bool} {ΦB : Bool → Sto → Prop} {Q : Bool → Shared → Prop} {E : Value → Shared → Prop} (Sc : CompScope env.scope cs x) (q : NOk B H env N) (fN : ∀ b ∈ N, s₀.heap.objs.size ≤ b) (K : Cx G B H A env n) (hf : env.frame = some env.locals) (nd : env.cells.Pairwise fun x y => x.2 ≠ y.2) (hC : C ∈ N)
    (Z : CompSt G B H N env ρ C x v s₀ σ s) (h : WB G n (compEnvC cs (clOf env cs.names []) C env) (t (compEnvC cs (clOf env cs.names []) C env)) (putA x v ρ) σ ΦB (fun _ _ _ => False))
    (hQ : ∀ b σ' s', CompSt G B H N env ρ C x v s₀ σ' s' → CompMv H N C s s' → ΦB b σ' → Q b s') : wpAny G.M A (t (compEnvC cs (clOf env cs.names []) C env)) Q E s := by
  obtain ⟨m, u, hn, hx, r⟩ := Z.X
  have K' := cx_inComp Sc q Z.T hf Z.S hC K
  have S' := Z.S.inComp Sc q K.E hC hn hx r
  refine wpAny_mono (h B _ A s K'.T K'.E K'.A S') (fun w s' hw => ?_) fun e s' hx => ?_
  · obtain ⟨σ', S'', st, p⟩ := hw
    obtain ⟨z1, z2, z3⟩ := comp_out Sc q fN K nd hC Z S'' st
    exact hQ w σ' s' z1 z2 p
  · obtain ⟨_, _, _, _, _, _, _, _, z⟩ := hx; exact z.elim

/-- a hidden list comes into the store -/
theorem St.adopt {D : Addr} {c : Cell} (S : St G B H env ρ σ s) (x : CellAt G H s.heap D c) (h1 : B.get? D = none) (h2 : H D = none) (h3 : D ≠ env.locals) (h4 : ∀ x ∈ env.cells, x.2 ≠ D) (h5 : mainGlobals < D) : St G B H env ρ (upd σ D c) s := by
  refine ⟨S.keep, S.hid, S.frame, fun a c' e => ?_, S.root, fun a c' e w => ?_⟩
  · by_cases q : a = D
    · subst q; rw [upd_same] at e; cases e; exact ⟨x, fun _ => h1, h2, h3, h4⟩
    · rw [upd_ne q] at e; exact S.store a c' e
  · by_cases q : a = D
    · subst q; exact h5
    · rw [upd_ne q] at e; exact S.low a c' e w

theorem hidN_cons {h : Heap} {D : Addr} {N : List Addr} (hD : D ∉ N) : hidN H (D :: N) h = hidN (hidN H [D] h) N h := by
  funext a
  by_cases q : a ∈ N
  · rw [hidN_of q, hidN_of (.tail _ q)]
  · rw [hidN_ne q]
    by_cases e : a = D
    · subst e; rw [hidN_of (.head _), hidN_of (.head _)]
    · rw [hidN_ne (by simp [e, q]), hidN_ne (by simp [e])]

/-- the whole loop -/
theorem comp_loop {src : Src} {it D : Addr} {J : Nat → Heap → Prop} {px : Pos} {elt iter : Expr} {ifs : List Expr} {pos : Pos} {eT : Tr} {iT : List Tr} {ΦE : PE} {R : Result → Shared → Prop} {vs : List AV}
    (I0 : Itr G n src it N J) (hpair : src.pair = false) (Sc : CompScope env.scope cs x)
    (helt : ∀ cenv : Env, cenv.scope = relabelS cs env.scope → ∀ ρ σ Φ, eT.v ρ σ Φ (fun _ _ => False) → WE G n cenv (eval elt cenv) ρ σ Φ (fun _ _ _ => False))
    (htst : ∀ cenv : Env, cenv.scope = relabelS cs env.scope → ∀ ρ σ Φ, allT iT ρ σ Φ (fun _ _ => False) →
      WB G n cenv (forIn ifs true fun c r => if r = true then do let ok ← isTrue c cenv (eval c cenv); pure (ForInStep.yield ok) else pure (ForInStep.yield r)) ρ σ Φ (fun _ _ _ => False))
    (K : Cx G B H A env n) (hf : env.frame = some env.locals) (nd : env.cells.Pairwise fun x y => x.2 ≠ y.2)
    (S : St G B H env ρ σ s₀) (k : ∀ b o, s₀.heap.get? b = some o → s.heap.get? b = some o) (st : Step H s₀ s) (fN : ∀ b ∈ C :: D :: N, s₀.heap.objs.size ≤ b) (hCD : C ≠ D) (hCN : C ∉ N) (hDN : D ∉ N) (j : J 0 s.heap)
    (hD : s.heap.PlainList D #[]) (hCn : s.heap.Ns C fun _ => none)
    (I : List AV → List AV → Sto → Prop) (i0 : I vs [] σ) (hvs : ∀ rest acc σ₂, I rest acc σ₂ → src.items σ₂ = some vs)
    (turn : ∀ v rest acc σ₂, I (v :: rest) acc σ₂ → acc.length < sizeLine ∧ allT iT (putA x v ρ) σ₂ (fun b σ₃ => if b = true then eT.v (putA x v ρ) σ₃ (fun a σ₄ => I rest (acc ++ [a]) σ₄) (fun _ _ => False) else I rest acc σ₃) (fun _ _ => False))
    (fin0 : ∀ acc σ₂, I [] acc σ₂ → ∀ a, σ₂ a = none → ΦE (.ref a) (upd σ₂ a (.list acc)))
    (fin : ∀ s₁ σ₁, St G B (hidN H [C] s₁.heap) env ρ σ₁ s₁ → Step H s₀ s₁ → (∃ m, s₁.heap.Ns C m) → NOk B H env [C] → There [C] s₁.heap → ΦE (.ref D) σ₁ → R (.ok .next) s₁) :
    codeAny G.M A (.compLoop (.ListComp elt [⟨.Name x px, iter, ifs, 0⟩] cs pos) 0 (.ref it) (.ref D) (compEnvC cs (clOf env cs.names []) C env)) R s := by
  obtain ⟨S₁, q⟩ := S.hide k fN
  have hCm : C ∈ C :: D :: N := .head _
  have hDm : D ∈ C :: D :: N := .tail _ (.head _)
  have hN : ∀ b ∈ N, b ∈ C :: D :: N := fun b hb => .tail _ (.tail _ hb)
  have kx : (compEnvC cs (clOf env cs.names []) C env).kindOf x = some .local := by
    show (relabelS cs env.scope).names.lookup x = some .local
    rw [lookup_relabelS, Sc.x]; rfl
  have big : mainGlobals < s₀.heap.objs.size := let ⟨_, e⟩ := S.root; Heap.lt_size (S.keep _ _ e)
  have thr : ∀ {h : Heap} {i : Nat} {ys : Array Value} {m : Str → Option Value}, J i h → h.PlainList D ys → h.Ns C m → There (C :: D :: N) h := fun {h i ys m} jj hl hn b hb => by
    rcases List.mem_cons.mp hb with rfl | hb
    · obtain ⟨o, es, ep, ho, hd, _⟩ := hn
      exact ⟨o, ho, fun D vs _ z => by rw [hd] at z; cases z⟩
    · rcases List.mem_cons.mp hb with rfl | hb
      · obtain ⟨m, ho⟩ := hl
        exact ⟨_, ho, fun D vs z => by cases z⟩
      · obtain ⟨o, h1, _, h2⟩ := I0.there i h jj b hb
        exact ⟨o, h1, fun D vs z => absurd z (h2 D)⟩
  refine codeAny_compLoop_tests (fun m s' => ∃ i acc ys mm σ, i ≤ vs.length ∧ m = vs.length - i ∧ I (vs.drop i) acc σ ∧ St G B (hidN H (C :: D :: N) s'.heap) env ρ σ s' ∧ J i s'.heap ∧ s'.heap.Ns C mm ∧ s'.heap.PlainList D ys ∧ RelL (hidN H (C :: D :: N) s'.heap) s'.heap acc ys.toList ∧ Step H s₀ s') ?_ vs.length
    ⟨0, [], #[], _, σ, Nat.zero_le _, rfl, i0, S₁, j, hCn, hD, .nil, st⟩
  rintro m s' ⟨i, acc, ys, mm, σ', hi, rfl, hI, S', j', hCn', hD', ra, st'⟩
  have t' := thr j' hD' hCn'
  have hH : ∀ b ∈ N, hidN H (C :: D :: N) s'.heap b ≠ none := fun b hb => by
    obtain ⟨o, ho, _⟩ := t' b (hN b hb)
    rw [hidN_of (hN b hb), ho]; simp
  have K' : Cx G B (hidN H (C :: D :: N) s'.heap) A env n := K.hidN q
  by_cases hlt : i < vs.length
  · have hd : vs.drop i = vs[i] :: vs.drop (i + 1) := List.drop_eq_getElem_cons hlt
    rw [hd] at hI
    obtain ⟨hsz, ht⟩ := turn _ _ _ _ hI
    refine I0.nextN hpair K' S' j' hH (hvs _ _ _ hI) (List.getElem?_eq_getElem hlt) fun u h' tk kk jn r => ?_
    have kk' : ∀ b o, b ∉ C :: D :: N → s'.heap.get? b = some o → h'.get? b = some o := fun b o hb e => kk b o (fun z => hb (hN b z)) e
    have hCn1 : h'.Ns C mm := hCn'.at' fun o e => kk C o hCN e
    have hD1 : h'.PlainList D ys := hD'.at fun o e => kk D o hDN e
    have t1 := thr jn hD1 hCn1
    obtain ⟨S₂, g₂, dd₂⟩ := St.turn (s₁ := { s' with heap := h', toks := tk }) q t' S' kk' t1 t'
    have st₂ : Step H s₀ { s' with heap := h', toks := tk } := st'.over fN ⟨g₂, rfl, rfl⟩
    have r₂ : Rel (hidN H (C :: D :: N) h') h' vs[i] u := r.dom fun a _ _ z => by
      by_cases za : a ∈ N
      · rw [hidN_of za] at z
        obtain ⟨o, h1, _⟩ := I0.there _ _ jn a za
        rw [h1] at z; cases z
      · rw [hidN_ne za] at z
        exact dd₂ a z
    have ra₂ : RelL (hidN H (C :: D :: N) h') h' acc ys.toList := (ra.grow g₂).dom fun a _ _ z => dd₂ a z
    refine wpAny_assign_Name (wpAny_storeName_local kx hCn1 (fun h₂ hn₂ hs₂ => ?_) (by show (cs.kind == _ || (cs.kind == _ && _)) = false; rw [Sc.kind]; rfl))
    have k3 : ∀ b o, b ≠ C → h'.get? b = some o → h₂.get? b = some o := fun b o nb e => hs₂.extBut b o nb e
    have k3' : ∀ b o, b ∉ C :: D :: N → h'.get? b = some o → h₂.get? b = some o := fun b o hb e => k3 b o (fun z => hb (z ▸ hCm)) e
    have j3 : J (i + 1) h₂ := I0.frame _ _ _ jn fun b hb o e => k3 b o (fun z => hCN (z ▸ hb)) e
    have hD3 : h₂.PlainList D ys := hD1.at fun o e => k3 D o hCD.symm e
    have t3 := thr j3 hD3 hn₂
    obtain ⟨S₃, g₃, dd₃⟩ := St.turn (s₁ := { s' with heap := h₂, toks := tk + 1 }) q t1 S₂ k3' t3 t1
    have st₃ : Step H s₀ { s' with heap := h₂, toks := tk + 1 } := st₂.over fN ⟨g₃, rfl, rfl⟩
    have r₃ : Rel (hidN H (C :: D :: N) h₂) h₂ vs[i] u := (r₂.grow g₃).dom fun a _ _ z => dd₃ a z
    have ra₃ : RelL (hidN H (C :: D :: N) h₂) h₂ acc ys.toList := (ra₂.grow g₃).dom fun a _ _ z => dd₃ a z
    have Z : CompSt G B H (C :: D :: N) env ρ C x vs[i] s₀ σ' { s' with heap := h₂, toks := tk + 1 } := ⟨S₃, t3, ⟨_, u, hn₂, by simp, r₃⟩, st₃⟩
    have exact1 : ∀ {sa sb : Shared}, CompMv H (C :: D :: N) C sa sb → J (i + 1) sa.heap → sa.heap.PlainList D ys → J (i + 1) sb.heap ∧ sb.heap.PlainList D ys := fun {sa sb} mv ja la => by
      refine ⟨I0.frame _ _ _ ja fun b hb o e => ?_, ?_⟩
      · obtain ⟨o', e', ndd, _⟩ := I0.there _ _ ja b hb
        rw [e] at e'; cases e'
        exact mv.ex b (hN b hb) (fun z => hCN (z ▸ hb)) o e ndd
      · obtain ⟨m, ho⟩ := la
        exact ⟨m, mv.ex D hDm hCD.symm _ ho (by simp)⟩
    refine comp_test (t := fun cenv => forIn ifs true fun c r => if r = true then do let ok ← isTrue c cenv (eval c cenv); pure (ForInStep.yield ok) else pure (ForInStep.yield r)) Sc q fN K hf nd hCm Z (htst _ rfl _ _ _ ht) fun b σ₄ s₄ Z₄ mv₄ p₄ => ?_
    obtain ⟨j₄, l₄⟩ := exact1 mv₄ j3 hD3
    have ra₄ := mv₄.rel _ _ ra₃
    cases b with
    | false =>
      simp only [Bool.false_eq_true, if_false] at p₄ ⊢
      obtain ⟨m₄, u₄, hn₄, _⟩ := Z₄.X
      exact ⟨vs.length - (i + 1), (by first | decide | with_reducible exact lv hn | with_reducible exact lv1 hn | with_reducible exact lv2 hn | with_reducible exact Int.natCast_nonneg _ | omega), i + 1, acc, ys, m₄, σ₄, hlt, rfl, p₄, Z₄.S, j₄, hn₄, l₄, ra₄, Z₄.st⟩
    | true =>
      simp only [if_true] at p₄ ⊢
      refine comp_eval (t := fun cenv => eval elt cenv) Sc q fN K hf nd hCm Z₄ (helt _ rfl _ _ _ p₄) fun a w σ₅ s₅ Z₅ mv₅ rw₅ p₅ => ?_
      obtain ⟨j₅, l₅⟩ := exact1 mv₅ j₄ l₄
      have ra₅ := mv₅.rel _ _ ra₄
      have hys : ys.size ≤ sizeLine := by
        have := ra₅.length
        rw [Array.length_toList] at this; omega
      refine wpAny_list_append_plain (hsz := hys) l₅ fun h₆ l₆ hs₆ => ?_
      have k6 : ∀ b o, b ≠ D → s₅.heap.get? b = some o → h₆.get? b = some o := fun b o nb e => hs₆.extBut b o nb e
      obtain ⟨m₅, u₅, hn₅, _⟩ := Z₅.X
      have hn₆ : h₆.Ns C m₅ := hn₅.at' fun o e => k6 C o hCD e
      have j₆ : J (i + 1) h₆ := I0.frame _ _ _ j₅ fun b hb o e => k6 b o (fun z => hDN (z ▸ hb)) e
      have t₆ := thr j₆ l₆ hn₆
      obtain ⟨S₆, g₆, dd₆⟩ := St.turn (s₁ := { s₅ with heap := h₆ }) q Z₅.T Z₅.S (fun b o hb e => k6 b o (fun z => hb (z ▸ hDm)) e) t₆ Z₅.T
      refine ⟨vs.length - (i + 1), (by first | decide | with_reducible exact lv hn | with_reducible exact lv1 hn | with_reducible exact lv2 hn | with_reducible exact Int.natCast_nonneg _ | omega), i + 1, acc ++ [a], ys.push w, m₅, σ₅, hlt, rfl, p₅, S₆, j₆, hn₆, l₆, ?_, Z₅.st.over fN ⟨g₆, rfl, rfl⟩⟩
      rw [Array.toList_push]
      exact ((ra₅.append (.one rw₅)).grow g₆).dom fun a _ _ z => dd₆ a z
  · have hie : i = vs.length := by omega
    subst hie
    rw [List.drop_length] at hI
    refine I0.done K' S' j' (hvs _ _ _ hI) fun h' tk kk => ?_
    have hCn1 : h'.Ns C mm := hCn'.at' fun o e => kk C o hCN e
    have hD1 : h'.PlainList D ys := hD'.at fun o e => kk D o hDN e
    have hC' : C ∉ D :: N := by simp [hCD, hCN]
    have e1 := hidN_cons (H := H) (h := s'.heap) hC'
    have S'' := S'
    rw [e1] at S''
    have q1 : NOk B H env [C] := ⟨fun b hb => q.base b (by rw [mem1 hb]; exact hCm), fun b hb => q.hid b (by rw [mem1 hb]; exact hCm), fun z => q.loc (by rw [mem1 z]; exact hCm), fun y hy z => q.cells y hy (by rw [mem1 z]; exact hCm)⟩
    have q2 : NOk B (hidN H [C] s'.heap) env (D :: N) := ⟨fun b hb => q.base b (.tail _ hb), fun b hb => by rw [hidN_ne (by intro z; rw [mem1 z] at hb; exact hC' hb)]; exact q.hid b (.tail _ hb), fun z => q.loc (.tail _ z), fun y hy z => q.cells y hy (.tail _ z)⟩
    have t2 : There (D :: N) s'.heap := fun b hb => t' b (.tail _ hb)
    obtain ⟨S₂, g₂⟩ := St.leave (s₁ := { s' with heap := h', toks := tk }) q2 t2 S'' (fun b o hb e => kk b o (fun z => hb (.tail _ z)) e) t2
    have tC : There [C] s'.heap := fun b hb => by rw [mem1 hb]; exact t' C hCm
    have S₃ := S₂.fresh_hidN q1 tC
    have g₂' : Grow (hidN H (C :: D :: N) s'.heap) s'.heap h' := by rw [e1]; exact g₂
    have st₂ : Step H s₀ { s' with heap := h', toks := tk } := st'.over fN ⟨g₂', rfl, rfl⟩
    have tC' : There [C] h' := tC.after S₂
    have hDnone : σ' D = none := none_of_not_some fun c e => by
      have := (S'.store D c e).2.2.1
      obtain ⟨m, ho⟩ := hD'
      rw [hidN_of hDm, ho] at this; cases this
    have hfresh := fN D hDm
    refine fin _ _ (S₃.adopt (c := .list acc) ?_ (q.base D hDm) (by rw [hidN_ne (by simp [hCD.symm])]; exact q.hid D hDm) (fun z => q.loc (z ▸ hDm)) (fun y hy z => q.cells y hy (z ▸ hDm)) (Nat.lt_of_lt_of_le big hfresh)) st₂ ⟨mm, hCn1⟩ q1 tC' (fin0 _ _ hI D hDnone)
    obtain ⟨m, ho⟩ := hD1
    refine ⟨ys, m, ho, (ra.grow g₂').dom fun a _ _ z => ?_⟩
    obtain ⟨z1, z2⟩ := (hidN_some q t').mp z
    rw [hidN_ne (by intro w; rw [mem1 w] at z1; exact z1 hCm)]; exact z2
end
end Mine
set_option maxRecDepth 100000
namespace Mine
open PySem PyProof.Rows

variable {G : PG}

abbrev PXof (ρ : Loc) (Ψ : PY) : PX := fun c ρ' σ' => ρ' = ρ ∧ Ψ c σ'
abbrev GoT (G : PG) (B : Heap) (H : Hid) (A : Around) (env : Env) (ρ : Loc) (s : Shared) (t : Sem Bool) (Φ : Bool → Sto → Prop) (Ψ : PX) : Prop :=
  wpAny G.M A t (fun b s' => ∃ σ', St G B H env ρ σ' s' ∧ Step H s s' ∧ Φ b σ') (QX G B H env Ψ s) s
abbrev GoL (G : PG) (B : Heap) (H : Hid) (A : Around) (env : Env) (ρ : Loc) (s : Shared) (t : Sem (List Value)) (Φ : List AV → Sto → Prop) (Ψ : PX) : Prop :=
  wpAny G.M A t (fun vs s' => ∃ as σ', RelL H s'.heap as vs ∧ St G B H env ρ σ' s' ∧ Step H s s' ∧ Φ as σ') (QX G B H env Ψ s) s
/-- an iterator at its start -/
noncomputable def ItrAt (G : PG) (n : Nat) (B : Heap) (H : Hid) (env : Env) (ρ : Loc) (s : Shared) (Φ : Src → Sto → Prop) (itv : Value) (s₂ : Shared) : Prop :=
  ∃ src it N J σ₁ sm, itv = .ref it ∧ Itr G n src it N J ∧ St G B H env ρ σ₁ sm ∧ Step H s sm ∧ (∀ b o, sm.heap.get? b = some o → s₂.heap.get? b = some o) ∧ Step H sm s₂ ∧ (∀ b ∈ N, sm.heap.objs.size ≤ b) ∧ J 0 s₂.heap ∧ Φ src σ₁
abbrev GoI (G : PG) (n : Nat) (B : Heap) (H : Hid) (A : Around) (env : Env) (ρ : Loc) (s : Shared) (t : Sem Value) (Φ : Src → Sto → Prop) (Ψ : PX) : Prop :=
  wpAny G.M A t (fun x s₁ => wpAny G.M A (pyIter x) (ItrAt G n B H env ρ s Φ) (QX G B H env Ψ s) s₁) (QX G B H env Ψ s) s

structure Snd (G : PG) (n : Nat) (env : Env) (e : Expr) (T : Tr) : Prop where
  v : ∀ {B H A ρ σ s Φ Ψ}, Cx G B H A env n → St G B H env ρ σ s → T.v ρ σ Φ Ψ → Go G B H A env ρ s (eval e env) Φ (PXof ρ Ψ)
  t : ∀ {B H A ρ σ s Φ Ψ}, Cx G B H A env n → St G B H env ρ σ s → T.t ρ σ Φ Ψ → GoT G B H A env ρ s (isTrue e env (eval e env)) Φ (PXof ρ Ψ)
  i : ∀ {B H A ρ σ s Φ Ψ}, Cx G B H A env n → St G B H env ρ σ s → (∀ src σ, Φ src σ → ∃ vs, src.items σ = some vs) → T.i ρ σ Φ Ψ → GoI G n B H A env ρ s (eval e env) Φ (PXof ρ Ψ)

section
variable {B : Heap} {H : Hid} {A : Around} {env : Env} {n : Nat} {ρ : Loc} {σ : Sto} {s s₁ : Shared} {Ψ : PX}

theorem GoT.step {t : Sem Bool} {Φ : Bool → Sto → Prop} (st : Step H s s₁) (h : GoT G B H A env ρ s₁ t Φ Ψ) : wpAny G.M A t (fun b s' => ∃ σ', St G B H env ρ σ' s' ∧ Step H s s' ∧ Φ b σ') (QX G B H env Ψ s) s₁ :=
  wpAny_mono h (fun _ _ ⟨σ', S, q, p⟩ => ⟨σ', S, st.trans q, p⟩) fun _ _ q => q.step st
theorem GoL.after {t : Sem (List Value)} {Φ₁ : List AV → Sto → Prop} {Q : List Value → Shared → Prop} (h : GoL G B H A env ρ s t Φ₁ Ψ)
    (k : ∀ vs s₁ as σ₁, RelL H s₁.heap as vs → St G B H env ρ σ₁ s₁ → Step H s s₁ → Φ₁ as σ₁ → Q vs s₁) : wpAny G.M A t Q (QX G B H env Ψ s) s :=
  wpAny_mono h (fun v s₁ ⟨a, σ₁, r, S, st, p⟩ => k v s₁ a σ₁ r S st p) fun _ _ x => x
theorem Go.after' {t : Sem Value} {Φ₁ : PE} {Q : Value → Shared → Prop} (h : Go G B H A env ρ s t Φ₁ Ψ)
    (k : ∀ v s₁ a σ₁, Rel H s₁.heap a v → St G B H env ρ σ₁ s₁ → Step H s s₁ → Φ₁ a σ₁ → Q v s₁) : wpAny G.M A t Q (QX G B H env Ψ s) s :=
  wpAny_mono h (fun v s₁ ⟨a, σ₁, r, S, st, p⟩ => k v s₁ a σ₁ r S st p) fun _ _ x => x

theorem Go.then {t : Sem Value} {Φ₁ : PE} {Q : Value → Shared → Prop} (st : Step H s s₁) (h : Go G B H A env ρ s₁ t Φ₁ Ψ)
    (k : ∀ v s₂ a σ₂, Rel H s₂.heap a v → St G B H env ρ σ₂ s₂ → Step H s₁ s₂ → Step H s s₂ → Φ₁ a σ₂ → Q v s₂) : wpAny G.M A t Q (QX G B H env Ψ s) s₁ :=
  wpAny_mono h (fun v s₂ ⟨a, σ₂, r, S, st₂, p⟩ => k v s₂ a σ₂ r S st₂ (st.trans st₂) p) fun _ _ x => x.step st
theorem GoL.then {t : Sem (List Value)} {Φ₁ : List AV → Sto → Prop} {Q : List Value → Shared → Prop} (st : Step H s s₁) (h : GoL G B H A env ρ s₁ t Φ₁ Ψ)
    (k : ∀ vs s₂ as σ₂, RelL H s₂.heap as vs → St G B H env ρ σ₂ s₂ → Step H s₁ s₂ → Step H s s₂ → Φ₁ as σ₂ → Q vs s₂) : wpAny G.M A t Q (QX G B H env Ψ s) s₁ :=
  wpAny_mono h (fun v s₂ ⟨a, σ₂, r, S, st₂, p⟩ => k v s₂ a σ₂ r S st₂ (st.trans st₂) p) fun _ _ x => x.step st
/-- iteration over a value -/
theorem iter_value {t : Sem Value} {Φ : Src → Sto → Prop} {f : PE} (C : Cx G B H A env n) (hΦ : ∀ src σ, Φ src σ → ∃ vs, src.items σ = some vs) (h : Go G B H A env ρ s t f Ψ)
    (hf : ∀ a σ₁, f a σ₁ → match a with | .ref l => Φ (.lst l) σ₁ | .str x => 10 ≤ n ∧ (∀ c ∈ x.cps.toList, c < 128) ∧ Φ (.vals (x.cps.toList.map fun c => .str ⟨#[c]⟩)) σ₁ | _ => False) : GoI G n B H A env ρ s t Φ Ψ := by
  refine h.after' fun v s₁ a σ₁ ra S st p0 => ?_
  have p := hf a σ₁ p0
  clear p0
  split at p
  · rename_i l
    simp only [Rel] at ra; subst ra
    obtain ⟨vs, hq⟩ := hΦ _ _ p
    have hq' : lstOf σ₁ l = some vs := hq
    · skip
      obtain ⟨items, m, ho, rl⟩ := S.listAt hq'
      refine wpAny_pyIter_list (isList_of ho) ⟨.lst l, s₁.heap.objs.size, [s₁.heap.objs.size], _, σ₁, s₁, rfl, itr_list G n l _, S, st, fun b o e => Heap.get?_push_of_some _ e, .push _, fun b hb => by rw [mem1 hb]; exact Nat.le_refl _, ⟨_, Heap.get?_push_size _ rfl, rfl, rfl⟩, p⟩
  · rename_i x
    simp only [Rel] at ra
    obtain ⟨t, rfl⟩ := ra
    refine wpAny_pyIter_ascii (by rw [Array.all_eq_true_iff_forall_mem]; intro c hc; simpa using p.2.1 c (by simpa using hc)) ⟨_, s₁.heap.objs.size, [s₁.heap.objs.size], _, σ₁, s₁, rfl, itr_str G n p.1 x t _, S, st, fun b o e => Heap.get?_push_of_some _ e, .push _, fun b hb => by rw [mem1 hb]; exact Nat.le_refl _, ⟨_, Heap.get?_push_size _ rfl, rfl, rfl⟩, p.2.2⟩
  · exact p.elim

theorem truth_goT {a : AV} {v : Value} {Φ : Bool → Sto → Prop} {b : Bool} (S : St G B H env ρ σ s₁) (st : Step H s s₁) (ra : Rel H s₁.heap a v) (e : truthV σ a = some b) (p : Φ b σ) :
    wpAny G.M A (truthy v) (fun b s' => ∃ σ', St G B H env ρ σ' s' ∧ Step H s s' ∧ Φ b σ') (QX G B H env Ψ s) s₁ :=
  truth_ok ra e ⟨σ, S, st, p⟩

noncomputable def plainTrue (e : Expr) (env : Env) : Prop := ∀ whole, isTrue e env whole = (do let v ← whole; standAt e.pos; holding [v] (truthy v))
/-- by its value alone -/
theorem Snd.of_v {e : Expr} {f : Loc → Sto → PE → PY → Prop} (he : plainTrue e env)
    (hv : ∀ {B H A ρ σ s Φ Ψ}, Cx G B H A env n → St G B H env ρ σ s → f ρ σ Φ Ψ → Go G B H A env ρ s (eval e env) Φ (PXof ρ Ψ)) : Snd G n env e (Tr.plain n f) where
  v := hv
  t := fun {B H A ρ σ s Φ Ψ} C S p => by
    refine isTrue_plain (Go.after' (hv C S p) fun v s₁ a σ₁ ra S₁ st q => ?_) (he _)
    obtain ⟨b, e, q⟩ := q
    exact truth_goT S₁ st ra e q
  i := fun {B H A ρ σ s Φ Ψ} C S hΦ p => iter_value C hΦ (hv C S p) fun a σ₁ q => q

theorem Snd.mk' {e : Expr} {V : Loc → Sto → PE → PY → Prop} {T : Loc → Sto → (Bool → Sto → Prop) → PY → Prop}
    (hv : ∀ {B H A ρ σ s Φ Ψ}, Cx G B H A env n → St G B H env ρ σ s → V ρ σ Φ Ψ → Go G B H A env ρ s (eval e env) Φ (PXof ρ Ψ))
    (ht : ∀ {B H A ρ σ s Φ Ψ}, Cx G B H A env n → St G B H env ρ σ s → T ρ σ Φ Ψ → GoT G B H A env ρ s (isTrue e env (eval e env)) Φ (PXof ρ Ψ)) : Snd G n env e ⟨V, T, Tr.iter n V⟩ :=
  ⟨hv, ht, fun C S hΦ p => iter_value C hΦ (hv C S p) fun _ _ q => q⟩

/-! ### names and constants -/
theorem snd_nm {x : Str} {pos : Pos} (hd : (x == ("__debug__" : Str)) = false) (hc : (x == ("__classdict__" : Str)) = false) (hz : x ≠ ".0") (hk : env.kindOf x = some .local ∨ env.kindOf x = some .cell ∨ env.kindOf x = some .free) : Snd G n env (.Name x pos) (tr G n (.nm x)) := by
  show Snd G n env _ (Tr.plain n _)
  refine .of_v (fun _ => rfl) fun {B H A ρ σ s Φ Ψ} C S p => ?_
  split at p
  · rename_i a e
    exact wpAny_Name (go_load C S hk hc hz e p) hd
  · exact p.elim
theorem snd_gl {x : Str} {pos : Pos} (hd : (x == ("__debug__" : Str)) = false) (hn : x ≠ "__name__") (hk : env.kindOf x = some .globalImplicit) : Snd G n env (.Name x pos) (tr G n (.gl x)) := by
  show Snd G n env _ (Tr.plain n _)
  exact .of_v (fun _ => rfl) fun {B H A ρ σ s Φ Ψ} C S p => go_glob C S hk hn pos hd p
theorem snd_int {i : Int} {k : Nat} {pos : Pos} : Snd G n env (.Constant (.int i) k pos) (tr G n (.cst (.int i))) := by
  show Snd G n env _ (Tr.plain n _)
  exact .of_v (fun _ => rfl) fun {B H A ρ σ s Φ Ψ} C S p => fun _ _ _ => qe (S.tok _) (Step.tok _ _ _) (by simp [Rel]) p
theorem snd_str {x : Str} {k : Nat} {pos : Pos} : Snd G n env (.Constant (.str x) k pos) (tr G n (.cst (.str x))) := by
  show Snd G n env _ (Tr.plain n _)
  exact .of_v (fun _ => rfl) fun {B H A ρ σ s Φ Ψ} C S p => Calls.Constant_str (qe (S.tok _) (Step.tok _ _ _) (by simp [Rel]) p)
theorem snd_bool {b : Bool} {k : Nat} {pos : Pos} : Snd G n env (.Constant (.bool b) k pos) (tr G n (.cst (.bool b))) := by
  show Snd G n env _ (Tr.plain n _)
  exact .of_v (fun _ => rfl) fun {B H A ρ σ s Φ Ψ} C S p => Constant_bool (qe S (.refl _ _) (by simp [Rel]) p)
theorem snd_none {k : Nat} {pos : Pos} : Snd G n env (.Constant .none k pos) (tr G n (.cst .none)) := by
  show Snd G n env _ (Tr.plain n _)
  exact .of_v (fun _ => rfl) fun {B H A ρ σ s Φ Ψ} C S p => Constant_none (qe S (.refl _ _) (by simp [Rel]) p)

/-! ### operators -/
theorem snd_bin {l r : Expr} {op : Operator} {pos : Pos} {a b : Ex} (ha : Snd G n env l (tr G n a)) (hb : Snd G n env r (tr G n b)) : Snd G n env (.BinOp l op r pos) (tr G n (.bin op a b)) := by
  show Snd G n env _ (Tr.plain n _)
  refine .of_v (fun _ => rfl) fun {B H A ρ σ s Φ Ψ} C S p => ?_
  exact wpAny_BinOp (Go.after' (ha.v C S p) fun v s₁ x σ₁ rx S₁ st₁ p₁ => Go.then st₁ (hb.v C S₁ p₁) fun u s₂ y σ₂ ry S₂ st₂ st₂' p₂ => Go.step st₂' (bin_ok S₂ (rx.grow st₂.grow) ry p₂))

theorem cmp_val {op : CmpOp} {a b : AV} {v u : Value} {Φ : Bool → Sto → Prop} {Q : Value → Shared → Prop} (C : Cx G B H A env n) (S : St G B H env ρ σ s₁) (st : Step H s s₁) (ra : Rel H s₁.heap a v) (rb : Rel H s₁.heap b u) (p : cmpV G op a b σ fun q => Φ q σ)
    (k : ∀ q s₂ σ₂, St G B H env ρ σ₂ s₂ → Step H s₁ s₂ → Step H s s₂ → Φ q σ₂ → Q (.bool q) s₂) : wpAny G.M A (compareOp op v u) Q (QX G B H env Ψ s) s₁ := by
  refine wpAny_mono (cmp_ok (Ψ := Ψ) C S ra rb p) (fun r s₂ q => ?_) fun _ _ x => x.step st
  obtain ⟨b, σ', rfl, S', st', p'⟩ := q
  exact k b s₂ σ' S' st' (st.trans st') p'

theorem snd_cmp {l r : Expr} {op : CmpOp} {pos : Pos} {a b : Ex} (hm : behindInMarks op r = false) (ha : Snd G n env l (tr G n a)) (hb : Snd G n env r (tr G n b)) : Snd G n env (.Compare l [op] [r] pos) (tr G n (.cmp op a b)) := by
  show Snd G n env _ (Tr.plain n _)
  have hv : ∀ {B H A ρ σ s Φ Ψ}, Cx G B H A env n → St G B H env ρ σ s → ((tr G n a).v ρ σ (fun a σ₁ => (tr G n b).v ρ σ₁ (fun b σ₂ => cmpV G op a b σ₂ fun q => Φ (.bool q) σ₂) Ψ) Ψ) → Go G B H A env ρ s (eval (.Compare l [op] [r] pos) env) Φ (PXof ρ Ψ) := fun {B H A ρ σ s Φ Ψ} C S p =>
    wpAny_Compare1 (Go.after' (ha.v C S p) fun v s₁ x σ₁ rx S₁ st₁ p₁ => Go.then st₁ (hb.v C S₁ p₁) fun u s₂ y σ₂ ry S₂ st₂ st₂' p₂ => cmp_val (Φ := fun q σ => Φ (.bool q) σ) C S₂ st₂' (rx.grow st₂.grow) ry p₂ fun q s₃ σ₃ S₃ _ st₃ p₃ => qe S₃ st₃ (by simp [Rel]) p₃) hm
  refine Snd.mk' hv fun {B H A ρ σ s Φ Ψ} C S p => ?_
  exact wpAny_isTrue_Compare1 (Go.after' (ha.v C S p) fun v s₁ x σ₁ rx S₁ st₁ p₁ => Go.then st₁ (hb.v C S₁ p₁) fun u s₂ y σ₂ ry S₂ st₂ st₂' p₂ => cmp_val (Φ := fun q σ => ∃ b, truthV σ (.bool q) = some b ∧ Φ b σ) C S₂ st₂' (rx.grow st₂.grow) ry p₂ fun q s₃ σ₃ S₃ _ st₃ p₃ => by
    obtain ⟨b, e, p₃⟩ := p₃
    exact truth_goT S₃ st₃ (a := .bool q) (by simp [Rel]) e p₃) hm

theorem snd_cmp2 {l m r : Expr} {o1 o2 : CmpOp} {pos : Pos} {a b c : Ex} (hm : lastMarks [o1, o2] [m, r] = false) (ha : Snd G n env l (tr G n a)) (hb : Snd G n env m (tr G n b)) (hc : Snd G n env r (tr G n c)) : Snd G n env (.Compare l [o1, o2] [m, r] pos) (tr G n (.cmp2 o1 o2 a b c)) := by
  show Snd G n env _ (Tr.plain n _)
  have hv : ∀ {B H A ρ σ s Φ Ψ}, Cx G B H A env n → St G B H env ρ σ s → ((tr G n a).v ρ σ (fun a σ₁ => (tr G n b).v ρ σ₁ (fun b σ₂ => cmpV G o1 a b σ₂ fun q =>
      if q = true then (tr G n c).v ρ σ₂ (fun c σ₃ => cmpV G o2 b c σ₃ fun q' => Φ (.bool q') σ₃) Ψ else Φ (.bool false) σ₂) Ψ) Ψ) → Go G B H A env ρ s (eval (.Compare l [o1, o2] [m, r] pos) env) Φ (PXof ρ Ψ) := fun {B H A ρ σ s Φ Ψ} C S p => by
    refine Compare_chain (ops := []) (rs := []) (Go.after' (ha.v C S p) fun v s₁ x σ₁ rx S₁ st₁ p₁ => chain_link (Go.then st₁ (hb.v C S₁ p₁) fun u s₂ y σ₂ ry S₂ st₂ st₂' p₂ => cmp_val (Φ := fun q σ => if q = true then (tr G n c).v ρ σ (fun c σ₃ => cmpV G o2 y c σ₃ fun q' => Φ (.bool q') σ₃) Ψ else Φ (.bool false) σ) C S₂ st₂' (rx.grow st₂.grow) ry p₂ fun q s₃ σ₃ S₃ st3 st₃ p₃ => wpAny_truthy_bool ?_)) hm
    cases q with
    | false => exact qe S₃ st₃ (by simp [Rel]) p₃
    | true => exact chain_last (Go.then st₃ (hc.v C S₃ p₃) fun w s₄ z σ₄ rz S₄ st₄ st₄' p₄ => cmp_val (Φ := fun q σ => Φ (.bool q) σ) C S₄ st₄' ((ry.grow st3.grow).grow st₄.grow) rz p₄ fun q s₃ σ₃ S₃ _ st₃ p₃ => qe S₃ st₃ (by simp [Rel]) p₃)
  refine Snd.mk' hv fun {B H A ρ σ s Φ Ψ} C S p => ?_
  refine isTrue_chain (ops := []) (rs := []) (Go.after' (ha.v C S p) fun v s₁ x σ₁ rx S₁ st₁ p₁ => test_link (Go.then st₁ (hb.v C S₁ p₁) fun u s₂ y σ₂ ry S₂ st₂ st₂' p₂ => cmp_val (Φ := fun q σ => if q = true then (tr G n c).v ρ σ (fun c σ₃ => cmpV G o2 y c σ₃ fun q' => ∃ b, truthV σ₃ (.bool q') = some b ∧ Φ b σ₃) Ψ else ∃ b, truthV σ (.bool false) = some b ∧ Φ b σ) C S₂ st₂' (rx.grow st₂.grow) ry p₂ fun q s₃ σ₃ S₃ st3 st₃ p₃ => wpAny_truthy_bool ?_)) hm
  cases q with
  | false =>
    obtain ⟨b, e, p₃⟩ := p₃
    simp only [truthV] at e; cases e
    exact ⟨σ₃, S₃, st₃, p₃⟩
  | true =>
    exact test_last (Go.then st₃ (hc.v C S₃ p₃) fun w s₄ z σ₄ rz S₄ st₄ st₄' p₄ => cmp_val (Φ := fun q σ => ∃ b, truthV σ (.bool q) = some b ∧ Φ b σ) C S₄ st₄' ((ry.grow st3.grow).grow st₄.grow) rz p₄ fun q s₃ σ₃ S₃ _ st₃ p₃ => by
      obtain ⟨b, e, p₃⟩ := p₃
      exact truth_goT S₃ st₃ (a := .bool q) (by simp [Rel]) e p₃)

noncomputable def isStar : Expr → Bool
  | .Starred .. => true
  | _ => false
theorem starEach_cons {e : Expr} {rest : List Expr} (h : isStar e = false) : starEach (e :: rest) env = (false, eval e env) :: starEach rest env := by cases e <;> first | rfl | cases h
inductive SndL (G : PG) (n : Nat) (env : Env) : List Expr → List Tr → Prop
  | nil : SndL G n env [] []
  | cons {e es T Ts} : Snd G n env e T → isStar e = false → SndL G n env es Ts → SndL G n env (e :: es) (T :: Ts)

theorem snd_andL {pos : Pos} : ∀ {es : List Expr} {Ts : List Tr}, SndL G n env es Ts → ∀ {B H A ρ σ s Φ Ψ}, Cx G B H A env n → St G B H env ρ σ s → andV Ts ρ σ Φ Ψ → Go G B H A env ρ s (eval (.BoolOp .And es pos) env) Φ (PXof ρ Ψ) := by
  intro es Ts h
  induction h with
  | nil => intro _ _ _ _ _ _ _ _ _ _ p; exact p.elim
  | cons h _ t ih =>
    intro B H A ρ σ s Φ Ψ C S p
    cases t with
    | nil => exact BoolOp_one (h.v C S p)
    | cons h' b' t' =>
      refine BoolOp_and (Go.after' (h.v C S p) fun v s₁ a σ₁ ra S₁ st₁ p₁ => ?_)
      obtain ⟨b, e, p₁⟩ := p₁
      refine truth_ok ra e ?_
      cases b with
      | false => exact qe S₁ st₁ ra p₁
      | true => exact Go.step st₁ (ih C S₁ p₁)
theorem snd_orL {pos : Pos} : ∀ {es : List Expr} {Ts : List Tr}, SndL G n env es Ts → ∀ {B H A ρ σ s Φ Ψ}, Cx G B H A env n → St G B H env ρ σ s → orV Ts ρ σ Φ Ψ → Go G B H A env ρ s (eval (.BoolOp .Or es pos) env) Φ (PXof ρ Ψ) := by
  intro es Ts h
  induction h with
  | nil => intro _ _ _ _ _ _ _ _ _ _ p; exact p.elim
  | cons h _ t ih =>
    intro B H A ρ σ s Φ Ψ C S p
    cases t with
    | nil => exact BoolOp_one (h.v C S p)
    | cons h' b' t' =>
      refine BoolOp_or (Go.after' (h.v C S p) fun v s₁ a σ₁ ra S₁ st₁ p₁ => ?_)
      obtain ⟨b, e, p₁⟩ := p₁
      refine truth_ok ra e ?_
      cases b with
      | false => exact Go.step st₁ (ih C S₁ p₁)
      | true => exact qe S₁ st₁ ra p₁
theorem snd_allT {pos : Pos} {whole : Sem Value} : ∀ {es : List Expr} {Ts : List Tr}, SndL G n env es Ts → ∀ {B H A ρ σ s Φ Ψ}, Cx G B H A env n → St G B H env ρ σ s → allT Ts ρ σ Φ Ψ → GoT G B H A env ρ s (isTrue (.BoolOp .And es pos) env whole) Φ (PXof ρ Ψ) := by
  intro es Ts h
  induction h with
  | nil => intro B H A ρ σ s Φ Ψ C S p; exact isTrue_and_nil ⟨σ, S, .refl _ _, p⟩
  | cons h _ t ih =>
    intro B H A ρ σ s Φ Ψ C S p
    refine isTrue_and (wpAny_mono (h.t C S p) (fun b s₁ q => ?_) fun _ _ x => x)
    obtain ⟨σ₁, S₁, st₁, p₁⟩ := q
    cases b with
    | false => exact ⟨σ₁, S₁, st₁, p₁⟩
    | true => exact GoT.step st₁ (ih C S₁ p₁)
theorem snd_anyT {pos : Pos} {whole : Sem Value} : ∀ {es : List Expr} {Ts : List Tr}, SndL G n env es Ts → ∀ {B H A ρ σ s Φ Ψ}, Cx G B H A env n → St G B H env ρ σ s → anyT Ts ρ σ Φ Ψ → GoT G B H A env ρ s (isTrue (.BoolOp .Or es pos) env whole) Φ (PXof ρ Ψ) := by
  intro es Ts h
  induction h with
  | nil => intro B H A ρ σ s Φ Ψ C S p; exact isTrue_or_nil ⟨σ, S, .refl _ _, p⟩
  | cons h _ t ih =>
    intro B H A ρ σ s Φ Ψ C S p
    refine isTrue_or (wpAny_mono (h.t C S p) (fun b s₁ q => ?_) fun _ _ x => x)
    obtain ⟨σ₁, S₁, st₁, p₁⟩ := q
    cases b with
    | false => exact GoT.step st₁ (ih C S₁ p₁)
    | true => exact ⟨σ₁, S₁, st₁, p₁⟩
theorem snd_and {es : List Expr} {as : List Ex} {pos : Pos} (h : SndL G n env es (trs G n as)) : Snd G n env (.BoolOp .And es pos) (tr G n (.and_ as)) := by
  show Snd G n env _ { Tr.plain n (andV (trs G n as)) with t := allT (trs G n as) }
  exact Snd.mk' (fun C S p => snd_andL h C S p) fun C S p => snd_allT h C S p
theorem snd_or {es : List Expr} {as : List Ex} {pos : Pos} (h : SndL G n env es (trs G n as)) : Snd G n env (.BoolOp .Or es pos) (tr G n (.or_ as)) := by
  show Snd G n env _ { Tr.plain n (orV (trs G n as)) with t := anyT (trs G n as) }
  exact Snd.mk' (fun C S p => snd_orL h C S p) fun C S p => snd_anyT h C S p
theorem snd_not {e : Expr} {a : Ex} {pos : Pos} (h : Snd G n env e (tr G n a)) : Snd G n env (.UnaryOp .Not e pos) (tr G n (.not_ a)) := by
  show Snd G n env _ { Tr.plain n (fun ρ σ Φ Ψ => (tr G n a).v ρ σ (fun a σ₁ => ∃ b, truthV σ₁ a = some b ∧ Φ (.bool (!b)) σ₁) Ψ) with t := fun ρ σ Φ Ψ => (tr G n a).t ρ σ (fun b σ₁ => Φ (!b) σ₁) Ψ }
  have hv : ∀ {B H A ρ σ s Φ Ψ}, Cx G B H A env n → St G B H env ρ σ s → ((tr G n a).v ρ σ (fun a σ₁ => ∃ b, truthV σ₁ a = some b ∧ Φ (.bool (!b)) σ₁) Ψ) → Go G B H A env ρ s (eval (.UnaryOp .Not e pos) env) Φ (PXof ρ Ψ) := fun {B H A ρ σ s Φ Ψ} C S p => by
    refine UnaryOp_ (Go.after' (h.v C S p) fun v s₁ a σ₁ ra S₁ st₁ p₁ => not_of ?_)
    obtain ⟨b, e, p₁⟩ := p₁
    exact truth_ok ra e (qe S₁ st₁ (by simp [Rel]) p₁)
  refine Snd.mk' hv fun {B H A ρ σ s Φ Ψ} C S p => ?_
  exact isTrue_not (h.t C S p)
theorem snd_neg {e : Expr} {a : Ex} {pos : Pos} (h : Snd G n env e (tr G n a)) : Snd G n env (.UnaryOp .USub e pos) (tr G n (.neg a)) := by
  show Snd G n env _ (Tr.plain n _)
  refine .of_v (fun _ => rfl) fun {B H A ρ σ s Φ Ψ} C S p => ?_
  refine UnaryOp_ (Go.after' (h.v C S p) fun v s₁ a σ₁ ra S₁ st₁ p₁ => ?_)
  split at p₁
  · simp only [Rel] at ra
    obtain ⟨t, rfl⟩ := ra
    exact PyProof.Rows.neg_int (qe (S₁.tok _) (st₁.trans (Step.tok _ _ _)) (by simp [Rel]) p₁)
  · exact p₁.elim
theorem snd_sub {e i : Expr} {a b : Ex} {pos : Pos} (hs : notSlice i = true) (ha : Snd G n env e (tr G n a)) (hb : Snd G n env i (tr G n b)) : Snd G n env (.Subscript e i pos) (tr G n (.sub a b)) := by
  show Snd G n env _ (Tr.plain n _)
  refine .of_v (fun _ => rfl) fun {B H A ρ σ s Φ Ψ} C S p => ?_
  exact Subscript_ (Go.after' (ha.v C S p) fun v s₁ x σ₁ rx S₁ st₁ p₁ => Go.then st₁ (hb.v C S₁ p₁) fun u s₂ y σ₂ ry S₂ st₂ st₂' p₂ => Go.step st₂' (sub_ok hs S₂ (rx.grow st₂.grow) ry p₂))

inductive SndO (G : PG) (n : Nat) (env : Env) : Option Expr → Option Tr → Prop
  | none : SndO G n env none none
  | some {e T} : Snd G n env e T → SndO G n env (some e) (some T)
theorem snd_part {e : Option Expr} {T : Option Tr} (h : SndO G n env e T) {ρ : Loc} {σ : Sto} {s s₁ : Shared} {Φ : Option AV → Sto → Prop} {Ψ : PY} {Q : Value → Shared → Prop} (C : Cx G B H A env n) (S : St G B H env ρ σ s₁) (st : Step H s s₁) (p : optV T ρ σ Φ Ψ)
    (k : ∀ v s₂ o σ₂, RelP H s₂.heap o v → St G B H env ρ σ₂ s₂ → Step H s₁ s₂ → Step H s s₂ → Φ o σ₂ → Q v s₂) : wpAny G.M A (evalPart e env) Q (QX G B H env (PXof ρ Ψ) s) s₁ := by
  cases h with
  | none => exact wpAny_pure (k _ _ none σ rfl S (.refl _ _) st p)
  | some h => exact Go.then st (h.v C S p) fun v s₂ a σ₂ ra S₂ st₂ st₂' p₂ => k v s₂ (some a) σ₂ ra S₂ st₂ st₂' p₂
theorem RelP.grow {h h' : Heap} {o : Option AV} {v : Value} (g : Grow H h h') (r : RelP H h o v) : RelP H h' o v := by
  cases o with
  | none => exact r
  | some a => exact Rel.grow g r
theorem snd_slc {e : Expr} {lo hi : Option Expr} {a : Ex} {l u : Option Ex} {pos ps : Pos} (ha : Snd G n env e (tr G n a)) (hl : SndO G n env lo (tro G n l)) (hu : SndO G n env hi (tro G n u)) : Snd G n env (.Subscript e (.Slice lo hi none ps) pos) (tr G n (.slc a l u)) := by
  show Snd G n env _ (Tr.plain n _)
  refine .of_v (fun _ => rfl) fun {B H A ρ σ s Φ Ψ} C S p => ?_
  refine Subscript_ (Go.after' (ha.v C S p) fun v s₁ x σ₁ rx S₁ st₁ p₁ => wpAny_Slice (snd_part hl C S₁ st₁ p₁ fun vl s₂ o₂ σ₂ r₂ S₂ st₂ st₂' p₂ => snd_part hu C S₂ st₂' p₂ fun vu s₃ o₃ σ₃ r₃ S₃ st₃ st₃' p₃ => wpAny_pure ?_))
  exact wpAny_mono (slc_ok S₃ ((rx.grow st₂.grow).grow st₃.grow) (r₂.grow st₃.grow) r₃ p₃) (fun _ _ q => q.step st₃') fun _ _ q => q.step st₃'

noncomputable def noSuper : Expr → Bool
  | .Name .. => true
  | .Attribute .. => true
  | .Subscript .. => true
  | .Constant .. => true
  | .Call (.Name _ _) (_ :: _) _ _ => true
  | _ => false
theorem noSuper_eval {e : Expr} {x : Str} {w : Sem Value} (h : noSuper e = true) : attributeBase e x env w = w := by
  cases e with
  | Name _ _ => rfl
  | Attribute _ _ _ => rfl
  | Subscript _ _ _ => rfl
  | Constant _ _ _ => rfl
  | Call f as _ _ => cases f with
    | Name _ _ => cases as with
      | nil => cases h
      | cons _ _ => rfl
    | _ => cases h
  | _ => cases h
theorem snd_attr {e : Expr} {a : Ex} {x : Str} {pos : Pos} (hn : noSuper e = true) (ha : Snd G n env e (tr G n a)) : Snd G n env (.Attribute e x pos) (tr G n (.attr a x)) := by
  show Snd G n env _ (Tr.plain n _)
  refine .of_v (fun _ => rfl) fun {B H A ρ σ s Φ Ψ} C S p => ?_
  refine Attribute_any_ (Go.after' (ha.v C S p) fun v s₁ o σ₁ ro S₁ st₁ p₁ => Go.step st₁ (attr_ok C S₁ ro p₁)) ?_
  have : eval (.Attribute e x pos) env = (do
    let o ← attributeBase e x env (eval e env)
    standAt pos.atName
    let r ← holding [o] (getAttr o x true)
    letTemporaryGo e o r
    pure r) := rfl
  rw [this, noSuper_eval hn]

/-! ### rows of arguments -/
theorem snd_seq {pos : Pos} : ∀ {es : List Expr} {Ts : List Tr}, SndL G n env es Ts → ∀ {B H A ρ σ s Φ Ψ}, Cx G B H A env n → St G B H env ρ σ s → seqV Ts ρ σ Φ Ψ → GoL G B H A env ρ s (spliced (backTo pos (starEach es env))) Φ (PXof ρ Ψ) := by
  intro es Ts h
  induction h with
  | nil => intro B H A ρ σ s Φ Ψ C S p; exact wpAny_pure ⟨[], σ, .nil, S, .refl _ _, p⟩
  | cons h hs t ih =>
    intro B H A ρ σ s Φ Ψ C S p
    refine args_cons (Go.after' (h.v C S p) fun v s₁ a σ₁ ra S₁ st₁ p₁ => ?_) (starEach_cons hs)
    exact GoL.then st₁ (ih C S₁ p₁) fun vs s₂ as σ₂ rs S₂ st₂ st₂' p₂ => ⟨a :: as, σ₂, .cons (ra.grow st₂.grow) rs, S₂, st₂', p₂⟩
theorem plain_args {pos : Pos} : ∀ {es : List Expr} {Ts : List Tr}, SndL G n env es Ts → (backTo pos (starEach es env)).any (·.1) = false := by
  intro es Ts h
  induction h with
  | nil => rfl
  | cons h hs t ih =>
    rw [starEach_cons hs]
    show (false || (backTo pos (starEach _ env)).any (·.1)) = false
    rw [ih]; rfl
theorem evalArgs_ok {pos : Pos} {f : Value} {es : List Expr} {Ts : List Tr} {Q : Args → Shared → Prop} {E : Value → Shared → Prop} (h : SndL G n env es Ts) (k : wpAny G.M A (spliced (backTo pos (starEach es env))) (fun vs s' => Q ⟨vs, []⟩ s') E s) :
    wpAny G.M A (evalArgs f true (backTo pos (starEach es env)) []) Q E s := by
  cases h with
  | nil =>
    unfold evalArgs
    show wpAny G.M A (spliced [] >>= _) Q E s
    refine wpAny_bind (wpAny_mono k (fun vs s' h' => ?_) fun _ _ x => x)
    refine wpAny_bind (wpAny_pure (wpAny_holding ?_))
    exact wpAny_bind (wpAny_pure (wpAny_bind (wpAny_pure (wpAny_pure h'))))
  | cons h hs t =>
    rw [starEach_cons hs] at k ⊢
    exact Calls.evalArgs_plain k
end
end Mine
set_option maxRecDepth 100000
namespace Mine
open PySem PyProof.Rows

variable {G : PG}
section
variable {B : Heap} {H : Hid} {A : Around} {env : Env} {n : Nat} {ρ : Loc} {σ : Sto} {s s₁ : Shared} {Ψ : PX}

theorem go_newTup {vs : List AV} {ws : List Value} {Φ : PE} (S : St G B H env ρ σ s) (r : RelL H s.heap vs ws) (p : Φ (.tup vs) σ) : QE G B H env ρ Φ s (.ref s.heap.objs.size) { s with heap := s.heap.push { cls := .type "tuple", data := .seq ws.toArray } } := by
  have k : ∀ b o, s.heap.get? b = some o → (s.heap.push { cls := .type "tuple", data := .seq ws.toArray }).get? b = some o := fun b o e => Heap.get?_push_of_some _ e
  refine qe (S.push _) (.push _) (a := .tup vs) ?_ p
  simp only [Rel]
  exact ⟨s.heap.objs.size, ws.toArray, rfl, ⟨_, Heap.get?_push_size _ rfl, rfl, _, rfl⟩, S.fresh_hid, by simpa using r.grow (.of_keep k)⟩

theorem snd_tup {es : List Expr} {as : List Ex} {k : Nat} {pos : Pos} (h : SndL G n env es (trs G n as)) : Snd G n env (.Tuple es k pos) (tr G n (.tup as)) := by
  show Snd G n env _ (Tr.plain n _)
  refine .of_v (fun _ => rfl) fun {B H A ρ σ s Φ Ψ} C S p => ?_
  refine wpAny_Tuple (GoL.after (snd_seq h C S p) fun vs s₁ as σ₁ rs S₁ st₁ p₁ => ⟨by rw [rs.length]; exact p₁.1, ?_⟩)
  exact (go_newTup S₁ rs p₁.2).step st₁
theorem snd_list {es : List Expr} {as : List Ex} {pos : Pos} (h : SndL G n env es (trs G n as)) : Snd G n env (.List es pos) (tr G n (.list as)) := by
  show Snd G n env _ (Tr.plain n _)
  refine .of_v (fun _ => rfl) fun {B H A ρ σ s Φ Ψ} C S p => ?_
  show wpAny G.M A (do standAt pos; PySem.newList (← spliced (backTo pos (starEach es env)))) _ _ s
  refine wpAny_bind (wpAny_standAt (wpAny_bind (GoL.after (snd_seq h C S p) fun vs s₁ as σ₁ rs S₁ st₁ p₁ => ?_)))
  refine wpAny_newObj_type ?_ (by show vs.toArray.size ≤ sizeLine; rw [List.size_toArray, rs.length]; exact p₁.1)
  exact (go_newList (Q := fun v s' => QE G B H env ρ Φ s₁ v s') S₁ rs p₁ fun s' q _ => q).step st₁

theorem keep_ok {fa : Addr} {h : Heap} (hT : G.T B) (hk : KeepOk G fa) (X : W.Frag.In G.K h) (k : B.StaysIn h) : ∃ k, (k = Keeper.frame ∨ k = Keeper.machine ∨ k = Keeper.boundFrame) ∧ W.Looks G.M h (keeperOf (.ref fa)) k := by
  rcases hk with hk | hk
  · exact W.keeps_K hk h X
  · obtain ⟨o, fd, ho, hd⟩ := hk B hT
    refine ⟨.frame, .inl rfl, fun A Q E s k' q => ?_⟩
    unfold keeperOf
    refine wpAny_bind (wpAny_load (k' _ _ (k _ _ ho)) ?_)
    rw [hd]
    exact wpAny_pure q

/-- a global function or class is called -/
theorem snd_call {f : Str} {pf pos : Pos} {es : List Expr} {as : List Ex} (hd : (f == ("__debug__" : Str)) = false) (hn : f ≠ "__name__") (hk : env.kindOf f = some .globalImplicit) (h : SndL G n env es (trs G n as)) : Snd G n env (.Call (.Name f pf) es [] pos) (tr G n (.call f as)) := by
  show Snd G n env _ (Tr.plain n _)
  refine .of_v (fun _ => rfl) fun {B H A ρ σ s Φ Ψ} C S p => ?_
  obtain ⟨fa, hf, hke, p⟩ := p
  refine Call_ (Go.after' (go_glob (Φ := fun a σ' => a = .ref fa ∧ σ' = σ) C S hk hn pf hd (by unfold globV; rw [hf]; exact ⟨rfl, rfl⟩)) fun fv s₁ a σ₁ ra S₁ st₁ q => ?_)
  obtain ⟨rfl, rfl⟩ := q
  simp only [Rel] at ra; subst ra
  refine W.callWith_of (P := fun h => W.Frag.In G.K h ∧ B.StaysIn h) (by rw [plain_args h]; rfl) (fun h X => keep_ok C.T hke X.1 X.2) (evalArgs_ok h (GoL.then st₁ (snd_seq h C S₁ p) fun vs s₂ as σ₂ rs S₂ st₂ st₂' p₂ => ⟨⟨inK_at C S₂, S₂.keep⟩, ?_⟩))
  have := p₂ B H A env ρ s₂ vs (.ref fa) C.T C.E C.A S₂ rs (by simp [Rel])
  exact wpAny_mono this (fun _ _ q => q.step st₂') fun _ _ q => q.step st₂'

theorem boot_all : (bnames.all fun f => match bootBuiltins f with | some (.builtin _) => true | some (.type _) => true | _ => false) = true := by decide +kernel
theorem boot_kind {f : Str} (hf : f ∈ bnames) : (∃ id, bootBuiltins f = some (.builtin id)) ∨ (∃ T, bootBuiltins f = some (.type T)) := by
  have := List.all_eq_true.mp boot_all f hf
  split at this
  · rename_i id e; exact .inl ⟨id, e⟩
  · rename_i T e; exact .inr ⟨T, e⟩
  · cases this

/-- a builtin by its name: the arguments, then the call -/
theorem bi_call {f : Str} {pf pos : Pos} {es : List Expr} {Ts : List Tr} {Φ : List AV → Sto → Prop} {Ψ : PY} {Q : Value → Shared → Prop} (hb : f ∈ bnames) (hd : (f == ("__debug__" : Str)) = false) (hn : f ≠ "__name__") (hk : env.kindOf f = some .globalImplicit) (h : SndL G n env es Ts)
    (C : Cx G B H A env n) (S : St G B H env ρ σ s) (p : seqV Ts ρ σ Φ Ψ)
    (k : ∀ fv vs s₁ as σ₁, bootBuiltins f = some fv → RelL H s₁.heap as vs → St G B H env ρ σ₁ s₁ → Step H s s₁ → Φ as σ₁ → wpAny G.M A (call fv vs) Q (QX G B H env (PXof ρ Ψ) s) s₁) :
    wpAny G.M A (eval (.Call (.Name f pf) es [] pos) env) Q (QX G B H env (PXof ρ Ψ) s) s := by
  rcases boot_kind hb with ⟨id, e⟩ | ⟨T, e⟩
  · refine Call_ (Go.after' (go_glob (Φ := fun a σ' => a = .val (.builtin id) ∧ σ' = σ) C S hk hn pf hd (by unfold globV; rw [G.nob f hb]; exact ⟨_, e, rfl, rfl⟩)) fun fv s₁ a σ₁ ra S₁ st₁ q => ?_)
    obtain ⟨rfl, rfl⟩ := q
    simp only [Rel] at ra; subst ra
    exact Calls.callWith_builtin (plain_args h) (evalArgs_ok h (GoL.then st₁ (snd_seq h C S₁ p) fun vs s₂ as σ₂ rs S₂ st₂ st₂' p₂ => k _ vs s₂ as σ₂ e rs S₂ st₂' p₂))
  · refine Call_ (Go.after' (go_glob (Φ := fun a σ' => a = .val (.type T) ∧ σ' = σ) C S hk hn pf hd (by unfold globV; rw [G.nob f hb]; exact ⟨_, e, rfl, rfl⟩)) fun fv s₁ a σ₁ ra S₁ st₁ q => ?_)
    obtain ⟨rfl, rfl⟩ := q
    simp only [Rel] at ra; subst ra
    exact PyProof.Rows.callWith_type (plain_args h) (evalArgs_ok h (GoL.then st₁ (snd_seq h C S₁ p) fun vs s₂ as σ₂ rs S₂ st₂ st₂' p₂ => k _ vs s₂ as σ₂ e rs S₂ st₂' p₂))

theorem log2_small {c : Int} (h : 0 < c) (h' : c < 1000) : c.natAbs.log2 < 9000 := by
  have hq : c.natAbs ≠ 0 := by omega
  have : c.natAbs < 2 ^ 10 := by omega
  have := (Nat.log2_lt hq).mpr this
  omega
theorem rangeSize_bd {a b c : Int} (hc : 0 < c) : 0 ≤ Builtin.Range.rangeSize a b c ∧ (Builtin.Range.rangeSize a b c ≤ b - a ∨ Builtin.Range.rangeSize a b c = 0) := by
  unfold Builtin.Range.rangeSize
  rw [if_pos hc]
  split
  · have h1 : 0 ≤ (b - a - 1) / c := Int.ediv_nonneg (by first | decide | with_reducible exact lv hn | with_reducible exact lv1 hn | with_reducible exact lv2 hn | with_reducible exact Int.natCast_nonneg _ | omega) (by first | decide | with_reducible exact lv hn | with_reducible exact lv1 hn | with_reducible exact lv2 hn | with_reducible exact Int.natCast_nonneg _ | omega)
    have h2 : (b - a - 1) / c ≤ b - a - 1 := Int.ediv_le_self _ (by first | decide | with_reducible exact lv hn | with_reducible exact lv1 hn | with_reducible exact lv2 hn | with_reducible exact Int.natCast_nonneg _ | omega)
    omega
  · omega
theorem small_pos {a b c : Int} (ha : -(2 ^ 62) ≤ a) (ha' : a < 2 ^ 62) (hb : -(2 ^ 62) ≤ b) (hb' : b < 2 ^ 62) (hc : 0 < c) (hc' : c < 1000) : Builtin.Range.small a b c = true := by
  obtain ⟨h1, h2⟩ := rangeSize_bd (a := a) (b := b) hc
  unfold Builtin.Range.small
  simp only [Builtin.Range.rangeFitsLong, Bool.and_eq_true, Bool.or_eq_true, decide_eq_true_eq, beq_iff_eq, if_pos hc]
  omega

/-- a range is iterated -/
theorem range_iter {a b c : Int} {t u v : Tok} {r : Addr} {Φ : Src → Sto → Prop} (hn : 10 ≤ n) (S : St G B H env ρ σ s₁) (st : Step H s s₁) (hr : IsRange s₁.heap r a b c t u v) (hs : Builtin.Range.small a b c = true) (hc : 0 < c) (p : Φ (.vals (rangeL a b c)) σ) :
    wpAny G.M A (pyIter (.ref r)) (ItrAt G n B H env ρ s Φ) (QX G B H env Ψ s) s₁ := by
  refine wpAny_pyIter_range hr hs ⟨_, s₁.heap.objs.size, [s₁.heap.objs.size], _, σ, s₁, rfl, itr_range G n hn a b c _, S, st, fun b o e => Heap.get?_push_of_some _ e, .push _, fun b hb => by rw [mem1 hb]; exact Nat.le_refl _, ?_, p⟩
  have := (rangeSize_bd (a := a) (b := b) hc).1
  have e : ((Builtin.Range.rangeSize a b c).toNat : Int) - ((0 : Nat) : Int) = Builtin.Range.rangeSize a b c := by omega
  show IsRangeIter _ _ (a + ((0 : Nat) : Int) * c) _ c
  rw [e, show a + ((0 : Nat) : Int) * c = a by simp]
  exact Heap.get?_push_size _ rfl

theorem ne_add {m j k : Nat} (h : j ≠ k := by decide) : m + j ≠ m + k := fun e => h (Nat.add_left_cancel e)
theorem ne_add0 {m j : Nat} (h : j ≠ 0 := by decide) : m + j ≠ m := fun e => h (Nat.add_left_cancel e)
theorem ne_0add {m j : Nat} (h : j ≠ 0 := by decide) : m ≠ m + j := fun e => ne_add0 h e.symm
theorem lt_ne_add {a m k : Nat} (h : a < m) : a ≠ m + k := Nat.ne_of_lt (Nat.lt_of_lt_of_le h (Nat.le_add_right _ _))
theorem ne_lt_add {a m k : Nat} (h : a < m) : m + k ≠ a := fun e => lt_ne_add h e.symm
theorem le_eq_add {b m k : Nat} (h : b = m + k) : m ≤ b := h ▸ Nat.le_add_right _ _
theorem snd_bi {f : Str} {pf pos : Pos} {es : List Expr} {as : List Ex} (hb : f ∈ bnames) (hd : (f == ("__debug__" : Str)) = false) (hn : f ≠ "__name__") (hk : env.kindOf f = some .globalImplicit) (h : SndL G n env es (trs G n as)) : Snd G n env (.Call (.Name f pf) es [] pos) (tr G n (.bi f as)) := by
  show Snd G n env _ { Tr.plain n (fun ρ σ Φ Ψ => seqV (trs G n as) ρ σ (fun as σ₁ => biV G n f as σ₁ Φ) Ψ) with i := biI G n f (trs G n as) }
  have hv : ∀ {B H A ρ σ s Φ Ψ}, Cx G B H A env n → St G B H env ρ σ s → (seqV (trs G n as) ρ σ (fun as σ₁ => biV G n f as σ₁ Φ) Ψ) → Go G B H A env ρ s (eval (.Call (.Name f pf) es [] pos) env) Φ (PXof ρ Ψ) := fun {B H A ρ σ s Φ Ψ} C S p =>
    bi_call hb hd hn hk h C S p fun fv vs s₁ as σ₁ e rs S₁ st₁ p₁ => Go.step st₁ (bi_ok e C S₁ rs p₁)
  refine ⟨hv, (Snd.of_v (e := .Call (.Name f pf) es [] pos) (fun _ => rfl) hv).t, fun {B H A ρ σ s Φ Ψ} C S hΦ p => ?_⟩
  have p : biI G n f (trs G n as) ρ σ Φ Ψ := p
  unfold biI at p
  split at p
  · rename_i e; subst e
    refine bi_call hb hd hn hk h C S p fun fv vs s₁ as σ₁ e rs S₁ st₁ p₁ => ?_
    rw [show bootBuiltins "range" = some (.type "range") from by decide +kernel] at e; cases e
    obtain ⟨h10, p₁⟩ := p₁
    unfold rangeV at p₁
    split at p₁
    · simp only [RelL, Rel] at rs
      obtain ⟨v, _, rfl, ⟨t, rfl⟩, rfl⟩ := rs
      exact call_range_1 (range_iter h10 ((S₁.push _).tok _) ((st₁.trans (.push _)).trans (Step.tok _ _ _)) (IsRange.new _ _ _ _ _ _ _) (small_pos (by first | decide | with_reducible exact lv hn | with_reducible exact lv1 hn | with_reducible exact lv2 hn | with_reducible exact Int.natCast_nonneg _ | omega) (by first | decide | with_reducible exact lv hn | with_reducible exact lv1 hn | with_reducible exact lv2 hn | with_reducible exact Int.natCast_nonneg _ | omega) p₁.1 p₁.2.1 (by first | decide | with_reducible exact lv hn | with_reducible exact lv1 hn | with_reducible exact lv2 hn | with_reducible exact Int.natCast_nonneg _ | omega) (by first | decide | with_reducible exact lv hn | with_reducible exact lv1 hn | with_reducible exact lv2 hn | with_reducible exact Int.natCast_nonneg _ | omega)) (by first | decide | with_reducible exact lv hn | with_reducible exact lv1 hn | with_reducible exact lv2 hn | with_reducible exact Int.natCast_nonneg _ | omega) p₁.2.2)
    · simp only [RelL, Rel] at rs
      obtain ⟨v, _, rfl, ⟨t, rfl⟩, v', _, rfl, ⟨t', rfl⟩, v'', _, rfl, ⟨t'', rfl⟩, rfl⟩ := rs
      obtain ⟨q1, q2, q3, q4, q5, q6, p₁⟩ := p₁
      refine call_range_3 (by first | decide | with_reducible exact lv hn | with_reducible exact lv1 hn | with_reducible exact lv2 hn | with_reducible exact Int.natCast_nonneg _ | omega) (range_iter h10 ((S₁.push _).tok _) ((st₁.trans (.push _)).trans (Step.tok _ _ _)) (IsRange.new _ _ _ _ _ _ _) (small_pos q1 q2 q3 q4 q5 q6) q5 p₁) (.inl (PyProof.noPylong_of_log2 ?_))
      exact log2_small q5 q6
    · exact p₁.elim
  split at p
  · rename_i e; subst e
    refine bi_call hb hd hn hk h C S p fun fv vs s₁ as σ₁ e rs S₁ st₁ p₁ => ?_
    rw [show bootBuiltins "enumerate" = some (.type "enumerate") from by decide +kernel] at e; cases e
    split at p₁
    · rename_i a
      obtain ⟨h10, p₁⟩ := p₁
      obtain ⟨ws, hw⟩ := hΦ _ _ p₁
      simp only [Src.items] at hw
      split at hw
      · rename_i xs hq1
        obtain ⟨i1, m1, ho1, rl1⟩ := S₁.listAt hq1
        simp only [RelL, Rel] at rs
        obtain ⟨_, _, rfl, rfl, rfl⟩ := rs
        refine call_enumerate_list (isList_of ho1) fun h' z1 z2 z3 kk => ?_
        have l1 : @LT.lt Nat instLTNat a s₁.heap.objs.size := Heap.lt_size ho1
        refine wpAny_pyIter_enum z1 ⟨.enum a, _, _, _, σ₁, s₁, rfl, itr_enum G n h10 _ _ a ?_ ?_ ?_, S₁, st₁, kk, .keeps kk, ?_, ⟨⟨_, z1⟩, z2⟩, p₁⟩
        all_goals first
          | exact ne_add | exact ne_add0 | exact ne_0add | exact lt_ne_add l1 | exact ne_lt_add l1 | exact Nat.ne_of_lt l1 | exact Nat.ne_of_gt l1
          | exact fun q => by have q : @Eq Nat _ _ := q; omega
          | (intro b hb; simp at hb; rcases hb with q | q <;> (have q : (_ : Nat) = _ := q; show (_ : Nat) ≤ _; first | exact le_eq_add q | exact Nat.le_of_eq q.symm | omega))
      · cases hw
    · exact p₁.elim
  · exact iter_value C hΦ (hv C S p) fun a σ₁ q => q
end
end Mine
set_option maxRecDepth 100000
namespace Mine
open PySem PyProof.Rows

variable {G : PG}
section
variable {B : Heap} {H : Hid} {A : Around} {env : Env} {n : Nat} {ρ : Loc} {σ : Sto} {s s₁ : Shared}
/-- nothing is said of a term -/
noncomputable def noTr : Tr := ⟨fun _ _ _ _ => False, fun _ _ _ _ => False, fun _ _ _ _ => False⟩
theorem snd_no {e : Expr} : Snd G n env e noTr := ⟨fun _ _ p => False.elim p, fun _ _ p => False.elim p, fun _ _ _ p => False.elim p⟩
theorem range_rel {h : Heap} {N : Nat} {acc : List Value} (hl : acc.length = N) (h1 : ∀ (i : Nat) v, acc[i]? = some v → ∃ t, v = .int ((0 : Int) + i * 1) t) : RelL H h (rangeL 0 N 1) acc := by
  have hz : (rangeL 0 N 1).length = acc.length := by
    rw [hl]; unfold rangeL
    rw [List.length_map, List.length_range]
    unfold Builtin.Range.rangeSize
    rw [if_pos (by first | decide | with_reducible exact lv hn | with_reducible exact lv1 hn | with_reducible exact lv2 hn | with_reducible exact Int.natCast_nonneg _ | omega)]
    split <;> omega
  have key : ∀ (k : Nat) (xs : List AV) (ys : List Value), xs.length = ys.length → (∀ (i : Nat) a v, xs[i]? = some a → ys[i]? = some v → Rel H h a v) → RelL H h xs ys := fun k xs => by
    induction xs with
    | nil => intro ys e _; cases ys with
      | nil => exact .nil
      | cons _ _ => cases e
    | cons a xs ih => intro ys e q; cases ys with
      | nil => cases e
      | cons v ys => exact .cons (q 0 a v rfl rfl) (ih ys (Nat.succ.inj e) fun i b u => q (i + 1) b u)
  refine key 0 _ _ hz fun i a v ha hv => ?_
  obtain ⟨rfl, _⟩ := rangeL_get ha
  obtain ⟨t, rfl⟩ := h1 i v hv
  simp [Rel]
theorem snd_lrange {e : Expr} {a : Ex} {p1 p2 p3 p4 : Pos} (hs : isStar e = false) (hl : env.kindOf (Str.ofString "list") = some .globalImplicit) (hr : env.kindOf (Str.ofString "range") = some .globalImplicit) (ha : Snd G n env e (tr G n a)) :
    Snd G n env (.Call (.Name "list" p1) [.Call (.Name "range" p2) [e] [] p3] [] p4) (tr G n (.lrange a)) := by
  show Snd G n env _ (Tr.plain n _)
  refine .of_v (fun _ => rfl) fun {B H A ρ σ s Φ Ψ} C S p => ?_
  have bl : Str.ofString "list" ∈ bnames := by decide
  have br : Str.ofString "range" ∈ bnames := by decide
  refine Call_ (Go.after' (go_glob (Φ := fun a σ' => a = .val (.type "list") ∧ σ' = σ) C S hl (by decide) p1 (by decide) (by unfold globV; rw [G.nob _ bl]; exact ⟨_, by decide +kernel, rfl, rfl⟩)) fun fv s₁ a' σ₁ ra S₁ st₁ q => ?_)
  obtain ⟨rfl, rfl⟩ := q
  simp only [Rel] at ra; subst ra
  have F : SndL G n env [.Call (.Name "range" p2) [e] [] p3] [noTr] := .cons snd_no rfl .nil
  refine PyProof.Rows.callWith_type (plain_args F) (evalArgs_ok F (args_cons ?_ (starEach_cons rfl)))
  have I : SndL G n env [e] [tr G n a] := .cons ha hs .nil
  refine wpAny_mono (bi_call (Ts := [tr G n a]) (Φ := fun as σ₂ => arg1 as fun a => ∃ N : Nat, a = .int N ∧ 10 ≤ n ∧ N ≤ 100000 ∧ newList σ₂ (rangeL 0 N 1) Φ) (Ψ := Ψ) (ρ := ρ) (Q := fun v s₃ => wpAny G.M A (call (.type "list") [v]) (QE G B H env ρ Φ s₁) (QX G B H env (PXof ρ Ψ) s₁) s₃) br (by decide) (by decide) hr I C S₁ p fun fv vs s₂ as σ₂ ef rs S₂ st₂ p₂ => ?_) (fun v s₃ q => ?_) fun _ _ x => x.step st₁
  · rw [show bootBuiltins (Str.ofString "range") = some (.type "range") from by decide +kernel] at ef; cases ef
    obtain ⟨x, rfl, N, rfl, h10, hN, hnew⟩ := arg1_of p₂
    simp only [RelL, Rel] at rs
    obtain ⟨v, _, rfl, ⟨t, rfl⟩, rfl⟩ := rs
    refine call_range_1 ?_
    have S₃ := (S₂.push (o := { cls := .type "range", data := .fields #[.int 0 s₂.toks, .int (N : Int) t, .int 1 (s₂.toks + 1)] })).tok (s₂.toks + 1 + 1)
    refine call_list_range (hand_none C h10) (IsRange.new _ _ _ _ _ _ _) (small_pos (by first | decide | with_reducible exact lv hn | with_reducible exact lv1 hn | with_reducible exact lv2 hn | with_reducible exact Int.natCast_nonneg _ | omega) (by first | decide | with_reducible exact lv hn | with_reducible exact lv1 hn | with_reducible exact lv2 hn | with_reducible exact Int.natCast_nonneg _ | omega) (by first | decide | with_reducible exact lv hn | with_reducible exact lv1 hn | with_reducible exact lv2 hn | with_reducible exact Int.natCast_nonneg _ | omega) (by first | decide | with_reducible exact lv hn | with_reducible exact lv1 hn | with_reducible exact lv2 hn | with_reducible exact Int.natCast_nonneg _ | omega) (by first | decide | with_reducible exact lv hn | with_reducible exact lv1 hn | with_reducible exact lv2 hn | with_reducible exact Int.natCast_nonneg _ | omega) (by first | decide | with_reducible exact lv hn | with_reducible exact lv1 hn | with_reducible exact lv2 hn | with_reducible exact Int.natCast_nonneg _ | omega)) (n := N) ?_ (by first | decide | with_reducible exact lv hn | with_reducible exact lv1 hn | with_reducible exact lv2 hn | with_reducible exact Int.natCast_nonneg _ | omega) fun h' tk acc' c' hk hS' hacc => ?_
    · unfold Builtin.Range.rangeSize
      rw [if_pos (by first | decide | with_reducible exact lv hn | with_reducible exact lv1 hn | with_reducible exact lv2 hn | with_reducible exact Int.natCast_nonneg _ | omega)]
      split <;> omega
    · have S₄ := S₃.new (s' := { s₂ with heap := h', toks := tk }) hk (Nat.le_refl _) (c := .list (rangeL 0 N 1)) ⟨acc', c', hS', range_rel (by rw [Array.length_toList]; exact hacc.1) fun i v hv => by
        obtain ⟨t, e⟩ := hacc.2 i v (by rw [Array.getElem?_toList] at hv; exact hv)
        exact ⟨t, e⟩⟩
      have st₄ : Step H s₂ { s₂ with heap := h', toks := tk } := .keeps fun b o e => hk b o (Heap.get?_push_of_some _ e)
      exact ⟨_, _, by simp [Rel], S₄, st₂.trans st₄, hnew.2 _ (S₃.fresh (Nat.le_refl _))⟩
  · exact wpAny_pure (wpAny_mono q (fun _ _ x => x.step st₁) fun _ _ x => x.step st₁)
end
end Mine
set_option maxRecDepth 100000
namespace Mine
open PySem PyProof.Rows

variable {G : PG}
section
variable {B : Heap} {H : Hid} {A : Around} {env : Env} {n : Nat} {ρ : Loc} {σ : Sto} {s s₁ : Shared}

/-! ### methods -/
theorem few_of {pos : Pos} : ∀ {es : List Expr} {Ts : List Tr}, SndL G n env es Ts → (backTo pos (starEach es env)).all (fun x => !x.1) = true := by
  intro es Ts h
  induction h with
  | nil => rfl
  | cons h hs t ih =>
    rw [starEach_cons hs]
    show (!false && (backTo pos (starEach _ env)).all (fun x => !x.1)) = true
    rw [ih]; rfl
theorem meth_eval {o : Expr} {name : Str} {apos pos : Pos} {es : List Expr} {Ts : List Tr} (h : SndL G n env es Ts) (hn : noSuper o = true) (h30 : es.length < 30) (hl : (apos.endLine == pos.line) = true) :
    eval (.Call (.Attribute o name apos) es [] pos) env = (do
      let ov ← eval o env
      standAt apos.atName
      let (f, first) ← holding [ov] (getMethod ov name (do return (← importBound o env).getD true))
      callWith pos f first (backTo pos (starEach es env)) []) := by
  have e : eval (.Call (.Attribute o name apos) es [] pos) env = (do
      let ov ← attributeBase o name env (eval o env)
      standAt apos.atName
      methodCall o name apos pos env ov (es.length + 0) (backTo pos (starEach es env)) []) := rfl
  have few : methodCallForm (es.length + 0) (backTo pos (starEach es env)) [] = true := by
    unfold methodCallForm
    rw [few_of h]
    simp [h30]
  rw [e, noSuper_eval hn]
  unfold methodCall calleeOf methodCallPos
  rw [few, hl]
  rfl

theorem list_method {l : Addr} {items : Array Value} {m : Nat} {name : Str} {pl : Sem Bool} {Q : Value × List Value → Shared → Prop} {E : Value → Shared → Prop} (ho : s.heap.get? l = some ⟨.type "list", none, .seq items m, #[]⟩) (hm : name = "append" ∨ name = "pop" ∨ name = "clear") :
    ∃ id : String, (name = "append" → id = "list.append") ∧ (name = "pop" → id = "list.pop") ∧ (name = "clear" → id = "list.clear") ∧ (Q (.builtin id, [.ref l]) s → wpAny G.M A (getMethod (.ref l) name pl) Q E s) := by
  have nd : s.heap.NoDictAt (.ref l) := ⟨_, ho, rfl⟩
  rcases hm with rfl | rfl | rfl
  · exact ⟨"list.append", fun _ => rfl, fun z => absurd z (by decide), fun z => absurd z (by decide), fun q => getMethod_list_of PySem.F.slot_list_append PySem.F.type_list_append (isList_of ho) nd q⟩
  · exact ⟨"list.pop", fun z => absurd z (by decide), fun _ => rfl, fun z => absurd z (by decide), fun q => getMethod_list_of PySem.F.slot_list_pop PySem.F.type_list_pop (isList_of ho) nd q⟩
  · exact ⟨"list.clear", fun z => absurd z (by decide), fun z => absurd z (by decide), fun _ => rfl, fun q => getMethod_list_of PySem.F.slot_list_clear PySem.F.type_list_clear (isList_of ho) nd q⟩

theorem snd_meth {o : Expr} {name : Str} {apos pos : Pos} {es : List Expr} {a : Ex} {as : List Ex} (hn : noSuper o = true) (h30 : es.length < 30) (hl : (apos.endLine == pos.line) = true) (ho : Snd G n env o (tr G n a)) (h : SndL G n env es (trs G n as)) :
    Snd G n env (.Call (.Attribute o name apos) es [] pos) (tr G n (.meth a name as)) := by
  show Snd G n env _ (Tr.plain n _)
  refine .of_v (fun _ => rfl) fun {B H A ρ σ s Φ Ψ} C S p => ?_
  refine MethodCall_ (Go.after' (ho.v C S p) fun ov s₁ x σ₁ rx S₁ st₁ p₁ => ?_) (meth_eval h hn h30 hl)
  unfold methV at p₁
  split at p₁
  · rename_i x
    simp only [Rel] at rx; subst rx
    split at p₁
    · rename_i C' d hx
      split at p₁
      · rename_i m hd
        obtain ⟨f, q1, q2, q3, q4, q5, p₁⟩ := p₁
        obtain ⟨es', k, I, _, r⟩ := inst_at S₁ hx hd
        have L := ent_look name r
        rw [q1] at L
        obtain ⟨g1, g2⟩ := W.plainGet_of q2
        refine W.method_fn (inK_at C S₁) I g1 g2 q3 (by unfold W.isFn at q4; simpa using q4) ?_ ?_
        · show (W.lookIn name (W.dictOf es' k)).map (·.isSome) = some false
          rw [W.lookIn_dict, L]; rfl
        · refine W.callWith_of (P := fun h => W.Frag.In G.K h) (by rw [plain_args h]; rfl) (fun h X => W.keeps_K q5 h X) (evalArgs_ok h (GoL.then st₁ (snd_seq h C S₁ p₁) fun vs s₂ as σ₂ rs S₂ st₂ st₂' p₂ => ⟨inK_at C S₂, ?_⟩))
          have := p₂ B H A env ρ s₂ (.ref x :: vs) (.ref f) C.T C.E C.A S₂ (.cons (by simp [Rel]) rs) (by simp [Rel])
          exact wpAny_mono this (fun _ _ q => q.step st₂') fun _ _ q => q.step st₂'
      · exact p₁.elim
    · rename_i ws hx
      obtain ⟨hm, p₁⟩ := p₁
      obtain ⟨items, m, hob, rl⟩ := S₁.listAt (lstOf_list hx)
      obtain ⟨id, i1, i2, i3, gm⟩ := list_method (G := G) (A := A) (name := name) (pl := (do return (← importBound o env).getD true)) (Q := fun fx s₂ => wpAny G.M A (callWith pos fx.1 fx.2 (backTo pos (starEach es env)) []) (QE G B H env ρ Φ s) (QX G B H env (PXof ρ Ψ) s) s₂) (E := QX G B H env (PXof ρ Ψ) s) hob hm
      refine gm (Calls.callWith_builtin (plain_args h) (evalArgs_ok h (GoL.then st₁ (snd_seq h C S₁ p₁) fun vs s₂ as σ₂ rs S₂ st₂ st₂' p₂ => ?_)))
      show wpAny G.M A (call (.builtin id) (.ref x :: vs)) _ _ s₂
      split at p₂
      · rename_i us hx2
        unfold listM at p₂
        split at p₂
        · rename_i e; rw [i1 e]
          split at p₂
          · simp only [RelL] at rs
            obtain ⟨v, _, rfl, r1, rfl⟩ := rs
            exact append_ok S₂ hx2 r1 (Nat.le_of_lt p₂.1) fun s' S' st' => qe S' (st₂'.trans st') (by simp [Rel]) p₂.2
          · exact p₂.elim
        split at p₂
        · rename_i e; rw [i2 e]
          split at p₂
          · simp only [RelL, Rel] at rs
            obtain ⟨v, _, rfl, ⟨t, rfl⟩, rfl⟩ := rs
            obtain ⟨w, c1, c2, c3, c4, c5, c6⟩ := p₂
            exact pop_ok S₂ hx2 c1 c2 c3 c5 c4 fun s' v S' st' rv => qe S' (st₂'.trans st') rv c6
          · exact p₂.elim
        split at p₂
        · rename_i e; rw [i3 e]
          split at p₂
          · simp only [RelL] at rs; subst rs
            exact clear_ok S₂ hx2 p₂.1 fun s' S' st' => qe S' (st₂'.trans st') (by simp [Rel]) p₂.2
          · exact p₂.elim
        · exact p₂.elim
      · exact p₂.elim
    · exact p₁.elim
  · rename_i x
    simp only [Rel] at rx
    obtain ⟨t, rfl⟩ := rx
    rcases p₁ with ⟨rfl, p₁⟩ | p₁
    · refine GM.join (Calls.callWith_builtin (plain_args h) (evalArgs_ok h (GoL.then st₁ (snd_seq h C S₁ p₁) fun vs s₂ as σ₂ rs S₂ st₂ st₂' p₂ => ?_)))
      show wpAny G.M A (call (.builtin "str.join") (.str x t :: vs)) _ _ s₂
      obtain ⟨a, rfl, p₂⟩ := arg1_of p₂
      obtain ⟨l, ws, rfl, hl, ts, rfl, hok, p₂⟩ := onLst_of p₂
      simp only [RelL, Rel] at rs
      obtain ⟨v, _, rfl, rfl, rfl⟩ := rs
      exact wpAny_mono (join_ok S₂ hl hok p₂) (fun _ _ q => q.step st₂') fun _ _ q => q.step st₂'
    obtain ⟨rfl, p₁⟩ := p₁
    refine GM.split (Calls.callWith_builtin (plain_args h) (evalArgs_ok h (GoL.then st₁ (snd_seq h C S₁ p₁) fun vs s₂ as σ₂ rs S₂ st₂ st₂' p₂ => ?_)))
    show wpAny G.M A (call (.builtin "str.split") (.str x t :: vs)) _ _ s₂
    split at p₂
    · simp only [RelL, Rel] at rs
      obtain ⟨v, _, rfl, ⟨t', rfl⟩, rfl⟩ := rs
      exact wpAny_mono (split_ok S₂ p₂.1 p₂.2.1 p₂.2.2) (fun _ _ q => q.step st₂') fun _ _ q => q.step st₂'
    · exact p₂.elim
  · exact p₁.elim

/-! ### comprehensions -/
theorem tests_ok : ∀ {es : List Expr} {Ts : List Tr}, SndL G n env es Ts → ∀ {B H A ρ σ s Φ Ψ}, Cx G B H A env n → St G B H env ρ σ s → allT Ts ρ σ Φ Ψ →
    GoT G B H A env ρ s (forIn es true fun c r => if r = true then do let ok ← isTrue c env (eval c env); pure (ForInStep.yield ok) else pure (ForInStep.yield r)) Φ (PXof ρ Ψ) := by
  intro es Ts h
  induction h with
  | nil => intro B H A ρ σ s Φ Ψ C S p; exact wpAny_pure ⟨σ, S, .refl _ _, p⟩
  | @cons _ es _ _ h _ t ih =>
    intro B H A ρ σ s Φ Ψ C S p
    rw [List.forIn_cons]
    have off : ∀ (l : List Expr), (forIn l false fun c r => if r = true then do let ok ← isTrue c env (eval c env); pure (ForInStep.yield ok) else pure (ForInStep.yield r) : Sem Bool) = pure false := by
      intro l
      induction l with
      | nil => rfl
      | cons c l ih => rw [List.forIn_cons]; simp only [Bool.false_eq_true, if_false, pure_bind]; exact ih
    simp only [if_true]
    refine wpAny_bind (wpAny_bind (wpAny_mono (h.t C S p) (fun b s₁ q => ?_) fun _ _ x => x))
    obtain ⟨σ₁, S₁, st₁, p₁⟩ := q
    refine wpAny_pure ?_
    cases b with
    | false => dsimp only; rw [off es]; exact wpAny_pure ⟨σ₁, S₁, st₁, p₁⟩
    | true => exact GoT.step st₁ (ih C S₁ p₁)

noncomputable def notSet : Expr → Bool
  | .Set .. => false
  | _ => true
theorem notSet_iter {e : Expr} (h : notSet e = true) (x : Value) : foldedSetIterable e env x = pure x := by
  cases e <;> first | rfl | cases h

/-- the comprehension, whatever becomes of it -/
theorem comp_core {x : Str} {px pos fpos : Pos} {elt iter : Expr} {ifs : List Expr} {cs : Scope} {eT iT : Tr} {fT : List Tr} {use : Option (Value → Sem Unit)} {Φ : PE} {Ψ : PY} {Q : Value → Shared → Prop}
    (Sc : CompScope env.scope cs x) (hset : notSet iter = true) (hf : env.frame = some env.locals) (nd : env.cells.Pairwise fun x y => x.2 ≠ y.2)
    (hi : Snd G n env iter iT) (he : ∀ cenv : Env, cenv.scope = relabelS cs env.scope → Snd G n cenv elt eT) (ht : ∀ cenv : Env, cenv.scope = relabelS cs env.scope → SndL G n cenv ifs fT)
    (C : Cx G B H A env n) (S : St G B H env ρ σ s) (p : compV eT x iT fT ρ σ Φ Ψ)
    (post : ∀ D C s₁ σ₁, St G B (hidN H [C] s₁.heap) env ρ σ₁ s₁ → Step H s s₁ → (∃ m, s₁.heap.Ns C m) → NOk B H env [C] → There [C] s₁.heap → Φ (.ref D) σ₁ → compPost G.M A (QX G B H env (PXof ρ Ψ) s) use Q (.ref D) C (.ok .next) s₁) :
    wpAny G.M A (comprehension (.ListComp elt [⟨.Name x px, iter, ifs, 0⟩] cs pos) cs env fpos (PySem.newList []) false (eval iter env) use) Q (QX G B H env (PXof ρ Ψ) s) s := by
  have hcl : closureFor cs env = pure (clOf env cs.names []) := closureFor_cl fun y hy hk => by
    obtain ⟨c, v, e1, _⟩ := S.frame.cells y.1 (.inl (Sc.free y hy hk).1)
    exact ⟨c, e1⟩
  refine wpAny_comprehension_free rfl (notSet_iter hset) hcl Sc.kind (fun y hy hk => (Sc.loc y hy hk).2) ?_
  refine wpAny_mono (hi.i C S (fun src σ q => by obtain ⟨_, vs, h, _⟩ := q; exact ⟨vs, h⟩) p) (fun xv s₁ w => wpAny_mono w (fun itv s₂ q => ?_) fun _ _ x => x) fun _ _ x => x
  obtain ⟨src, it, N, J, σ₁, sm, rfl, I0, Sm, stm, km, st₂, fN, j0, hpair, vs, hvs, I, i0, iv, turn, fin⟩ := q
  refine wpAny_newObj_type (wpAny_newFunctionEnv Sc.cell (by intro y hy; simp at hy) (fun h₁ hns₁ hsb₁ => ?_) Sc.kind)
  dsimp only at hns₁ hsb₁ ⊢
  generalize hH2 : s₂.heap.push { cls := .type "list", dict := none, data := .seq ([] : List Value).toArray } = H2 at hns₁ hsb₁ ⊢
  have hC : H2.objs.size = s₂.heap.objs.size + 1 := by rw [← hH2, Heap.size_push]
  have old : ∀ b o, s₂.heap.get? b = some o → h₁.get? b = some o := fun b o e => hsb₁.extBut b o (fun z => by
    have l : @LT.lt Nat instLTNat b s₂.heap.objs.size := Heap.lt_size e
    have z : @Eq Nat b H2.objs.size := z
    omega) (Heap.get?_push_of_some _ (hH2 ▸ Heap.get?_push_of_some _ e))
  have nlt : ∀ b ∈ N, @LT.lt Nat instLTNat b s₂.heap.objs.size := fun b hb => by
    obtain ⟨o, e, _⟩ := I0.there _ _ j0 b hb
    exact Heap.lt_size e
  have sle : @LE.le Nat instLENat sm.heap.objs.size s₂.heap.objs.size := Nat.le_trans (fN it I0.mem) (Nat.le_of_lt (nlt it I0.mem))
  have hDC : s₂.heap.objs.size ≠ H2.objs.size := by rw [hC]; exact Nat.ne_of_lt (Nat.lt_succ_self _)
  have hcore : ∀ (s₃ : Shared), s₃ = { s₂ with heap := h₁, toks := s₂.toks + ([] : List (Str × Value)).length } → codeAny G.M A (.compLoop (.ListComp elt [⟨.Name x px, iter, ifs, 0⟩] cs pos) 0 (.ref it) (.ref s₂.heap.objs.size) (compEnvC cs (clOf env cs.names []) H2.objs.size env))
      (compPost G.M A (QX G B H env (PXof ρ Ψ) s) use Q (.ref s₂.heap.objs.size) H2.objs.size) s₃ := by
    rintro s₃ rfl
    refine comp_loop (s₀ := sm) (eT := eT) (iT := fT) (ΦE := Φ) (vs := vs) I0 hpair Sc (fun cenv e ρ σ Φ p B H A s T E A' S => ?_) (fun cenv e ρ σ Φ p B H A s T E A' S => ?_) C hf nd Sm (fun b o e => old b o (km b o e)) (st₂.trans (.keeps old)) ?_ ?_ ?_ ?_ ?_ ?_ ?_ I i0 iv turn fin fun s₅ σ₅ S₅ st₅ m₅ q₅ t₅ p₅ => post _ _ s₅ σ₅ S₅ (stm.trans st₅) m₅ q₅ t₅ p₅
    · exact wpAny_mono ((he cenv e).v ⟨T, E, A'⟩ S p) (fun _ _ q => q) fun _ _ q => by obtain ⟨_, _, _, _, _, _, _, _, _, z⟩ := q; exact z.elim
    · exact wpAny_mono (tests_ok (ht cenv e) ⟨T, E, A'⟩ S p) (fun _ _ q => q) fun _ _ q => by obtain ⟨_, _, _, _, _, _, _, _, _, z⟩ := q; exact z.elim
    · intro b hb
      rcases List.mem_cons.mp hb with e | hb
      · have e : @Eq Nat b H2.objs.size := e
        show @LE.le Nat instLENat _ _
        omega
      · rcases List.mem_cons.mp hb with e | hb
        · have e : @Eq Nat b s₂.heap.objs.size := e
          show @LE.le Nat instLENat _ _
          omega
        · exact fN b hb
    · exact hDC.symm
    · intro hm
      have := nlt _ hm
      omega
    · intro hm
      have := nlt _ hm
      omega
    · exact I0.frame _ _ _ j0 fun b _ o e => old b o e
    · exact ⟨_, hsb₁.extBut _ _ hDC (Heap.get?_push_of_some _ (hH2 ▸ Heap.get?_push_size _ rfl))⟩
    · exact hns₁
  exact codeAny_compStart_list (hcore _ rfl) (I0.self (I0.frame _ _ _ j0 fun b _ o e => old b o e) (hcore _ rfl))

theorem grow_ns {h h' : Heap} {K : Addr} {m : Str → Option Value} (hm : h.Ns K m) (hs : Heap.SameBut K h h') : Grow H h h' := by
  obtain ⟨o, es, ep, ho, hd, _⟩ := hm
  exact .of_keepBut (fun b o nb e => hs.extBut b o nb e) (fun items ⟨o', ho', _, _, hd'⟩ => by rw [ho] at ho'; cases ho'; rw [hd] at hd'; cases hd') fun o' vs ho' hd' => by rw [ho] at ho'; cases ho'; rw [hd] at hd'; cases hd'

theorem snd_comp {x : Str} {px pos : Pos} {elt iter : Expr} {ifs : List Expr} {cs : Scope} {a b : Ex} {cs' : List Ex}
    (Sc : CompScope env.scope cs x) (hset : notSet iter = true) (hf : env.frame = some env.locals) (nd : env.cells.Pairwise fun x y => x.2 ≠ y.2)
    (hi : Snd G n env iter (tr G n b)) (he : ∀ cenv : Env, cenv.scope = relabelS cs env.scope → Snd G n cenv elt (tr G n a)) (ht : ∀ cenv : Env, cenv.scope = relabelS cs env.scope → SndL G n cenv ifs (trs G n cs')) :
    Snd G n env (.ListComp elt [⟨.Name x px, iter, ifs, 0⟩] cs pos) (tr G n (.comp a x b cs')) := by
  show Snd G n env _ (Tr.plain n _)
  refine .of_v (fun _ => rfl) fun {B H A ρ σ s Φ Ψ} C S p => ?_
  rw [eval_ListComp]
  refine comp_core Sc hset hf nd hi he ht C S p fun D K s₁ σ₁ S₁ st₁ m₁ q₁ t₁ p₁ => ?_
  obtain ⟨m, hm⟩ := m₁
  refine ⟨m, hm, fun h' hs => ?_⟩
  obtain ⟨S₂, g₂⟩ := St.leave (s₁ := { s₁ with heap := h' }) q₁ t₁ S₁ (fun b o hb e => hs.extBut b o (notMem1 hb) e) t₁
  exact qe S₂ (st₁.trans ⟨grow_ns hm hs, rfl, rfl⟩) (by simp [Rel]) p₁

/-- the comprehension's list is bound at once -/
theorem asg_comp_ok {x y : Str} {px py pos spos : Pos} {elt iter : Expr} {ifs : List Expr} {cs : Scope} {a b : Ex} {cs' : List Ex} {Φ : PS} {Ψ : PX}
    (hsw : swapsWith (.ListComp elt [⟨.Name x px, iter, ifs, 0⟩] cs pos) (some (.Name y py)) spos.line env = pure true)
    (Sc : CompScope env.scope cs x) (hset : notSet iter = true) (hy : isLoc env.scope y) (F : FrameOk B H env)
    (hi : Snd G n env iter (tr G n b)) (he : ∀ cenv : Env, cenv.scope = relabelS cs env.scope → Snd G n cenv elt (tr G n a)) (ht : ∀ cenv : Env, cenv.scope = relabelS cs env.scope → SndL G n cenv ifs (trs G n cs'))
    (C : Cx G B H A env n) (S : St G B H env ρ σ s) (p : compV (tr G n a) x (tr G n b) (trs G n cs') ρ σ (fun v σ₁ => Φ .next (putA y v ρ) σ₁) (fun c σ₁ => Ψ c ρ σ₁)) :
    wpAny G.M A (exec (.Assign [.Name y py] (.ListComp elt [⟨.Name x px, iter, ifs, 0⟩] cs pos) spos) env) (fun f s' => ∃ fl ρ' σ', RelF H s'.heap fl f ∧ St G B H env ρ' σ' s' ∧ Step H s s' ∧ Φ fl ρ' σ') (QX G B H env Ψ s) s := by
  rw [exec_Assign_Name_used _ _ _ _ hsw]
  refine wpAny_bind (wpAny_standAt (wpAny_bind ?_))
  have key := comp_core (use := some (assign (.Name y py) env)) (fpos := iter.pos) (px := px) (pos := pos) (Q := fun _ s' => ∃ fl ρ' σ', RelF H s'.heap fl Flow.next ∧ St G B H env ρ' σ' s' ∧ Step H s s' ∧ Φ fl ρ' σ') Sc hset F.fr F.nodup hi he ht C S p fun D K s₁ σ₁ S₁ st₁ m₁ q₁ t₁ p₁ => ?_
  · show wpAny G.M A (do let _ ← comprehension (.ListComp elt [⟨.Name x px, iter, ifs, 0⟩] cs pos) cs env iter.pos (PySem.newList []) false (eval iter env) (some (assign (.Name y py) env))) _ _ s
    refine wpAny_bind (wpAny_mono key (fun _ s' q => wpAny_pure (wpAny_pure q)) fun e s' q => ?_)
    obtain ⟨ea, cls, ρ', σ', rfl, f, S', st', rfl, p'⟩ := q
    exact ⟨ea, cls, _, σ', rfl, f, S', st', p'⟩
  · obtain ⟨m, hm⟩ := m₁
    show wpAny G.M A (assign (.Name y py) env (.ref D)) _ _ s₁
    refine assign_name_ok (F.hidN q₁) hy S₁ (a := .ref D) (by simp [Rel]) fun s₂ S₂ st₂ => ?_
    obtain ⟨o, es, ep, ho, hd, hr⟩ := hm
    obtain ⟨sl, h1, _⟩ := S₂.hid K o (by rw [hidN_of (.head _)]; exact ho)
    have hm₂ : s₂.heap.Ns K m := ⟨_, es, ep, h1, hd, hr⟩
    refine ⟨m, hm₂, fun h' hs => ?_⟩
    have t₂ := t₁.after S₂
    obtain ⟨S₃, g₃⟩ := St.leave (s₁ := { s₂ with heap := h' }) q₁ t₁ S₂ (fun b o hb e => hs.extBut b o (notMem1 hb) e) t₂
    have g₂ : Grow H s₁.heap s₂.heap := ⟨fun c items z w => st₂.grow.tup c items (by
        rw [hidN_ne]; exact z
        intro q; rw [mem1 q] at w
        obtain ⟨o', ho', _, _, hd'⟩ := w
        rw [ho] at ho'; cases ho'; rw [hd] at hd'; cases hd') w, st₂.grow.recs⟩
    exact ⟨.next, _, _, rfl, S₃, (st₁.trans ⟨g₂, st₂.gens, st₂.os⟩).trans ⟨grow_ns hm₂ hs, rfl, rfl⟩, p₁⟩
end
end Mine
set_option maxRecDepth 100000
namespace Mine
open PySem PyProof.Rows

variable {G : PG}
theorem stored_cons {K : Type} [DecidableEq K] {j k : K} {u v : Value} {r : List (K × Value)} (hn : j ∉ r.map (·.1)) : stored ((j, u) :: r) k v = if j = k then (j, v) :: r else (j, u) :: stored r k v := by
  unfold stored
  by_cases q : j = k
  · subst q
    have e : r.map (fun kv => if kv.1 = j then (kv.1, v) else kv) = r := by
      conv => rhs; rw [← List.map_id r]
      apply List.map_congr_left
      intro kv hkv
      rw [if_neg (fun z : kv.1 = j => hn (List.mem_map.mpr ⟨kv, hkv, z⟩))]; rfl
    simp [e]
  · simp only [List.any_cons, q, decide_false, Bool.false_or, if_false, List.map_cons]
    split <;> rfl
theorem put_stored {K : Type} [DecidableEq K] {H : Hid} {h : Heap} {k : K} {a : AV} {v : Value} (ra : Rel H h a v) : ∀ {vs : List (K × Value)} {kvs : List (K × AV)}, (vs.map (·.1)).Nodup → vs.map (·.1) = kvs.map (·.1) → RelL H h (kvs.map (·.2)) (vs.map (·.2)) →
    (stored vs k v).map (·.1) = (putI k a kvs).map (·.1) ∧ RelL H h ((putI k a kvs).map (·.2)) ((stored vs k v).map (·.2))
  | [], [], _, _, _ => ⟨rfl, .one ra⟩
  | [], _ :: _, _, e, _ => by simp at e
  | _ :: _, [], _, e, _ => by simp at e
  | (j, u) :: vs, (j', b) :: kvs, nd, e, r => by
    simp only [List.map_cons, List.cons.injEq] at e
    obtain ⟨rfl, e⟩ := e
    simp only [List.map_cons, List.nodup_cons] at nd
    simp only [List.map_cons, RelL] at r
    obtain ⟨_, _, z, r1, r2⟩ := r
    cases z
    rw [stored_cons nd.1]
    unfold putI
    by_cases q : j = k
    · rw [if_pos q, if_pos q]
      exact ⟨by simp [e], .cons ra r2⟩
    · rw [if_neg q, if_neg q]
      obtain ⟨i1, i2⟩ := put_stored ra nd.2 e r2
      exact ⟨by simp [i1], .cons r1 i2⟩
theorem putI_keys {K : Type} [DecidableEq K] (k : K) (a : AV) : ∀ kvs : List (K × AV), (kvs.map (·.1)).Nodup → ((putI k a kvs).map (·.1)).Nodup ∧ ∀ x, x ∈ (putI k a kvs).map (·.1) → x = k ∨ x ∈ kvs.map (·.1)
  | [], _ => ⟨by simp [putI], fun x hx => by simp [putI] at hx; exact .inl hx⟩
  | (j, u) :: r, nd => by
    simp only [List.map_cons, List.nodup_cons] at nd
    unfold putI
    by_cases q : j = k
    · rw [if_pos q]
      exact ⟨by simpa using nd, fun x hx => .inr (by simpa using hx)⟩
    · rw [if_neg q]
      obtain ⟨i1, i2⟩ := putI_keys k a r nd.2
      refine ⟨?_, fun x hx => ?_⟩
      · simp only [List.map_cons, List.nodup_cons]
        exact ⟨fun z => (i2 j z).elim q nd.1, i1⟩
      · simp only [List.map_cons, List.mem_cons] at hx ⊢
        rcases hx with hx | hx
        · exact .inr (.inl hx)
        · exact (i2 x hx).imp id .inr
theorem put_merged {K : Type} [DecidableEq K] {H : Hid} {h : Heap} : ∀ (ks : List K) (as : List AV) (ws : List Value) {vs : List (K × Value)} {kvs : List (K × AV)}, ks.length = as.length → RelL H h as ws → (vs.map (·.1)).Nodup → vs.map (·.1) = kvs.map (·.1) → RelL H h (kvs.map (·.2)) (vs.map (·.2)) →
    (merged vs (ks.zip ws)).map (·.1) = (putAll ks as kvs).map (·.1) ∧ RelL H h ((putAll ks as kvs).map (·.2)) ((merged vs (ks.zip ws)).map (·.2))
  | [], [], ws, vs, kvs, _, r, nd, e, q => by simp only [RelL] at r; subst r; exact ⟨by simpa [merged, putAll] using e, by simpa [merged, putAll] using q⟩
  | [], _ :: _, _, _, _, z, _, _, _, _ => by simp at z
  | _ :: _, [], _, _, _, z, _, _, _, _ => by simp at z
  | k :: ks, a :: as, ws, vs, kvs, z, r, nd, e, q => by
    simp only [RelL] at r
    obtain ⟨w, ws, rfl, r1, r2⟩ := r
    obtain ⟨i1, i2⟩ := put_stored (k := k) r1 nd e q
    have nd' : ((stored vs k w).map (·.1)).Nodup := by rw [i1]; exact (putI_keys k a kvs (e ▸ nd)).1
    have := put_merged ks as ws (vs := stored vs k w) (kvs := putI k a kvs) (by simpa using z) r2 nd' i1 i2
    simpa [merged, putAll] using this

/-- the keys of a display -/
noncomputable def keyTs {K : Type} (enc : K → Const) : List (Option Expr) → List K → Prop
  | [], [] => True
  | some (.Constant c _ _) :: r, k :: ks => c = enc k ∧ keyTs enc r ks
  | _, _ => False

section
variable {B : Heap} {H : Hid} {A : Around} {env : Env} {n : Nat} {ρ : Loc} {σ : Sto} {s s₁ : Shared} {Ψ : PX}
/-- the pairs of a display -/
theorem pairs_ok {K : Type} [DecidableEq K] {knd : KeyKind G.prog G.w K} {enc : K → Const} {pos : Pos} (hc : ∀ (k : K) (p q) (s : Shared) (Q : Value → Shared → Prop) E, (∀ v t, knd.is k v = true → Q v { s with toks := t }) → wpAny G.M A (eval (.Constant (enc k) p q) env) Q E s)
    (C : Cx G B H A env n) : ∀ {keys : List (Option Expr)} {ks : List K} {es : List Expr} {Ts : List Tr} {σ : Sto} {s₁ : Shared} {Φ : List AV → Sto → Prop} {Ψ' : PY}, keyTs enc keys ks → SndL G n env es Ts → keys.length = es.length → St G B H env ρ σ s₁ → seqV Ts ρ σ Φ Ψ' →
      wpAny G.M A (evalPairs (pairTrees keys es env pos)) (fun vs s' => ∃ ws as σ', Carries knd vs (ks.zip ws) ∧ ks.length = as.length ∧ RelL H s'.heap as ws ∧ St G B H env ρ σ' s' ∧ Step H s₁ s' ∧ Φ as σ') (QX G B H env (PXof ρ Ψ') s₁) s₁
  | [], [], _, _, σ, s₁, Φ, Ψ', _, .nil, _, S, p => evalPairs_nil ⟨[], [], σ, trivial, rfl, .nil, S, .refl _ _, p⟩
  | [], _ :: _, _, _, _, _, _, _, hk, _, _, _, _ => hk.elim
  | none :: _, _, _, _, _, _, _, _, hk, _, _, _, _ => by cases ‹List K› <;> exact hk.elim
  | some e :: r, [], _, _, _, _, _, _, hk, _, _, _, _ => by cases e <;> exact hk.elim
  | [], [], _, _, _, _, _, _, _, .cons _ _ _, hl, _, _ => by simp at hl
  | some e :: r, k :: ks, _, _, _, _, _, _, _, .nil, hl, _, _ => by simp at hl
  | some e :: r, k :: ks, _, _, σ, s₁, Φ, Ψ', hk, .cons (e := v) (es := es) (T := T) (Ts := Ts) h1 _ h2, hl, S, p => by
    cases e <;> first | exact hk.elim | skip
    rename_i c p1 p2
    obtain ⟨rfl, hk⟩ := hk
    have p : T.v ρ σ (fun a σ₁ => seqV Ts ρ σ₁ (fun as σ₂ => Φ (a :: as) σ₂) Ψ') Ψ' := p
    refine evalPairs_cons (hc k p1 p2 s₁ _ _ fun kv t hkv => ?_)
    have st0 : Step H s₁ { s₁ with toks := t } := .tok _ _ _
    refine wpAny_bind (wpAny_mono (h1.v C (S.tok t) p) (fun w s₂ q => ?_) fun _ _ x => x.step st0)
    obtain ⟨a, σ₂, ra, S₂, st₂, p₂⟩ := q
    refine wpAny_bind (wpAny_standAt (wpAny_pure ?_))
    refine wpAny_mono (pairs_ok hc C (σ := σ₂) (s₁ := s₂) hk h2 (by simpa using hl) S₂ p₂) (fun vs s₃ q => ?_) fun _ _ x => x.step (st0.trans st₂)
    obtain ⟨ws, as, σ₃, h3, h4, h5, S₃, st₃, p₃⟩ := q
    exact ⟨w :: ws, a :: as, σ₃, ⟨hkv, rfl, h3⟩, by simp [h4], .cons (ra.grow st₃.grow) h5, S₃, (st0.trans st₂).trans st₃, p₃⟩

theorem snd_dict_empty {pos : Pos} : Snd G n env (.Dict [] [] pos) (tr G n (.dict [] [])) := by
  show Snd G n env _ (Tr.plain n _)
  refine .of_v (fun _ => rfl) fun {B H A ρ σ s Φ Ψ} C S p => ?_
  have p : ∀ a, σ a = none → Φ (.ref a) (upd σ a (.dictI [])) := p.2
  refine wpAny_Dict_empty ⟨.ref s.heap.objs.size, _, by simp [Rel], S.new (s' := { s with heap := s.heap.push { cls := .type "dict", data := .dict #[] } }) (fun b o e => Heap.get?_push_of_some _ e) (Nat.le_refl _) (c := .dictI []) ⟨[], .new _, rfl, by simp [RelL]⟩, .push _, p _ (S.fresh (Nat.le_refl _))⟩
/-- a display of keys of one kind -/
theorem snd_dictK {K : Type} [DecidableEq K] {knd : KeyKind G.prog G.w K} {enc : K → Const} {mk : List (K × AV) → Cell} {pos : Pos} (hc : ∀ {A : Around} (k : K) (p q) (s : Shared) (Q : Value → Shared → Prop) E, (∀ v t, knd.is k v = true → Q v { s with toks := t }) → wpAny G.M A (eval (.Constant (enc k) p q) env) Q E s)
    (hmk : ∀ (H : Hid) (h : Heap) (a : Addr) (kvs : List (K × AV)), CellAt G H h a (mk kvs) ↔ ∃ vs : List (K × Value), h.DictOf knd a vs ∧ vs.map (·.1) = kvs.map (·.1) ∧ RelL H h (kvs.map (·.2)) (vs.map (·.2))) (hown : ∀ kvs, (mk kvs).own = true)
    {keys : List (Option Expr)} {ks : List K} {es : List Expr} {Ts : List Tr} (hk : keyTs enc keys ks) (hs : SndL G n env es Ts) (hl : keys.length = es.length) (hlen : keys.length ≤ 15) (h0 : keys ≠ []) (hall : keys.all (·.isSome) = true) :
    Snd G n env (.Dict keys es pos) (Tr.plain n (dictV mk ks Ts)) := by
  refine .of_v (fun _ => rfl) fun {B H A ρ σ s Φ Ψ} C S p => ?_
  have hn := pairTrees_length keys es env pos hall hl
  refine wpAny_Dict_pairs (knd := knd) (pairs := pairTrees keys es env pos) (zip_pairTrees keys es env pos hall hl) (fun e => by rw [e] at hn; exact h0 (List.length_eq_zero_iff.mp hn.symm)) (by rw [hn]; exact hlen) ?_
  have S₁ : St G B H env ρ (upd σ s.heap.objs.size (mk [])) { s with heap := s.heap.push { cls := .type "dict", data := .dict #[] } } :=
    S.new (fun b o e => Heap.get?_push_of_some _ e) (Nat.le_refl _) ((hmk _ _ _ _).mpr ⟨[], .new _, rfl, by simp [RelL]⟩)
  have st0 : Step H s { s with heap := s.heap.push { cls := .type "dict", data := .dict #[] } } := .push _
  refine wpAny_mono (pairs_ok (knd := knd) (fun k => hc k) C hk hs hl S₁ (p _ (S.fresh (Nat.le_refl _)))) (fun vs s₂ q => ?_) fun _ _ x => x.step st0
  obtain ⟨ws, as, σ₂, h1, h2, h3, S₂, st₂, p₂⟩ := q
  obtain ⟨hσ, p₂⟩ := p₂
  obtain ⟨vs0, D0, e0, r0⟩ := (hmk _ _ _ _).mp (S₂.store _ _ hσ).1
  obtain rfl : vs0 = [] := by simpa using congrArg List.length e0
  refine ⟨_, h1, D0, fun h' D' hs' => ?_⟩
  have kk : ∀ b o, b ≠ s.heap.objs.size → s₂.heap.get? b = some o → h'.get? b = some o := fun b o nb e => hs'.extBut b o nb e
  have g : Grow H s₂.heap h' := by
    obtain ⟨o', ho', ht, hr⟩ := (S₂.store _ _ hσ).1.there
    exact .of_keepBut kk ht fun o'' vs e => by rw [ho'] at e; cases e; exact hr vs
  obtain ⟨i1, i2⟩ := put_merged ks as ws (vs := []) (kvs := []) h2 (h3.grow g) (by simp) rfl (by simp [RelL])
  obtain ⟨S', _⟩ := S₂.put (s' := { s₂ with heap := h', toks := s₂.toks + vs.length }) (c := mk (putAll ks as [])) hσ (hown _) kk ((hmk _ _ _ _).mpr ⟨_, D', i1, i2⟩)
  exact ⟨.ref _, _, by simp [Rel], S', (st0.trans st₂).trans ⟨g, rfl, rfl⟩, p₂⟩

noncomputable def constE : Option Expr → Option Const
  | some (.Constant c _ _) => some c
  | _ => none
theorem constE_of {k : Option Expr} {c : Const} (h : constE k = some c) : ∃ p q, k = some (.Constant c p q) := by
  cases k with
  | none => cases h
  | some e => cases e <;> first | (cases h; exact ⟨_, _, rfl⟩) | cases h
noncomputable def kE : Const → Option Ex
  | .str k => some (.cst (.str k))
  | .int k => some (.cst (.int k))
  | _ => none
noncomputable def keyE : List (Option Expr) → Option (List Ex)
  | [] => some []
  | k :: r => match (constE k).bind kE, keyE r with
    | some a, some as => some (a :: as)
    | _, _ => none
theorem keyE_cons {k : Option Expr} {r : List (Option Expr)} {ks : List Ex} (h : keyE (k :: r) = some ks) : ∃ c p q a as, k = some (.Constant c p q) ∧ kE c = some a ∧ keyE r = some as ∧ ks = a :: as := by
  replace h : (match (constE k).bind kE, keyE r with | some a, some as => some (a :: as) | _, _ => none) = some ks := h
  cases e1 : (constE k).bind kE with
  | none => rw [e1] at h; cases h
  | some a =>
    cases e2 : keyE r with
    | none => rw [e1, e2] at h; cases h
    | some as =>
      rw [e1, e2] at h
      cases h
      obtain ⟨c, h1, h2⟩ := Option.bind_eq_some_iff.mp e1
      obtain ⟨p, q, h3⟩ := constE_of h1
      exact ⟨c, p, q, a, as, h3, h2, rfl, rfl⟩
theorem keyE_some : ∀ {keys : List (Option Expr)} {ks : List Ex}, keyE keys = some ks → keys.all (·.isSome) = true ∧ keys.length = ks.length
  | [], ks, h => by cases h; exact ⟨rfl, rfl⟩
  | k :: r, ks, h => by
    obtain ⟨c, p, q, a, as, rfl, _, h2, rfl⟩ := keyE_cons h
    obtain ⟨a, b⟩ := keyE_some h2
    exact ⟨by simpa using a, by simp [b]⟩
theorem keyE_str : ∀ {keys : List (Option Expr)} {ks : List Ex} {l : List Str}, keyE keys = some ks → strKs ks = some l → keyTs Const.str keys l
  | [], ks, l, h, q => by cases h; cases q; trivial
  | k :: r, ks, l, h, w => by
    obtain ⟨c, p, q, a, as, rfl, h1, h2, rfl⟩ := keyE_cons h
    cases c <;> cases h1
    · cases w
    · obtain ⟨l2, e2, rfl⟩ := Option.map_eq_some_iff.mp w
      exact ⟨rfl, keyE_str h2 e2⟩
theorem keyE_int : ∀ {keys : List (Option Expr)} {ks : List Ex} {l : List Int}, keyE keys = some ks → intKs ks = some l → keyTs Const.int keys l
  | [], ks, l, h, q => by cases h; cases q; trivial
  | k :: r, ks, l, h, w => by
    obtain ⟨c, p, q, a, as, rfl, h1, h2, rfl⟩ := keyE_cons h
    cases c <;> cases h1
    · obtain ⟨l2, e2, rfl⟩ := Option.map_eq_some_iff.mp w
      exact ⟨rfl, keyE_int h2 e2⟩
    · cases w
theorem snd_dict {keys : List (Option Expr)} {ks : List Ex} {es : List Expr} {as : List Ex} {pos : Pos} (hk : keyE keys = some ks) (hs : SndL G n env es (trs G n as)) (hl : keys.length = es.length) (hlen : keys.length ≤ 15) : Snd G n env (.Dict keys es pos) (tr G n (.dict ks as)) := by
  obtain ⟨h1, h2⟩ := keyE_some hk
  cases ks with
  | nil =>
    obtain rfl : keys = [] := List.length_eq_zero_iff.mp h2
    obtain rfl : es = [] := List.length_eq_zero_iff.mp hl.symm
    cases as with
    | nil => exact snd_dict_empty
    | cons a as => unfold trs at hs; cases hs
  | cons k ks =>
    have h0 : keys ≠ [] := fun e => by rw [e] at h2; simp at h2
    show Snd G n env _ (Tr.plain n (dictD (k :: ks) (trs G n as)))
    cases q : strKs (k :: ks) with
    | some l =>
      have e : dictD (k :: ks) (trs G n as) = dictV .dictS l (trs G n as) := by unfold dictD; simp only [q]
      rw [e]
      exact snd_dictK (knd := strKind G.prog G.w) (enc := Const.str) (fun k p q s Q E h => Calls.Constant_str (h _ _ (strKind_is G.prog G.w k _))) (fun _ _ _ _ => Iff.rfl) (fun _ => rfl) (keyE_str hk q) hs hl hlen h0 h1
    | none =>
      cases q' : intKs (k :: ks) with
      | some l =>
        have e : dictD (k :: ks) (trs G n as) = dictV .dictI l (trs G n as) := by unfold dictD; simp only [q, q']
        rw [e]
        exact snd_dictK (knd := intKind G.prog G.w) (enc := Const.int) (fun k p q s Q E h => fun _ _ _ => h _ _ (intKind_is G.prog G.w k _)) (fun _ _ _ _ => Iff.rfl) (fun _ => rfl) (keyE_int hk q') hs hl hlen h0 h1
      | none =>
        have e : dictD (k :: ks) (trs G n as) = fun _ _ _ _ => False := by unfold dictD; simp only [q, q']
        rw [e]
        exact .of_v (fun _ => rfl) fun C S p => p.elim
end
end Mine
set_option maxRecDepth 100000
namespace Mine
open PySem PyProof.Rows

/-! ### from the program's text to terms -/
noncomputable def okStr (x : Str) : Bool := x != "__debug__" && x != "__classdict__" && x != ".0" && x != "__name__"
noncomputable def nameE (sc : Scope) (x : Str) : Option Ex :=
  if okStr x then match sc.names.lookup x with
    | some .local => some (.nm x)
    | some .cell => some (.nm x)
    | some .free => some (.nm x)
    | some .globalImplicit => some (.gl x)
    | _ => none
  else none
noncomputable def compOk (sc cs : Scope) (x : Str) : Bool :=
  cs.kind == .function && x != ".0" && cs.names.lookup x == some .local && cs.names.all fun y =>
    y.2 != .cell && (y.2 != .local || ((y.1 == x || y.1 == ".0") && cs.names.lookup y.1 == some .local)) && (y.2 != .free || (sc.names.lookup y.1 == some .cell && cs.names.lookup y.1 == some .free))
theorem compOk_of {sc cs : Scope} {x : Str} (h : compOk sc cs x = true) : CompScope sc cs x := by
  unfold compOk at h
  simp only [Bool.and_eq_true, beq_iff_eq, bne_iff_ne, List.all_eq_true, Bool.or_eq_true] at h
  obtain ⟨⟨⟨h1, h2⟩, h3⟩, h4⟩ := h
  exact { kind := h1, nz := h2, cell := fun y hy => (h4 y hy).1.1, loc := fun y hy e => ((h4 y hy).1.2.resolve_left (fun z => z e)), x := h3, free := fun y hy e => ((h4 y hy).2.resolve_left (fun z => z e)) }

noncomputable def opt2 {α β γ : Type} (f : α → β → γ) : Option α → Option β → Option γ
  | some a, some b => some (f a b)
  | _, _ => none
theorem opt2_some {α β γ : Type} {f : α → β → γ} {a : Option α} {b : Option β} {c : γ} (h : opt2 f a b = some c) : ∃ x y, a = some x ∧ b = some y ∧ f x y = c := by
  cases a <;> cases b <;> simp [opt2] at h
  exact ⟨_, _, rfl, rfl, h⟩
noncomputable def listE (f : Expr → Option Ex) : List Expr → Option (List Ex)
  | [] => some []
  | e :: r => if isStar e then none else opt2 (· :: ·) (f e) (listE f r)
noncomputable def optE (f : Expr → Option Ex) : Option Expr → Option (Option Ex)
  | none => some none
  | some e => (f e).map some

noncomputable def cstE : Const → Option Ex
  | .int i => some (.cst (.int i))
  | .str x => some (.cst (.str x))
  | .bool b => some (.cst (.bool b))
  | .none => some (.cst .none)
  | _ => none
noncomputable def cmpE (f : Expr → Option Ex) (l : Expr) : List CmpOp → List Expr → Option Ex
  | [op], [r] => if behindInMarks op r then none else opt2 (.cmp op) (f l) (f r)
  | [o1, o2], [m, r] => if lastMarks [o1, o2] [m, r] then none else opt2 (fun (f : Ex → Ex) c => f c) (opt2 (Ex.cmp2 o1 o2) (f l) (f m)) (f r)
  | _, _ => none
noncomputable def boolE : BoolOp → List Ex → Ex
  | .And => .and_
  | .Or => .or_
noncomputable def unE (f : Expr → Option Ex) (e : Expr) : UnaryOp → Option Ex
  | .Not => (f e).map .not_
  | .USub => (f e).map .neg
  | _ => none
noncomputable def subE (f : Expr → Option Ex) (e : Expr) : Expr → Option Ex
  | .Slice lo hi none _ => opt2 (fun (f : Option Ex → Ex) c => f c) (opt2 Ex.slc (f e) (optE f lo)) (optE f hi)
  | i => if notSlice i then opt2 .sub (f e) (f i) else none
noncomputable def callE (sc : Scope) (f : Expr → Option Ex) (args : List Expr) (pos : Pos) : Expr → Option Ex
  | .Attribute o m apos => if noSuper o && decide (args.length < 30) && (apos.endLine == pos.line) then opt2 (fun a as => .meth a m as) (f o) (listE f args) else none
  | .Name g _ => if okStr g && (sc.names.lookup g == some .globalImplicit) then (listE f args).map (if bnames.contains g then .bi g else .call g) else none
  | _ => none
noncomputable def genE (g : Comprehension) : Option (Str × Expr × List Expr) := match g with
  | ⟨.Name x _, iter, ifs, 0⟩ => some (x, iter, ifs)
  | _ => none
noncomputable def compE (fl : Bool) (sc cs : Scope) (f₁ f : Expr → Option Ex) (elt : Expr) : List Comprehension → Option Ex
  | [g] => match genE g with
    | some (x, iter, ifs) => if fl && compOk sc cs x && notSet iter then opt2 (fun (f : List Ex → Ex) c => f c) (opt2 (fun a b c => Ex.comp a x b c) (f₁ elt) (f iter)) (listE f₁ ifs) else none
    | none => none
  | _ => none
theorem genE_of {g : Comprehension} {x : Str} {iter : Expr} {ifs : List Expr} (h : genE g = some (x, iter, ifs)) : ∃ p, g = ⟨.Name x p, iter, ifs, 0⟩ := by
  unfold genE at h
  split at h
  · cases h; exact ⟨_, rfl⟩
  · cases h
noncomputable def dictE (f : Expr → Option Ex) (keys : List (Option Expr)) (es : List Expr) : Option Ex := if keys.length == es.length && decide (keys.length ≤ 15) then opt2 .dict (keyE keys) (listE f es) else none
noncomputable def lrE (sc : Scope) (f : Expr → Option Ex) : List Expr → Expr → Option Ex
  | [.Call (.Name r _) [e] [] _], .Name l _ => if l == "list" && r == "range" && !isStar e && (sc.names.lookup l == some .globalImplicit) && (sc.names.lookup r == some .globalImplicit) then (f e).map .lrange else none
  | _, _ => none
theorem lrE_of {sc : Scope} {f : Expr → Option Ex} {as : List Expr} {g : Expr} {a : Ex} (h : lrE sc f as g = some a) : ∃ e x p1 p2 p3, as = [.Call (.Name "range" p2) [e] [] p3] ∧ g = .Name "list" p1 ∧ isStar e = false ∧ sc.names.lookup (Str.ofString "list") = some .globalImplicit ∧ sc.names.lookup (Str.ofString "range") = some .globalImplicit ∧ f e = some x ∧ a = .lrange x := by
  unfold lrE at h
  split at h
  · split at h
    · rename_i hm
      simp only [Bool.and_eq_true, beq_iff_eq, Bool.not_eq_true'] at hm
      obtain ⟨⟨⟨⟨rfl, rfl⟩, h3⟩, h4⟩, h5⟩ := hm
      obtain ⟨x, e1, rfl⟩ := Option.map_eq_some_iff.mp h
      exact ⟨_, x, _, _, _, rfl, rfl, h3, h4, h5, e1, rfl⟩
    · cases h
  · cases h
noncomputable def callL (sc : Scope) (f : Expr → Option Ex) (args : List Expr) (pos : Pos) (g : Expr) : Option Ex := match lrE sc f args g with
  | some a => some a
  | none => callE sc f args pos g
noncomputable def cE : Nat → Scope → Bool → Expr → Option Ex
  | 0, _, _, _ => none
  | k + 1, sc, fl, e => match e with
    | .Name x _ => nameE sc x
    | .Constant c _ _ => cstE c
    | .BinOp l op r _ => opt2 (.bin op) (cE k sc fl l) (cE k sc fl r)
    | .Compare l ops rs _ => cmpE (cE k sc fl) l ops rs
    | .BoolOp op es _ => (listE (cE k sc fl) es).map (boolE op)
    | .UnaryOp op e _ => unE (cE k sc fl) e op
    | .Subscript e i _ => subE (cE k sc fl) e i
    | .Attribute e a _ => if noSuper e then (cE k sc fl e).map (.attr · a) else none
    | .Call g args kws pos => if kws.isEmpty then callL sc (cE k sc fl) args pos g else none
    | .Dict keys es _ => dictE (cE k sc fl) keys es
    | .List es _ => (listE (cE k sc fl) es).map .list
    | .Tuple es _ _ => (listE (cE k sc fl) es).map .tup
    | .ListComp elt gens cs _ => compE fl sc cs (cE k (relabelS cs sc) false) (cE k sc fl) elt gens
    | _ => none

structure ScOk (sc : Scope) (fl : Bool) (env : Env) : Prop where
  sc : env.scope = sc
  fr : fl = true → env.frame = some env.locals ∧ env.cells.Pairwise fun x y => x.2 ≠ y.2

section
variable {G : PG} {n : Nat}
theorem listE_ok {f : Expr → Option Ex} {env : Env} (h : ∀ e a, f e = some a → Snd G n env e (tr G n a)) : ∀ {es : List Expr} {as : List Ex}, listE f es = some as → SndL G n env es (trs G n as)
  | [], as, e => by cases e; unfold trs; exact .nil
  | x :: r, as, e => by
    unfold listE at e
    split at e
    · cases e
    · rename_i hs
      obtain ⟨a, b, e1, e2, rfl⟩ := opt2_some e
      unfold trs
      exact .cons (h _ _ e1) (by simpa using hs) (listE_ok h e2)
theorem optE_ok {f : Expr → Option Ex} {env : Env} (h : ∀ e a, f e = some a → Snd G n env e (tr G n a)) {o : Option Expr} {a : Option Ex} (e : optE f o = some a) : SndO G n env o (tro G n a) := by
  cases o with
  | none => cases e; unfold tro; exact .none
  | some x =>
    obtain ⟨y, e1, rfl⟩ := Option.map_eq_some_iff.mp e
    unfold tro; exact .some (h _ _ e1)

theorem okStr_of {x : Str} (h : okStr x = true) : (x == ("__debug__" : Str)) = false ∧ (x == ("__classdict__" : Str)) = false ∧ x ≠ ".0" ∧ x ≠ "__name__" := by
  unfold okStr at h
  simp only [Bool.and_eq_true, bne_iff_ne] at h
  exact ⟨by simpa using h.1.1.1, by simpa using h.1.1.2, h.1.2, h.2⟩

theorem cE_ok : ∀ (k : Nat) {sc : Scope} {fl : Bool} {e : Expr} {a : Ex} {env : Env}, ScOk sc fl env → cE k sc fl e = some a → Snd G n env e (tr G n a)
  | 0, _, _, _, _, _, _, h => by cases h
  | k + 1, sc, fl, e, a, env, hs, h => by
    have ih : ∀ e a, cE k sc fl e = some a → Snd G n env e (tr G n a) := fun e a q => cE_ok k hs q
    obtain rfl := hs.sc
    cases e with
    | Name x p =>
      have h : nameE env.scope x = some a := h
      unfold nameE at h
      split at h
      · rename_i ho
        obtain ⟨o1, o2, o3, o4⟩ := okStr_of ho
        split at h
        · rename_i q; cases h; exact snd_nm o1 o2 o3 (.inl q)
        · rename_i q; cases h; exact snd_nm o1 o2 o3 (.inr (.inl q))
        · rename_i q; cases h; exact snd_nm o1 o2 o3 (.inr (.inr q))
        · rename_i q; cases h; exact snd_gl o1 o4 q
        · cases h
      · cases h
    | Constant c p q =>
      have h : cstE c = some a := h
      cases c <;> first | (cases h; first | exact snd_int | exact snd_str | exact snd_bool | exact snd_none) | cases h
    | BinOp l op r p =>
      have h : opt2 (.bin op) (cE k env.scope fl l) (cE k env.scope fl r) = some a := h
      obtain ⟨x, y, e1, e2, rfl⟩ := opt2_some h; exact snd_bin (ih _ _ e1) (ih _ _ e2)
    | Compare l ops rs p =>
      have h : cmpE (cE k env.scope fl) l ops rs = some a := h
      unfold cmpE at h
      split at h
      · split at h
        · cases h
        · rename_i hm
          obtain ⟨x, y, e1, e2, rfl⟩ := opt2_some h; exact snd_cmp (by simpa using hm) (ih _ _ e1) (ih _ _ e2)
      · split at h
        · cases h
        · rename_i hm
          obtain ⟨f, z, e0, e3, rfl⟩ := opt2_some h
          obtain ⟨x, y, e1, e2, rfl⟩ := opt2_some e0; exact snd_cmp2 (by simpa using hm) (ih _ _ e1) (ih _ _ e2) (ih _ _ e3)
      · cases h
    | BoolOp op es p =>
      have h : (listE (cE k env.scope fl) es).map (boolE op) = some a := h
      obtain ⟨as, e1, rfl⟩ := Option.map_eq_some_iff.mp h
      cases op with
      | And => exact snd_and (listE_ok ih e1)
      | Or => exact snd_or (listE_ok ih e1)
    | UnaryOp op e p =>
      have h : unE (cE k env.scope fl) e op = some a := h
      cases op with
      | Not => obtain ⟨as, e1, rfl⟩ := Option.map_eq_some_iff.mp h; exact snd_not (ih _ _ e1)
      | USub => obtain ⟨as, e1, rfl⟩ := Option.map_eq_some_iff.mp h; exact snd_neg (ih _ _ e1)
      | _ => cases h
    | Subscript e i p =>
      have h : subE (cE k env.scope fl) e i = some a := h
      unfold subE at h
      split at h
      · obtain ⟨f, z, e0, e3, rfl⟩ := opt2_some h
        obtain ⟨x, y, e1, e2, rfl⟩ := opt2_some e0
        exact snd_slc (ih _ _ e1) (optE_ok ih e2) (optE_ok ih e3)
      · split at h
        · rename_i hm
          obtain ⟨x, y, e1, e2, rfl⟩ := opt2_some h; exact snd_sub hm (ih _ _ e1) (ih _ _ e2)
        · cases h
    | Attribute e x p =>
      have h : (if noSuper e then (cE k env.scope fl e).map (.attr · x) else none) = some a := h
      split at h
      · rename_i hm
        obtain ⟨x, e1, rfl⟩ := Option.map_eq_some_iff.mp h; exact snd_attr hm (ih _ _ e1)
      · cases h
    | Call g args kws pos =>
      replace h : (if kws.isEmpty then callL env.scope (cE k env.scope fl) args pos g else none) = some a := h
      split at h
      · rename_i hk
        obtain rfl : kws = [] := List.isEmpty_iff.mp hk
        unfold callL at h
        split at h
        · rename_i hq
          cases h
          obtain ⟨e, x, p1, p2, p3, rfl, rfl, h3, h4, h5, h6, rfl⟩ := lrE_of hq
          exact snd_lrange h3 h4 h5 (ih _ _ h6)
        unfold callE at h
        split at h
        · split at h
          · rename_i hm
            simp only [Bool.and_eq_true, decide_eq_true_eq] at hm
            obtain ⟨x, y, e1, e2, rfl⟩ := opt2_some h
            exact snd_meth hm.1.1 hm.1.2 hm.2 (ih _ _ e1) (listE_ok ih e2)
          · cases h
        · split at h
          · rename_i hm
            simp only [Bool.and_eq_true, beq_iff_eq] at hm
            obtain ⟨o1, o2, o3, o4⟩ := okStr_of hm.1
            obtain ⟨as, e1, rfl⟩ := Option.map_eq_some_iff.mp h
            split
            · rename_i hb; exact snd_bi (by simpa using hb) o1 o4 hm.2 (listE_ok ih e1)
            · exact snd_call o1 o4 hm.2 (listE_ok ih e1)
          · cases h
        · cases h
      · cases h
    | Dict keys es p =>
      replace h : dictE (cE k env.scope fl) keys es = some a := h
      unfold dictE at h
      split at h
      · rename_i hm
        simp only [Bool.and_eq_true, beq_iff_eq, decide_eq_true_eq] at hm
        obtain ⟨x, y, e1, e2, rfl⟩ := opt2_some h
        exact snd_dict e1 (listE_ok ih e2) hm.1 hm.2
      · cases h
    | List es p =>
      have h : (listE (cE k env.scope fl) es).map Ex.list = some a := h
      obtain ⟨as, e1, rfl⟩ := Option.map_eq_some_iff.mp h; exact snd_list (listE_ok ih e1)
    | Tuple es p q =>
      have h : (listE (cE k env.scope fl) es).map Ex.tup = some a := h
      obtain ⟨as, e1, rfl⟩ := Option.map_eq_some_iff.mp h; exact snd_tup (listE_ok ih e1)
    | ListComp elt gens cs p =>
      replace h : compE fl env.scope cs (cE k (relabelS cs env.scope) false) (cE k env.scope fl) elt gens = some a := h
      unfold compE at h
      split at h
      · split at h
        · rename_i hg
          obtain ⟨_, rfl⟩ := genE_of hg
          split at h
          · rename_i hm
            simp only [Bool.and_eq_true] at hm
            obtain ⟨f, z, e0, e3, rfl⟩ := opt2_some h
            obtain ⟨x, y, e1, e2, rfl⟩ := opt2_some e0
            obtain ⟨f1, f2⟩ := hs.fr hm.1.1
            exact snd_comp (compOk_of hm.1.2) hm.2 f1 f2 (ih _ _ e2) (fun cenv q => cE_ok k ⟨q, fun z => by cases z⟩ e1) (fun cenv q => listE_ok (fun e a w => cE_ok k ⟨q, fun z => by cases z⟩ w) e3)
          · cases h
        · cases h
      · cases h
    | _ => cases h
end
end Mine
set_option maxRecDepth 100000
namespace Mine
open PySem PyProof.Rows

variable {G : PG}
abbrev GoS (G : PG) (B : Heap) (H : Hid) (A : Around) (env : Env) (s : Shared) (t : Sem Flow) (Φ : PS) (Ψ : PX) : Prop :=
  wpAny G.M A t (fun f s' => ∃ fl ρ' σ', RelF H s'.heap fl f ∧ St G B H env ρ' σ' s' ∧ Step H s s' ∧ Φ fl ρ' σ') (QX G B H env Ψ s) s
noncomputable def SndS (G : PG) (n : Nat) (env : Env) (st : Stmt) (T : TS) : Prop := ∀ {B H A ρ σ s Φ Ψ}, Cx G B H A env n → FrameOk B H env → St G B H env ρ σ s → T ρ σ Φ Ψ → GoS G B H A env s (exec st env) Φ Ψ
noncomputable def SndB (G : PG) (n : Nat) (env : Env) (st : List Stmt) (T : TS) : Prop := ∀ {B H A ρ σ s Φ Ψ}, Cx G B H A env n → FrameOk B H env → St G B H env ρ σ s → T ρ σ Φ Ψ → GoS G B H A env s (execs st env) Φ Ψ

section
variable {B : Heap} {H : Hid} {A : Around} {env : Env} {n : Nat} {ρ : Loc} {σ : Sto} {s s₁ : Shared} {Φ : PS} {Ψ : PX}

theorem QX.of {e : Value} {s' : Shared} (q : QX G B H env (PXof ρ fun c σ₁ => Ψ c ρ σ₁) s e s') : QX G B H env Ψ s e s' := by
  obtain ⟨ea, cls, ρ', σ', h1, h2, h3, h4, rfl, h6⟩ := q
  exact ⟨ea, cls, _, σ', h1, h2, h3, h4, h6⟩
theorem Go.stmt {t : Sem Value} {Φ₁ : PE} {Q : Value → Shared → Prop} (h : Go G B H A env ρ s t Φ₁ (PXof ρ fun c σ₁ => Ψ c ρ σ₁))
    (k : ∀ v s₁ a σ₁, Rel H s₁.heap a v → St G B H env ρ σ₁ s₁ → Step H s s₁ → Φ₁ a σ₁ → Q v s₁) : wpAny G.M A t Q (QX G B H env Ψ s) s :=
  wpAny_mono h (fun v s₁ ⟨a, σ₁, r, S, st, p⟩ => k v s₁ a σ₁ r S st p) fun _ _ x => x.of
theorem Go.stmt2 {t : Sem Value} {Φ₁ : PE} {Q : Value → Shared → Prop} (st : Step H s s₁) (h : Go G B H A env ρ s₁ t Φ₁ (PXof ρ fun c σ₁ => Ψ c ρ σ₁))
    (k : ∀ v s₂ a σ₂, Rel H s₂.heap a v → St G B H env ρ σ₂ s₂ → Step H s₁ s₂ → Step H s s₂ → Φ₁ a σ₂ → Q v s₂) : wpAny G.M A t Q (QX G B H env Ψ s) s₁ :=
  wpAny_mono h (fun v s₂ ⟨a, σ₂, r, S, st₂, p⟩ => k v s₂ a σ₂ r S st₂ (st.trans st₂) p) fun _ _ x => (x.step st).of

noncomputable def notComp : Expr → Bool
  | .ListComp .. => false
  | .SetComp .. => false
  | .DictComp .. => false
  | _ => true
theorem swaps_notComp {e : Expr} {t : Option Expr} {line : Nat} (h : notComp e = true) : swapsWith e t line env = pure false := by
  cases e <;> first | rfl | cases h

theorem snd_asg {x : Str} {px pos : Pos} {value : Expr} {a : Ex} (hs : swapsWith value (some (.Name x px)) pos.line env = pure false) (hx : isLoc env.scope x) (h : Snd G n env value (tr G n a)) : SndS G n env (.Assign [.Name x px] value pos) (ts G n (.asg x a)) := by
  intro B H A ρ σ s Φ Ψ C F S p
  exact wpAny_Assign_Name (Go.stmt (h.v C S p) fun v s₁ b σ₁ rb S₁ st₁ p₁ => store_ok F hx S₁ rb fun s₂ S₂ st₂ => ⟨.next, _, _, rfl, S₂, st₁.trans st₂, p₁⟩) hs

noncomputable def swapB (sc : Scope) (x : Str) (px : Pos) (cs : Scope) (vpos : Pos) : Bool :=
  (sc.names.lookup x == some .local) && px.line == vpos.line && !(cs.names.any fun (n, k) => n == x && (k == .local || k == .cell))
theorem swaps_comp {elt : Expr} {gens : List Comprehension} {cs : Scope} {vpos px : Pos} {x : Str} {line : Nat} (hk : env.scope.kind = .function) : swapsWith (.ListComp elt gens cs vpos) (some (.Name x px)) line env = pure (swapB env.scope x px cs vpos) := by
  have : env.blockKind = .function := by unfold Env.blockKind; rw [hk]; rfl
  show (pure (env.blockKind == .function && env.kindOf x == some .local && px.line == vpos.line && !(cs.names.any fun (n, k) => n == x && (k == .local || k == .cell))) : Sem Bool) = _
  rw [this]
  simp only [swapB, Env.kindOf, beq_self_eq_true, Bool.true_and]

theorem swaps_attr {e o : Expr} {x : Str} {pt : Pos} {line : Nat} : swapsWith e (some (.Attribute o x pt)) line env = pure false := by cases e <;> rfl
theorem snd_sattr {o : Expr} {x : Str} {pt pos : Pos} {value : Expr} {a b : Ex} (h : Snd G n env value (tr G n a)) (ho : Snd G n env o (tr G n b)) : SndS G n env (.Assign [.Attribute o x pt] value pos) (ts G n (.sattr b x a)) := by
  intro B H A ρ σ s Φ Ψ C F S p
  refine wpAny_Assign_stores (Go.stmt (h.v C S p) fun v s₁ c σ₁ rc S₁ st₁ p₁ => ?_) (by show swapsWith value (some (.Attribute o x pt)) pos.line env = pure false; exact swaps_attr) rfl
  show wpAny G.M A (do
    let ov ← holding [v] (eval o env)
    standAt pt.atName
    holding [v, ov] (setAttr ov x v)
    release [v, ov] []) _ _ s₁
  refine wpAny_bind (wpAny_holding (Go.stmt2 st₁ (ho.v C S₁ p₁) fun ov s₂ d σ₂ rd S₂ st₂ st₂' p₂ => wpAny_bind (wpAny_standAt (wpAny_bind (wpAny_holding ?_)))))
  exact sattr_ok C S₂ rd (rc.grow st₂.grow) p₂ fun s₃ σ₃ S₃ st₃ p₃ => wpAny_release' ⟨.next, _, _, rfl, S₃, st₂'.trans st₃, p₃⟩

theorem snd_expr {value : Expr} {pos : Pos} {a : Ex} (hk : env.scope.kind = .function) (hc : notComp value = true) (h : Snd G n env value (tr G n a)) : SndS G n env (.Expr value pos) (ts G n (.expr a)) := by
  intro B H A ρ σ s Φ Ψ C F S p
  exact wpAny_Expr_any (Go.stmt (h.v C S p) fun v s₁ c σ₁ rc S₁ st₁ p₁ => ⟨.next, _, _, rfl, S₁, st₁, p₁⟩) (by unfold interactive; rw [hk]; rfl) (swaps_notComp hc)

theorem GoS.step {t : Sem Flow} (st : Step H s s₁) (h : GoS G B H A env s₁ t Φ Ψ) : wpAny G.M A t (fun f s' => ∃ fl ρ' σ', RelF H s'.heap fl f ∧ St G B H env ρ' σ' s' ∧ Step H s s' ∧ Φ fl ρ' σ') (QX G B H env Ψ s) s₁ :=
  wpAny_mono h (fun _ _ ⟨fl, ρ', σ', r, S, q, p⟩ => ⟨fl, ρ', σ', r, S, st.trans q, p⟩) fun _ _ q => q.step st

theorem snd_ite {test : Expr} {pos : Pos} {c : Ex} {t f : List Stmt} {ts' fs : List Sm} (h : Snd G n env test (tr G n c)) (ht : SndB G n env t (tss G n ts')) (hf : SndB G n env f (tss G n fs)) : SndS G n env (.If test t f pos) (ts G n (.ite c ts' fs)) := by
  intro B H A ρ σ s Φ Ψ C F S p
  refine wpAny_If (wpAny_mono (h.t C S p) (fun b s₁ q => ?_) fun _ _ x => x.of)
  obtain ⟨σ₁, S₁, st₁, p₁⟩ := q
  cases b with
  | false => exact GoS.step st₁ (hf C F S₁ p₁)
  | true => exact GoS.step st₁ (ht C F S₁ p₁)

theorem snd_ret {e : Expr} {pos : Pos} {a : Ex} (h : Snd G n env e (tr G n a)) : SndS G n env (.Return (some e) pos) (ts G n (.ret (some a))) := by
  intro B H A ρ σ s Φ Ψ C F S p
  exact wpAny_Return_some (Go.stmt (h.v C S p) fun v s₁ b σ₁ rb S₁ st₁ p₁ => ⟨.ret b, _, _, ⟨v, rfl, rb⟩, S₁, st₁, p₁⟩)
theorem snd_ret0 {pos : Pos} : SndS G n env (.Return none pos) (ts G n (.ret none)) := by
  intro B H A ρ σ s Φ Ψ C F S p
  exact wpAny_Return_none ⟨.ret .none, _, _, ⟨_, rfl, by simp [Rel]⟩, S, .refl _ _, p⟩

theorem snd_for {x : Str} {px pos : Pos} {iter : Expr} {body : List Stmt} {a : Ex} {b : List Sm} (hset : notSet iter = true) (hx : isLoc env.scope x) (h : Snd G n env iter (tr G n a)) (hb : SndB G n env body (tss G n b)) : SndS G n env (.For (.Name x px) iter body [] pos) (ts G n (.for_ x a b)) := by
  intro B H A ρ σ s Φ Ψ C F S p
  refine wpAny_For (wpAny_mono (h.i C S (fun src σ q => by obtain ⟨_, vs, hv, _⟩ := q; exact ⟨vs, hv⟩) p) (fun xv s₁ w => wpAny_mono w (fun itv s₂ q => ?_) fun _ _ x => x.of) fun _ _ x => x.of) (notSet_iter hset)
  obtain ⟨src, it, N, J, σ₁, sm, rfl, I0, Sm, stm, km, st₂, fN, j0, hpair, lp⟩ := q
  refine codeAny_mono (loop_ok I0 (by unfold okFor; rw [hpair]; exact ⟨x, px, rfl⟩) (fun C F S r e k => ?_) (fun ρ σ Φ Ψ p B H A s T F A' S => hb ⟨T, F.toEnvOk, A'⟩ F S p) C F Sm km st₂ fN j0 lp) fun r s' q => ?_
  · cases e; exact assign_name_ok F hx S r k
  · cases r with
    | ok f => obtain ⟨fl, ρ', σ', h1, h2, h3, h4⟩ := q; exact ⟨fl, ρ', σ', h1, h2, stm.trans h3, h4⟩
    | error e => exact wpAny_mono q (fun _ _ z => z.step stm) fun _ _ z => z.step stm
theorem snd_forT {elts : List Expr} {k : Nat} {px pos : Pos} {iter : Expr} {body : List Stmt} {a : Ex} {b : List Sm} {xs : List Str} (hset : notSet iter = true) (hx : namesOf elts = some xs) (hl : ∀ x ∈ xs, isLoc env.scope x) (h : Snd G n env iter (tr G n a)) (hb : SndB G n env body (tss G n b)) : SndS G n env (.For (.Tuple elts k px) iter body [] pos) (ts G n (.forT xs a b)) := by
  intro B H A ρ σ s Φ Ψ C F S p
  refine wpAny_For (wpAny_mono (h.i C S (fun src σ q => by obtain ⟨_, _, vs, hv, _⟩ := q; exact ⟨vs, hv⟩) p) (fun xv s₁ w => wpAny_mono w (fun itv s₂ q => ?_) fun _ _ x => x.of) fun _ _ x => x.of) (notSet_iter hset)
  obtain ⟨src, it, N, J, σ₁, sm, rfl, I0, Sm, stm, km, st₂, fN, j0, hpair, h10, lp⟩ := q
  refine codeAny_mono (loop_ok I0 (by unfold okFor; rw [hpair]; exact ⟨elts, k, px, rfl⟩) (fun C F S r e k => ?_) (fun ρ σ Φ Ψ p B H A s T F A' S => hb ⟨T, F.toEnvOk, A'⟩ F S p) C F Sm km st₂ fN j0 lp) fun r s' q => ?_
  · exact assign_tup_ok C h10 F hx hl S r e k
  · cases r with
    | ok f => obtain ⟨fl, ρ', σ', h1, h2, h3, h4⟩ := q; exact ⟨fl, ρ', σ', h1, h2, stm.trans h3, h4⟩
    | error e => exact wpAny_mono q (fun _ _ z => z.step stm) fun _ _ z => z.step stm
theorem snd_while {test : Expr} {pos : Pos} {body : List Stmt} {c : Ex} {b : List Sm} (h : Snd G n env test (tr G n c)) (hb : SndB G n env body (tss G n b)) : SndS G n env (.While test body [] pos) (ts G n (.while_ c b)) := by
  intro B H A ρ σ s Φ Ψ C F S p
  exact wpAny_While (while_ok (fun ρ σ Φ Ψ p B H A s T E A' S => h.t ⟨T, E, A'⟩ S p) (fun ρ σ Φ Ψ p B H A s T F A' S => hb ⟨T, F.toEnvOk, A'⟩ F S p) C F S p)

theorem snd_nil : SndB G n env [] (tss G n []) := by
  intro B H A ρ σ s Φ Ψ C F S p
  unfold tss at p
  exact wpAny_execs_nil ⟨.next, _, _, rfl, S, .refl _ _, p⟩
theorem snd_cons {st : Stmt} {r : List Stmt} {a : Sm} {b : List Sm} (h : SndS G n env st (ts G n a)) (hr : SndB G n env r (tss G n b)) : SndB G n env (st :: r) (tss G n (a :: b)) := by
  intro B H A ρ σ s Φ Ψ C F S p
  unfold tss at p
  refine wpAny_execs_cons (wpAny_mono (h C F S p) (fun f s₁ q => ?_) fun _ _ x => x)
  obtain ⟨fl, ρ₁, σ₁, rf, S₁, st₁, p₁⟩ := q
  cases fl with
  | next => cases rf; exact GoS.step st₁ (hr C F S₁ p₁)
  | brk => cases rf; exact ⟨.brk, _, _, rfl, S₁, st₁, p₁⟩
  | cont => cases rf; exact ⟨.cont, _, _, rfl, S₁, st₁, p₁⟩
  | ret a => obtain ⟨v, rfl, ra⟩ := rf; exact ⟨.ret a, _, _, ⟨v, rfl, ra⟩, S₁, st₁, p₁⟩
end
end Mine
set_option maxRecDepth 100000
namespace Mine
open PySem PyProof.Rows

variable {G : PG}
section
variable {B : Heap} {H : Hid} {A : Around} {env : Env} {n : Nat} {ρ : Loc} {σ : Sto} {s s₁ : Shared} {Q : Unit → Shared → Prop} {E : Value → Shared → Prop}

theorem mine_none {a : Addr} (S : St G B H env ρ σ s) (h : s.heap.get? a = none) : Mine1 B H σ a where
  base := none_of_not_some fun o e => by
    have := S.keep _ _ e
    rw [h] at this; cases this
  hid := none_of_not_some fun o e => by
    obtain ⟨sl, q, _⟩ := S.hid _ _ e
    rw [h] at q; cases q
  sto := none_of_not_some fun c e => by
    obtain ⟨o, q, _⟩ := (S.store _ _ e).1.there
    rw [h] at q; cases q
/-! ### an object hidden as it stands -/
noncomputable def hideE (H : Hid) (e : Addr) (o : Obj) : Hid := fun a => if a = e then some o else H a
theorem hidE_same (H : Hid) (e : Addr) (o : Obj) : hideE H e o e = some o := by simp [hideE]
theorem hidE_ne {H : Hid} {e a : Addr} {o : Obj} (h : a ≠ e) : hideE H e o a = H a := by simp [hideE, h]
theorem hidE_none {H : Hid} {e a : Addr} {o : Obj} (hn : H e = none) (h : hideE H e o a = none) : H a = none := by
  by_cases q : a = e
  · subst q; exact hn
  · rw [hidE_ne q] at h; exact h
theorem noTupE {h : Heap} {a : Addr} {o : Obj} {vs : Array Value} {items : Array Value} (ho : h.get? a = some o) (hd : o.data = .fields vs) : ¬ IsTup h a items := fun ⟨o', h1, _, m, h2⟩ => by
  rw [ho] at h1; cases h1; rw [hd] at h2; cases h2
theorem St.hidE {e : Addr} {o : Obj} {vs : Array Value} (S : St G B H env ρ σ s) (m : Mine1 B H σ e) (ho : s.heap.get? e = some o) (hd : o.data = .fields vs) : St G B (hideE H e o) env ρ σ s := by
  have d : ∀ a items, IsTup s.heap a items → H a = none → hideE H e o a = none := fun a items t q => by
    have ne : a ≠ e := fun z => by subst z; exact noTupE ho hd t
    rw [hidE_ne ne]; exact q
  refine ⟨S.keep, fun a o' q => ?_, FrameAt.dom d S.frame, fun a c q => ?_, S.root, S.low⟩
  · by_cases z : a = e
    · subst z; rw [hidE_same] at q; cases q; exact ⟨o.slots, ho, fun _ => rfl⟩
    · rw [hidE_ne z] at q; exact S.hid a o' q
  · obtain ⟨q1, q2, q3, q4⟩ := S.store a c q
    refine ⟨CellAt.dom d q1, q2, ?_, q4⟩
    have ne : a ≠ e := fun z => by subst z; rw [m.sto] at q; cases q
    rw [hidE_ne ne]; exact q3
theorem St.unhidE {e : Addr} {o : Obj} (S : St G B (hideE H e o) env ρ σ s) (hn : H e = none) : St G B H env ρ σ s := by
  have d : ∀ a (items : Array Value), IsTup s.heap a items → hideE H e o a = none → H a = none := fun a _ _ q => hidE_none hn q
  refine ⟨S.keep, fun a o' q => S.hid a o' ?_, FrameAt.dom d S.frame, fun a c q => ?_, S.root, S.low⟩
  · have ne : a ≠ e := fun z => by subst z; rw [hn] at q; cases q
    rw [hidE_ne ne]; exact q
  · obtain ⟨q1, q2, q3, q4⟩ := S.store a c q
    exact ⟨CellAt.dom d q1, q2, hidE_none hn q3, q4⟩
theorem Step.unhidE {e : Addr} {o : Obj} {vs : Array Value} (st : Step (hideE H e o) s s₁) (ho : s.heap.get? e = some o) (hd : o.data = .fields vs) : Step H s s₁ :=
  ⟨⟨fun a items q t => st.grow.tup a items (by
    have ne : a ≠ e := fun z => by subst z; exact noTupE ho hd t
    rw [hidE_ne ne]; exact q) t, st.grow.recs⟩, st.gens, st.os⟩
theorem hid_at {e : Addr} {o : Obj} {vs : Array Value} (S : St G B (hideE H e o) env ρ σ s) (hd : o.data = .fields vs) : s.heap.get? e = some o := by
  obtain ⟨sl, h1, h2⟩ := S.hid e o (hidE_same _ _ _)
  rw [h1, h2 (fun es n z => by rw [hd] at z; cases z)]
theorem EnvOk.hidE {e : Addr} {o : Obj} (E0 : EnvOk B H env) (h1 : e ≠ env.locals) (h2 : ∀ x ∈ env.cells, x.2 ≠ e) : EnvOk B (hideE H e o) env :=
  { E0 with loc := ⟨E0.loc.1, by rw [hidE_ne h1.symm]; exact E0.loc.2⟩, own := fun x hx => ⟨(E0.own x hx).1, by rw [hidE_ne (h2 x hx)]; exact (E0.own x hx).2⟩ }
theorem FrameOk.hidE {e : Addr} {o : Obj} (F : FrameOk B H env) (h1 : e ≠ env.locals) (h2 : ∀ x ∈ env.cells, x.2 ≠ e) : FrameOk B (hideE H e o) env := { F.toEnvOk.hidE h1 h2 with fr := F.fr, nodup := F.nodup }
theorem FramesIn.hidE {e : Addr} {o : Obj} {l : List Env} (x : FramesIn B H l) (hn : H e = none) : FramesIn B (hideE H e o) l := fun f hf => by
  obtain ⟨h1, L, oL, h2, h3, h4, h5⟩ := x f hf
  exact ⟨h1, L, oL, h2, h3, by
    have ne : L ≠ e := fun z => by subst z; rw [hn] at h4; cases h4
    rw [hidE_ne ne]; exact h4, h5⟩
theorem AOk.hidE2 {e : Addr} {o : Obj} (a : AOk B H env n A) (hn : H e = none) : AOk B (hideE H e o) env n A := by
  obtain ⟨fe, outer, h1, h2, h3, h4⟩ := a.frames
  refine ⟨a.depth, a.units, ?_, fe, outer, h1, h2.hidE hn, h3, fun q => (h4 q).hidE hn⟩
  rcases a.hand with q | ⟨q, e0, o0, vs, g1, g2, g3⟩
  · exact .inl q
  · have ne : e0 ≠ e := fun z => by subst z; rw [hn] at g2; cases g2
    exact .inr ⟨q, e0, o0, vs, g1, by rw [hidE_ne ne]; exact g2, g3⟩
/-- in a handler -/
theorem AOk.handler {e : Addr} {o : Obj} {vs : Array Value} (a : AOk B H env n A) (hn : H e = none) (h9 : 10 ≤ n) (hd : o.data = .fields vs) (hv : ExcVs vs) : AOk B (hideE H e o) env 9 (A.mark (some (.ref e))) := by
  obtain ⟨fe, outer, h1, h2, h3, h4⟩ := a.frames
  have hd' := a.depth
  have hu' := a.units
  exact ⟨by show A.depth + 4 * 9 ≤ 900; (first | with_reducible assumption | with_reducible exact Nat.lt_of_lt_of_le (by assumption) (by decide) | omega), by show A.units + 40 * 9 ≤ 9000; (first | with_reducible assumption | with_reducible exact Nat.lt_of_lt_of_le (by assumption) (by decide) | omega), .inr ⟨(by first | decide | with_reducible exact lv hn | with_reducible exact lv1 hn | with_reducible exact lv2 hn | with_reducible exact Int.natCast_nonneg _ | omega), e, o, vs, rfl, hidE_same _ _ _, hd, hv.1, hv.2⟩, fe, outer, h1, h2.hidE hn, h3, fun q => (h4 q).hidE hn⟩

/-! ### a name goes -/
noncomputable def delA (y : Str) (ρ : Loc) : Loc := ρ.filter fun p => !(p.1 == y)
theorem delA_lookup (y : Str) : ∀ (ρ : Loc) (z : Str), (delA y ρ).lookup z = if z = y then none else ρ.lookup z
  | [], z => by simp [delA]
  | (x, a) :: r, z => by
    have ih := delA_lookup y r z
    unfold delA at ih ⊢
    by_cases q : x = y
    · subst q
      rw [List.filter_cons_of_neg (by simp), ih, List.lookup_cons]
      by_cases w : z = x
      · simp [w]
      · have : (z == x) = false := by simpa using w
        simp [w, this]
    · rw [List.filter_cons_of_pos (by simpa using q), List.lookup_cons, List.lookup_cons, ih]
      by_cases w : z = x
      · subst w; simp [q]
      · have : (z == x) = false := by simpa using w
        simp [this]
theorem name_gone {y : Str} {pos : Pos} (F : FrameOk B H env) (hl : env.kindOf y = some .local) (hy : y ≠ ".0") (S : St G B H env ρ σ s)
    (h : ∀ s' ρ₃, St G B H env ρ₃ σ s' → (∀ z, z ≠ y → ρ₃.lookup z = ρ.lookup z) → Step H s s' → Q () s') : wpAny G.M A (do bindName env y .none; unbindBehindTheSuite env y pos) Q E s := by
  have hp : (env.scope.kind == .class || (env.scope.kind == .module && env.locals != env.globals)) = false := by rw [F.kind]; rfl
  refine wpAny_bind (wpAny_bindName (store_local (a := .none) F.toEnvOk hl S (by simp [Rel]) fun s₁ S₁ st₁ => ?_))
  unfold unbindBehindTheSuite
  refine wpAny_onRaise ?_
  unfold unbindName
  refine wpAny_bind (wpAny_point (wpAny_bind ?_))
  unfold deleteName
  simp only [hl, hp]
  rw [if_neg (by decide)]
  obtain ⟨m, hn, hm⟩ := S₁.frame.ns
  have hv0 := hm y hl hy
  rw [putA_lookup, if_pos rfl] at hv0
  have hmy : m y = some .none := by
    cases e : m y with
    | none => rw [e] at hv0; exact hv0.elim
    | some u => rw [e] at hv0; simp only [RelO, Rel] at hv0; rw [hv0]
  refine wpAny_bind (wpAny_nsDel_keeps hn fun h' v hn' hs' => ?_)
  simp only [hmy, Option.isSome_some, Bool.not_true, Bool.false_eq_true, if_false]
  have kk : ∀ b o, b ≠ env.locals → s₁.heap.get? b = some o → h'.get? b = some o := fun b o nb e => hs'.extBut b o nb e
  have g : Grow H s₁.heap h' := by
    obtain ⟨o, es, ep, ho, hd, _⟩ := hn
    exact .of_keepBut kk (fun items ⟨o', ho', _, _, hd'⟩ => by rw [ho] at ho'; cases ho'; rw [hd] at hd'; cases hd') fun o' vs ho' hd' => by rw [ho] at ho'; cases ho'; rw [hd] at hd'; cases hd'
  have key : ∀ ρ₃ : Loc, (∀ z, z ≠ y → ρ₃.lookup z = ρ.lookup z) → RelO H h' (ρ₃.lookup y) v → Q () { s₁ with heap := h' } := fun ρ₃ r1 r2 => by
    have E0 := F.toEnvOk
    refine h { s₁ with heap := h' } ρ₃ ⟨fun b o e => kk b o (fun z => by rw [z, E0.loc.1] at e; cases e) (S₁.keep b o e), fun b o e => ?_, ⟨⟨_, hn', fun z hz hz0 => ?_⟩, fun z hz => ?_, fun z hz => ?_⟩, fun b c e => ?_, S₁.root, S₁.low⟩ r1 (st₁.trans ⟨g, rfl, rfl⟩)
    · obtain ⟨sl, e1, e2⟩ := S₁.hid b o e
      exact ⟨sl, kk b _ (fun z => by rw [z, E0.loc.2] at e; cases e) e1, e2⟩
    · by_cases q : z = y
      · subst q; rw [if_pos rfl]; exact r2
      · rw [if_neg q, r1 z q]
        have := hm z hz hz0
        rw [putA_lookup, if_neg q] at this
        exact this.grow g
    · obtain ⟨c, u, e1, ⟨o, ho, hd⟩, e3⟩ := S₁.frame.cells z hz
      have q : z ≠ y := fun q => by subst q; rcases hz with q | q <;> rw [hl] at q <;> cases q
      refine ⟨c, u, e1, ⟨o, kk c o (E0.apart _ (mem_of_lookup e1)) ho, hd⟩, ?_⟩
      rw [putA_lookup, if_neg q] at e3
      rw [r1 z q]; exact e3.grow g
    · obtain ⟨u, o, ho, hd⟩ := S₁.frame.there z hz
      exact ⟨u, o, kk _ o (E0.apart _ hz) ho, hd⟩
    · obtain ⟨q1, q2, q3, q4, q5⟩ := S₁.store b c e
      exact ⟨q1.keep (fun o e => kk b o q4 e) g, q2, q3, q4, q5⟩
  have fin : Q () { s₁ with heap := h' } := by
    cases v with
    | none => exact key (delA y ρ) (fun z q => by rw [delA_lookup, if_neg q]) (by rw [delA_lookup, if_pos rfl]; trivial)
    | some u => exact key (putA y (.val u) ρ) (fun z q => by rw [putA_lookup, if_neg q]) (by rw [putA_lookup, if_pos rfl]; simp [RelO, Rel])
  exact wpAny_pure (wpAny_point fin)
end
end Mine
set_option maxRecDepth 100000
namespace Mine
open PySem PyProof.Rows

variable {G : PG}
section
variable {env : Env} {n : Nat}
theorem snd_raise {x m : Str} {np cpos pos p1 : Pos} {k : Nat} (hd : (x == ("__debug__" : Str)) = false) (hn : x ≠ "__name__") (hk : env.kindOf x = some .globalImplicit) :
    SndS G n env (.Raise (some (.Call (.Name x np) [.Constant (.str m) k p1] [] cpos)) none pos) (ts G n (.raise x m)) := by
  intro B H A ρ σ s Φ Ψ C F S p
  obtain ⟨Ca, hmg, hn10, hex, p⟩ := p
  have hh := hand_none C hn10
  obtain ⟨bm, N, nm, q, bs, hdct, sn, sub, ab, col, dd, k0, k1, k2, k3, k5, mN, hC, hN, hni, T⟩ := (hex _ C.T).obj
  have hl : SndL G n env [.Constant (.str m) k p1] (trs G n [.cst (.str m)]) := .cons snd_str rfl .nil
  have hb : bmVE.contains (.type "BaseException") = true := by decide +kernel
  refine wpAny_Raise_call_subU (C := Ca) (nm := nm) (q := q) (N := N) (bs := bs) (bm := bm) (hdct := hdct) (sn := sn) (sub := sub) (ab := ab) (col := col) (dd := dd) (k0 := k0) (k1 := k1) (k2 := k2) (k3 := k3) (k5 := k5) (mN := mN) PySem.F.excBase_ValueError (by decide +kernel) PySem.F.excBase_ValueError (T.hasType hb) hh (plain_args hl) hni ?_
  refine Go.after' (go_glob (Ψ := Ψ) (Φ := fun a σ' => a = .ref Ca ∧ σ' = σ) C S hk hn np hd (by unfold globV; rw [hmg]; exact ⟨rfl, rfl⟩)) fun fv s₁ a σ₁ ra S₁ st₁ q => ?_
  obtain ⟨rfl, rfl⟩ := q
  simp only [Rel] at ra; subst ra
  refine ⟨rfl, evalArgs_ok hl (wpAny_mono (snd_seq (pos := cpos) (Ψ := fun _ _ => False) (Φ := fun as σ₂ => as = [.str m] ∧ σ₂ = σ₁) hl C S₁ ⟨rfl, rfl⟩) (fun vs s₂ q₂ => ?_) fun e s' q₂ => ?_)⟩
  · obtain ⟨as, σ₂, rs, S₂, st₂, rfl, rfl⟩ := q₂
    have hz : vs.length = 1 := rs.length
    refine ⟨rfl, by show vs.length ≤ sizeLine; rw [hz]; unfold sizeLine; omega, S₂.keep _ _ hC, hN.keeps S₂.keep, T.keeps S₂.keep, fun h' e M => ?_⟩
    obtain ⟨t, ht, _, _⟩ := M.there
    exact ⟨e, .ref Ca, ρ, σ₂, rfl, ⟨mine_none S₂ M.new, ⟨Ca, rfl⟩, _, _, ht, ⟨rfl, rfl⟩, rfl, ⟨by show 5 < 6; (first | with_reducible assumption | with_reducible exact Nat.lt_of_lt_of_le (by assumption) (by decide) | omega), rfl⟩, .inl rfl⟩, S₂.same (s' := { s₂ with heap := h' }) M.keeps, (st₁.trans st₂).trans (.keeps M.keeps), p⟩
  · obtain ⟨_, _, _, _, _, _, _, _, _, z⟩ := q₂
    exact z.elim
theorem snd_try {body hb : List Stmt} {b₀ : Stmt} {x y : Str} {np hpos pos : Pos} {bd hd : List Sm} (hbd : SndB G n env body (tss G n bd)) (hhd : SndB G 9 env (b₀ :: hb) (tss G 9 hd)) (xd : (x == ("__debug__" : Str)) = false) (xn : x ≠ "__name__") (xk : env.kindOf x = some .globalImplicit)
    (yk : env.kindOf y = some .local) (y0 : y ≠ ".0") : SndS G n env (.Try body [.ExceptHandler (some (.Name x np)) (some y) (b₀ :: hb) hpos] [] [] pos) (ts G n (.try_ bd x y hd)) := by
  intro B H A ρ σ s Φ Ψ C F S p
  obtain ⟨h10, p⟩ := p
  show wpAny G.M A (exec (.Try body [.ExceptHandler (some (.Name x np)) (some y) (b₀ :: hb) hpos] [] [] pos) env) _ _ s
  rw [arm_exec_Try]
  refine wpAny_bind (wpAny_standAt (wpAny_tryStmt_except (wpAny_mono (hbd C F S p) (fun f s₁ q => ?_) fun e s₁ q => ?_)))
  · obtain ⟨fl, ρ', σ', rf, S', st, p'⟩ := q
    cases fl with
    | next =>
      obtain rfl : f = .next := rf
      exact wpAny_pure ⟨.next, ρ', σ', rfl, S', st, p'⟩
    | brk => obtain rfl : f = .brk := rf; exact ⟨.brk, ρ', σ', rfl, S', st, p'⟩
    | cont => obtain rfl : f = .cont := rf; exact ⟨.cont, ρ', σ', rfl, S', st, p'⟩
    | ret a =>
      obtain ⟨v, rfl, rv⟩ := rf
      exact ⟨.ret a, ρ', σ', ⟨v, rfl, rv⟩, S', st, p'⟩
  · obtain ⟨ea, cls, ρ₁, σ₁, rfl, fly, S₁, st₁, Ca, hmg, hex, hall⟩ := q
    refine note_frame C.A F S₁ fly fun s₂ S₂ f₂ st₂ => ?_
    refine set_flight S₂ f₂ fun s₃ S₃ f₃ st₃ => ?_
    obtain ⟨new, ⟨D, rfl⟩, oe, vs, he, hc, hdv, hsz, T, h1, newT, hTe, oT, ts', hT, hTc, hTd, hTs⟩ := id f₃
    have aE := fields_apart S₃ he hdv
    have aT := fields_apart S₃ hT hTd
    have e1 : ea ≠ env.locals := aE.1
    -- what is hidden while the class is looked up: the exception and its traceback
    have newT' : Mine1 B (hideE H ea oe) σ₁ T := ⟨newT.base, by rw [hidE_ne hTe]; exact newT.hid, newT.sto⟩
    have SA := (S₃.hidE new he hdv).hidE newT' hT hTd
    have AH : AOk B (hideE H ea oe) env 9 (A.mark (some (.ref ea))) := C.A.handler new.hid h10 hdv hsz
    have C2 : Cx G B (hideE (hideE H ea oe) T oT) (A.mark (some (.ref ea))) env 9 := ⟨C.T, (C.E.hidE aE.1 aE.2).hidE aT.1 aT.2, AH.hidE2 newT'.hid⟩
    refine wpAny_handleBy_cons (codeAny_handlers_test (wpAny_mono (go_glob (Ψ := fun _ _ _ => False) (Φ := fun a σ' => a = .ref Ca ∧ σ' = σ₁) C2 SA xk xn np xd (by unfold globV; rw [hmg]; exact ⟨rfl, rfl⟩)) (fun c s₄ q => ?_) fun e s' q => ?_)) (by intro q; cases q)
    rotate_left
    · obtain ⟨_, _, _, _, _, _, _, _, z⟩ := q
      exact z.elim
    obtain ⟨a, σ₄, ra, S₄, st₄, rfl, rfl⟩ := q
    simp only [Rel] at ra; subst ra
    have hT₄ : s₄.heap.get? T = some oT := hid_at S₄ hTd
    have S₄' := S₄.unhidE newT'.hid
    have he₄ : s₄.heap.get? ea = some oe := hid_at S₄' hdv
    have S₄'' := S₄'.unhidE new.hid
    have st₄' : Step H s₃ s₄ := (st₄.unhidE hT hTd).unhidE he hdv
    refine W.exm_one (inK_at C2 S₄) (inst_exn he₄ hc.1 hc.2 hdv).type hex _ _ _ s₄ (fun _ _ e => e) ?_
    show codeAny _ _ _ _ s₄
    refine codeAny_handlers_suite_as ?_
    have f₄ : FliesT B H σ₄ s₄.heap ea (.ref D) := ⟨new, ⟨D, rfl⟩, oe, vs, he₄, hc, hdv, hsz, T, h1, newT, hTe, oT, ts', hT₄, hTc, hTd, hTs⟩
    refine set_flight S₄'' f₄ fun s₅ S₅ f₅ st₅ => ?_
    obtain ⟨_, _, oe5, vs5, he5, hc5, hd5, hsz5, _⟩ := id f₅
    have SB := S₅.hidE new he5 hd5
    have FB : FrameOk B (hideE H ea oe5) env := F.hidE aE.1 aE.2
    have AB : AOk B (hideE H ea oe5) env 9 (A.mark (some (.ref ea))) := C.A.handler new.hid h10 hd5 hsz5
    refine store_ok (a := .exn ea (.ref D)) FB (.inl yk) SB ?_ fun s₆ S₆ st₆ => ?_
    · simp only [Rel]
      exact ⟨trivial, D, oe5, vs5, rfl, he5, hc5, hd5⟩
    refine wpAny_mono (hhd ⟨C.T, FB.toEnvOk, AB⟩ FB S₆ (hall ea)) (fun f s₇ q => ?_) fun x s₇ q => ?_
    · obtain ⟨fl, ρ₂, σ₂, rf, S₇, st₇, p₇⟩ := q
      have S₇' := S₇.unhidE new.hid
      have st₆' : Step H s₅ s₆ := st₆.unhidE he5 hd5
      have st₇' : Step H s₆ s₇ := st₇.unhidE (hid_at S₆ hd5) hd5
      refine name_gone F yk y0 S₇' fun s₈ ρ₃ S₈ r₃ st₈ => ?_
      have rf' : RelF H s₈.heap fl f := by
        cases fl with
        | next => exact rf
        | brk => exact rf
        | cont => exact rf
        | ret a =>
          obtain ⟨v, e, rv⟩ := rf
          exact ⟨v, e, (Rel.dom (fun a items _ z => hidE_none new.hid z) rv).grow st₈.grow⟩
      exact ⟨fl, ρ₃, σ₂, rf', S₈, ((((((st₁.trans st₂).trans st₃).trans st₄').trans st₅).trans st₆').trans st₇').trans st₈, p₇ ρ₃ r₃⟩
    · obtain ⟨_, _, _, _, _, _, _, _, z⟩ := q
      exact z.elim
end
end Mine
set_option maxRecDepth 100000
namespace Mine
open PySem PyProof.Rows

variable {G : PG}
section
variable {B : Heap} {H : Hid} {A : Around} {env : Env} {n : Nat} {ρ : Loc} {σ : Sto} {s s₁ : Shared} {Q : Unit → Shared → Prop} {E : Value → Shared → Prop}
/-- a list's item is stored: the list as it stands then -/
theorem set_list {prog : Program} {w : World} {l : Addr} {items : Array Value} {m : Nat} {k : Int} {t : Tok} {v : Value} (ho : s.heap.get? l = some ⟨.type "list", none, .seq items m, #[]⟩) (h0 : 0 ≤ k) (hfit : k < 2 ^ 63) (hn : k < items.size)
    (hQ : Q () { s with heap := s.heap.update l (Obj.mapSeq (·.setIfInBounds k.toNat v)) }) : wpAny (model prog w) A (setItem (.ref l) (.int k t) v) Q E s := by
  have hl : s.heap.IsList l items := isList_of ho
  unfold setItem
  try with_reducible refine wpAny_holding ?_
  first | refine wpAny_bind (wpAny_pure ?_) | skip
  refine wpAny_bind (wpAny_sequenceKey hl.typeIs (by decide) ?_)
  refine wpAny_bind (wpAny_callSpecial?_slot (name := Str.ofString "__setitem__") hl.typeIs PySem.slot_list_setitem
    (wpAny_call_entry PySem.slot_list_setitem hl.typeIs PySem.entry_list_setitem ?_ (PySem.args_list_setitem _ _ _)))
  show wpAny _ _ (Builtin.List.listSubscript? (.int k t) >>= _) _ _ s
  refine wpAny_bind (wpAny_listSubscript_int (fitsIndex_of h0 hfit) ?_)
  clear hfit
  obtain ⟨j, rfl⟩ := Int.eq_ofNat_of_zero_le h0
  have hj : j < items.size := by omega
  have hx' : items[j]? = some items[j] := Array.getElem?_eq_getElem hj
  show wpAny _ _ ((seqItemAt l j >>= fun r => pure (r.map (j, ·))) >>= _) _ _ s
  refine wpAny_bind (wpAny_bind (wpAny_seqItemAt ho rfl (wpAny_pure ?_)))
  rw [hx']
  show wpAny _ _ (setSeqItemAt l j v >>= _) _ _ s
  refine wpAny_bind (wpAny_setSeqItemAt ho rfl ?_)
  first
    | exact wpAny_bind (wpAny_pure (wpAny_pure ⟨.none, rfl, wpAny_pure hQ⟩))
    | exact wpAny_pure ⟨.none, rfl, wpAny_pure hQ⟩
theorem sitem_list_ok {l : Addr} {vs : List AV} {a : AV} {v : Value} {k : Int} {t : Tok} (S : St G B H env ρ σ s) (hq : σ l = some (.list vs)) (ra : Rel H s.heap a v) (h0 : 0 ≤ k) (h1 : k < vs.length) (h2 : k < 2 ^ 62)
    (h : ∀ s', St G B H env ρ (upd σ l (.list (vs.set k.toNat a))) s' → Step H s s' → Q () s') : wpAny G.M A (setItem (.ref l) (.int k t) v) Q E s := by
  obtain ⟨items, m, ho, rl⟩ := S.listAt (lstOf_list hq)
  have hz : items.size = vs.length := by rw [← Array.length_toList, rl.length]
  refine set_list ho h0 (by first | decide | with_reducible exact lv hn | with_reducible exact lv1 hn | with_reducible exact lv2 hn | with_reducible exact Int.natCast_nonneg _ | omega) (by first | decide | with_reducible exact lv hn | with_reducible exact lv1 hn | with_reducible exact lv2 hn | with_reducible exact Int.natCast_nonneg _ | omega) ?_
  have hd : (Obj.mapSeq (·.setIfInBounds k.toNat v) ⟨.type "list", none, .seq items m, #[]⟩) = ⟨.type "list", none, .seq (items.setIfInBounds k.toNat v) (if (items.setIfInBounds k.toNat v).size == items.size then m else m + 1), #[]⟩ := rfl
  have hg := Heap.get?_update_self (h := s.heap) (Obj.mapSeq (·.setIfInBounds k.toNat v)) ho (by rw [hd]; rfl)
  rw [hd] at hg
  obtain ⟨S', st⟩ := S.putList (s' := { s with heap := s.heap.update l (Obj.mapSeq (·.setIfInBounds k.toNat v)) }) (vs' := vs.set k.toNat a) hq (fun b o nb e => by rw [Heap.get?_update_other _ _ (Ne.symm nb)]; exact e) hg
    (fun g => by simpa using (rl.grow g).set k.toNat (ra.grow g)) rfl rfl
  exact h _ S' st

/-! ### dicts -/
theorem sitem_dictI_ok {l : Addr} {kvs : List (Int × AV)} {a : AV} {v : Value} {k : Int} {t : Tok} (S : St G B H env ρ σ s) (hq : σ l = some (.dictI kvs)) (ra : Rel H s.heap a v) (hz : kvs.length < sizeLine)
    (h : ∀ s', St G B H env ρ (upd σ l (.dictI (putI k a kvs))) s' → Step H s s' → Q () s') : wpAny G.M A (setItem (.ref l) (.int k t) v) Q E s := by
  obtain ⟨vs, D, e, r⟩ := (S.store l _ hq).1
  have nd : (vs.map (·.1)).Nodup := by obtain ⟨_, _, _, _, _, _, _, _, q⟩ := D; exact q
  refine wpAny_setItem_pairs (knd := intKind G.prog G.w) (intKind_is G.prog G.w k t) D (fun h' D' hs' => ?_) (by have := congrArg List.length e; simp at this; omega)
  have kk : ∀ b o, b ≠ l → s.heap.get? b = some o → h'.get? b = some o := fun b o nb e => hs'.extBut b o nb e
  have g : Grow H s.heap h' := by
    obtain ⟨o', ho', ht, hr⟩ := (S.store l _ hq).1.there
    exact .of_keepBut kk ht fun o'' vs e => by rw [ho'] at e; cases e; exact hr vs
  obtain ⟨i1, i2⟩ := put_stored (k := k) (ra.grow g) nd e (r.grow g)
  obtain ⟨S', _⟩ := S.put (s' := { s with heap := h', toks := s.toks + 1 }) (c := .dictI (putI k a kvs)) hq rfl kk ⟨_, D', i1, i2⟩
  exact h _ S' ⟨g, rfl, rfl⟩
theorem sitem_dictS_ok {l : Addr} {kvs : List (Str × AV)} {a : AV} {v : Value} {k : Str} {t : Tok} (S : St G B H env ρ σ s) (hq : σ l = some (.dictS kvs)) (ra : Rel H s.heap a v) (hz : kvs.length < sizeLine)
    (h : ∀ s', St G B H env ρ (upd σ l (.dictS (putI k a kvs))) s' → Step H s s' → Q () s') : wpAny G.M A (setItem (.ref l) (.str k t) v) Q E s := by
  obtain ⟨vs, D, e, r⟩ := (S.store l _ hq).1
  have nd : (vs.map (·.1)).Nodup := by obtain ⟨_, _, _, _, _, _, _, _, q⟩ := D; exact q
  refine wpAny_setItem_pairs (knd := strKind G.prog G.w) (strKind_is G.prog G.w k t) D (fun h' D' hs' => ?_) (by have := congrArg List.length e; simp at this; omega)
  have kk : ∀ b o, b ≠ l → s.heap.get? b = some o → h'.get? b = some o := fun b o nb e => hs'.extBut b o nb e
  have g : Grow H s.heap h' := by
    obtain ⟨o', ho', ht, hr⟩ := (S.store l _ hq).1.there
    exact .of_keepBut kk ht fun o'' vs e => by rw [ho'] at e; cases e; exact hr vs
  obtain ⟨i1, i2⟩ := put_stored (k := k) (ra.grow g) nd e (r.grow g)
  obtain ⟨S', _⟩ := S.put (s' := { s with heap := h', toks := s.toks + 1 }) (c := .dictS (putI k a kvs)) hq rfl kk ⟨_, D', i1, i2⟩
  exact h _ S' ⟨g, rfl, rfl⟩

theorem swaps_sub {e o i : Expr} {pt : Pos} {line : Nat} : swapsWith e (some (.Subscript o i pt)) line env = pure false := by cases e <;> rfl
theorem snd_sitem {o i value : Expr} {pt pos : Pos} {a b c : Ex} (h : Snd G n env value (tr G n c)) (ho : Snd G n env o (tr G n a)) (hi : Snd G n env i (tr G n b)) : SndS G n env (.Assign [.Subscript o i pt] value pos) (ts G n (.sitem a b c)) := by
  intro B H A ρ σ s Φ Ψ C F S p
  refine wpAny_Assign_Subscript (Go.stmt (h.v C S p) fun v s₁ c σ₁ rc S₁ st₁ p₁ => Go.stmt2 st₁ (ho.v C S₁ p₁) fun ov s₂ d σ₂ rd S₂ st₂ st₂' p₂ => Go.stmt2 st₂' (hi.v C S₂ p₂) fun iv s₃ e σ₃ re S₃ st₃ st₃' p₃ => ?_) swaps_sub
  have rc' := (rc.grow st₂.grow).grow st₃.grow
  unfold sitemV at p₃
  split at p₃
  · rename_i r
    simp only [Rel] at rd; subst rd
    split at p₃
    · rename_i vs hq
      split at p₃
      · rename_i k
        simp only [Rel] at re; obtain ⟨t, rfl⟩ := re
        obtain ⟨k0, k1, k2, p₃⟩ := p₃
        exact sitem_list_ok S₃ hq rc' k0 k1 k2 fun s' S' st' => ⟨.next, _, _, rfl, S', st₃'.trans st', p₃⟩
      · exact p₃.elim
    · rename_i kvs hq
      split at p₃
      · rename_i k
        simp only [Rel] at re; obtain ⟨t, rfl⟩ := re
        exact sitem_dictI_ok S₃ hq rc' p₃.1 fun s' S' st' => ⟨.next, _, _, rfl, S', st₃'.trans st', p₃.2⟩
      · exact p₃.elim
    · rename_i kvs hq
      split at p₃
      · rename_i k
        simp only [Rel] at re; obtain ⟨t, rfl⟩ := re
        exact sitem_dictS_ok S₃ hq rc' p₃.1 fun s' S' st' => ⟨.next, _, _, rfl, S', st₃'.trans st', p₃.2⟩
      · exact p₃.elim
    · exact p₃.elim
  · exact p₃.elim
end
end Mine
set_option maxRecDepth 100000
namespace Mine
open PySem PyProof.Rows

noncomputable def isLocB (sc : Scope) (x : Str) : Bool := sc.names.lookup x == some .local || sc.names.lookup x == some .cell
theorem isLocB_of {sc : Scope} {x : Str} (h : isLocB sc x = true) : isLoc sc x := by
  unfold isLocB at h
  simpa [isLoc] using h

noncomputable def cL (f : Stmt → Option Sm) : List Stmt → Option (List Sm)
  | [] => some []
  | s :: r => opt2 (· :: ·) (f s) (cL f r)

/-- a name bound to a comprehension -/
noncomputable def asgC (sc : Scope) (x : Str) (px : Pos) (elt : Expr) (cs : Scope) (vpos : Pos) : List Comprehension → Option Sm
  | [g] => match genE g with
    | some (y, iter, ifs) => if isLocB sc x && (swapB sc x px cs vpos) && compOk sc cs y && notSet iter then
        (opt2 (fun (f : List Ex → Ex) c => f c) (opt2 (fun a b c => Ex.comp a y b c) (cE 60 (relabelS cs sc) false elt) (cE 60 sc true iter)) (listE (cE 60 (relabelS cs sc) false) ifs)).map (.asg x)
      else if isLocB sc x && !(swapB sc x px cs vpos) then (cE 60 sc true (.ListComp elt [g] cs vpos)).map (.asg x) else none
    | none => none
  | _ => none
noncomputable def asgN (sc : Scope) (x : Str) (px : Pos) : Expr → Option Sm
  | .ListComp elt gens cs vpos => asgC sc x px elt cs vpos gens
  | value => if isLocB sc x && notComp value then (cE 60 sc true value).map (.asg x) else none
noncomputable def asgS (sc : Scope) (value : Expr) : Expr → Option Sm
  | .Name x px => asgN sc x px value
  | .Attribute o x _ => opt2 (fun a b => .sattr b x a) (cE 60 sc true value) (cE 60 sc true o)
  | .Subscript o i _ => opt2 (fun (g : Ex → Sm) c => g c) (opt2 (fun a b c => Sm.sitem b c a) (cE 60 sc true value) (cE 60 sc true o)) (cE 60 sc true i)
  | _ => none
noncomputable def forS (sc : Scope) (iter : Expr) (body : Option (List Sm)) : Expr → Option Sm
  | .Name x _ => if notSet iter && isLocB sc x then opt2 (.for_ x) (cE 60 sc true iter) body else none
  | .Tuple elts _ _ => match namesOf elts with
    | some xs => if notSet iter && xs.all (isLocB sc) then opt2 (.forT xs) (cE 60 sc true iter) body else none
    | none => none
  | _ => none
noncomputable def raiseS (sc : Scope) (cause : Option Expr) : Option Expr → Option Sm
  | some (.Call (.Name x _) [.Constant (.str m) _ _] [] _) => if cause.isNone && okStr x && (sc.names.lookup x == some .globalImplicit) then some (.raise x m) else none
  | _ => none
theorem raiseS_of {sc : Scope} {c e : Option Expr} {a : Sm} (h : raiseS sc c e = some a) : ∃ x np m k p1 cpos, e = some (.Call (.Name x np) [.Constant (.str m) k p1] [] cpos) ∧ c = none ∧ okStr x = true ∧ sc.names.lookup x = some .globalImplicit ∧ a = .raise x m := by
  unfold raiseS at h
  split at h
  · split at h
    · rename_i hm
      simp only [Bool.and_eq_true, Option.isNone_iff_eq_none, beq_iff_eq] at hm
      cases h; exact ⟨_, _, _, _, _, _, rfl, hm.1.1, hm.1.2, hm.2, rfl⟩
    · cases h
  · cases h
noncomputable def tryS (sc : Scope) (f : List Stmt → Option (List Sm)) (body : List Stmt) : List ExceptHandler → Option Sm
  | [.ExceptHandler (some (.Name x _)) (some y) (b₀ :: hb) _] => if okStr x && (sc.names.lookup x == some .globalImplicit) && (sc.names.lookup y == some .local) && (y != ".0") then opt2 (fun a b => .try_ a x y b) (f body) (f (b₀ :: hb)) else none
  | _ => none
theorem tryS_of {sc : Scope} {f : List Stmt → Option (List Sm)} {body : List Stmt} {hs : List ExceptHandler} {a : Sm} (h : tryS sc f body hs = some a) : ∃ x np y b₀ hb hpos bd hd, hs = [.ExceptHandler (some (.Name x np)) (some y) (b₀ :: hb) hpos] ∧ okStr x = true ∧ sc.names.lookup x = some .globalImplicit ∧ sc.names.lookup y = some .local ∧ y ≠ ".0" ∧ f body = some bd ∧ f (b₀ :: hb) = some hd ∧ a = .try_ bd x y hd := by
  unfold tryS at h
  split at h
  · split at h
    · rename_i hm
      simp only [Bool.and_eq_true, beq_iff_eq, bne_iff_ne] at hm
      obtain ⟨bd, hd, h1, h2, rfl⟩ := opt2_some h
      exact ⟨_, _, _, _, _, _, bd, hd, rfl, hm.1.1.1, hm.1.1.2, hm.1.2, hm.2, h1, h2, rfl⟩
    · cases h
  · cases h
noncomputable def cS : Nat → Scope → Stmt → Option Sm
  | 0, _, _ => none
  | k + 1, sc, st => match st with
    | .Assign ts value _ => match ts with
      | [t] => asgS sc value t
      | _ => none
    | .Expr value _ => if notComp value then (cE 60 sc true value).map .expr else none
    | .If test t f _ => opt2 (fun (g : List Sm → Sm) c => g c) (opt2 (fun a b c => Sm.ite a b c) (cE 60 sc true test) (cL (cS k sc) t)) (cL (cS k sc) f)
    | .For t iter body orelse _ => if orelse.isEmpty then forS sc iter (cL (cS k sc) body) t else none
    | .While test body orelse _ => if orelse.isEmpty then opt2 .while_ (cE 60 sc true test) (cL (cS k sc) body) else none
    | .Return v _ => match v with
      | some e => (cE 60 sc true e).map fun a => .ret (some a)
      | none => some (.ret none)
    | .Raise e c _ => raiseS sc c e
    | .Try body hs orelse final _ => if orelse.isEmpty && final.isEmpty then tryS sc (cL (cS k sc)) body hs else none
    | _ => none

section
variable {G : PG} {n : Nat} {env : Env}
theorem cL_ok {f : Stmt → Option Sm} (h : ∀ s a, f s = some a → SndS G n env s (ts G n a)) : ∀ {l : List Stmt} {as : List Sm}, cL f l = some as → SndB G n env l (tss G n as)
  | [], as, e => by cases e; exact snd_nil
  | x :: r, as, e => by
    obtain ⟨a, b, e1, e2, rfl⟩ := opt2_some e
    exact snd_cons (h _ _ e1) (cL_ok h e2)

theorem asgN_ok (hk : env.scope.kind = .function) (hf : env.frame = some env.locals ∧ env.cells.Pairwise fun x y => x.2 ≠ y.2) {x : Str} {px pos : Pos} {value : Expr} {a : Sm} (h : asgN env.scope x px value = some a) : SndS G n env (.Assign [.Name x px] value pos) (ts G n a) := by
  have so : ScOk env.scope true env := ⟨rfl, fun _ => hf⟩
  have ee : ∀ {e a}, cE 60 env.scope true e = some a → Snd G n env e (tr G n a) := fun q => cE_ok 60 so q
  unfold asgN at h
  split at h
  · unfold asgC at h
    split at h
    · split at h
      · rename_i hg
        obtain ⟨_, rfl⟩ := genE_of hg
        split at h
        · rename_i hm
          simp only [Bool.and_eq_true] at hm
          obtain ⟨e0, h0, rfl⟩ := Option.map_eq_some_iff.mp h
          obtain ⟨f, z, h1, h3, rfl⟩ := opt2_some h0
          obtain ⟨x, y, h4, h5, rfl⟩ := opt2_some h1
          intro B H A ρ σ s Φ Ψ C F S p
          exact asg_comp_ok (by rw [swaps_comp hk, hm.1.1.2]) (compOk_of hm.1.2) hm.2 (isLocB_of hm.1.1.1) F (ee h5) (fun cenv q => cE_ok 60 ⟨q, fun z => by cases z⟩ h4) (fun cenv q => listE_ok (fun e a w => cE_ok 60 ⟨q, fun z => by cases z⟩ w) h3) C S p
        · split at h
          · rename_i hm
            simp only [Bool.and_eq_true] at hm
            obtain ⟨e0, h0, rfl⟩ := Option.map_eq_some_iff.mp h
            have h2 := hm.2
            rw [Bool.not_eq_true'] at h2
            intro B H A ρ σ s Φ Ψ C F S p
            exact snd_asg (by rw [swaps_comp hk, h2]) (isLocB_of hm.1) (ee h0) C F S p
          · cases h
      · cases h
    · cases h
  · split at h
    · rename_i hm
      simp only [Bool.and_eq_true] at hm
      obtain ⟨e0, h0, rfl⟩ := Option.map_eq_some_iff.mp h
      intro B H A ρ σ s Φ Ψ C F S p
      exact snd_asg (swaps_notComp hm.2) (isLocB_of hm.1) (ee h0) C F S p
    · cases h
theorem cS_ok (hk : env.scope.kind = .function) (hf : env.frame = some env.locals ∧ env.cells.Pairwise fun x y => x.2 ≠ y.2) : ∀ (k n : Nat) {s : Stmt} {a : Sm}, cS k env.scope s = some a → SndS G n env s (ts G n a)
  | 0, _, _, _, h => by cases h
  | k + 1, n, s, a, h => by
    have ih : ∀ s a, cS k env.scope s = some a → SndS G n env s (ts G n a) := fun s a q => cS_ok hk hf k n q
    have so : ScOk env.scope true env := ⟨rfl, fun _ => hf⟩
    have ee : ∀ {e a}, cE 60 env.scope true e = some a → Snd G n env e (tr G n a) := fun q => cE_ok 60 so q
    cases s with
    | Assign ts value p =>
      cases ts with
      | nil => cases h
      | cons t r =>
        cases r with
        | cons _ _ => cases h
        | nil =>
          replace h : asgS env.scope value t = some a := h
          cases t with
          | Name x px => exact asgN_ok hk hf h
          | Attribute o x q =>
            obtain ⟨x, y, h1, h2, rfl⟩ := opt2_some (show opt2 (fun a b => Sm.sattr b x a) (cE 60 env.scope true value) (cE 60 env.scope true o) = some a from h)
            exact snd_sattr (ee h1) (ee h2)
          | Subscript o i q =>
            obtain ⟨f, z, h1, h3, rfl⟩ := opt2_some (show opt2 (fun (g : Ex → Sm) c => g c) (opt2 (fun a b c => Sm.sitem b c a) (cE 60 env.scope true value) (cE 60 env.scope true o)) (cE 60 env.scope true i) = some a from h)
            obtain ⟨x, y, h4, h5, rfl⟩ := opt2_some h1
            exact snd_sitem (ee h4) (ee h5) (ee h3)
          | _ => cases h
    | Expr value p =>
      replace h : (if notComp value then (cE 60 env.scope true value).map Sm.expr else none) = some a := h
      split at h
      · rename_i hm
        obtain ⟨e0, h0, rfl⟩ := Option.map_eq_some_iff.mp h
        exact snd_expr hk hm (ee h0)
      · cases h
    | If test t f p =>
      obtain ⟨f, z, h1, h3, rfl⟩ := opt2_some (show opt2 (fun (g : List Sm → Sm) c => g c) (opt2 (fun a b c => Sm.ite a b c) (cE 60 env.scope true test) (cL (cS k env.scope) t)) (cL (cS k env.scope) f) = some a from h)
      obtain ⟨x, y, h4, h5, rfl⟩ := opt2_some h1
      exact snd_ite (ee h4) (cL_ok ih h5) (cL_ok ih h3)
    | For t iter body orelse p =>
      replace h : (if orelse.isEmpty then forS env.scope iter (cL (cS k env.scope) body) t else none) = some a := h
      split at h
      · rename_i ho
        obtain rfl : orelse = [] := List.isEmpty_iff.mp ho
        cases t with
        | Name x px =>
          replace h : (if notSet iter && isLocB env.scope x then opt2 (Sm.for_ x) (cE 60 env.scope true iter) (cL (cS k env.scope) body) else none) = some a := h
          split at h
          · rename_i hm
            simp only [Bool.and_eq_true] at hm
            obtain ⟨x, y, h1, h2, rfl⟩ := opt2_some h
            exact snd_for hm.1 (isLocB_of hm.2) (ee h1) (cL_ok ih h2)
          · cases h
        | Tuple elts q r =>
          replace h : (match namesOf elts with | some xs => if notSet iter && xs.all (isLocB env.scope) then opt2 (Sm.forT xs) (cE 60 env.scope true iter) (cL (cS k env.scope) body) else none | none => none) = some a := h
          split at h
          · rename_i hx
            split at h
            · rename_i hm
              simp only [Bool.and_eq_true, List.all_eq_true] at hm
              obtain ⟨x, y, h1, h2, rfl⟩ := opt2_some h
              exact snd_forT hm.1 hx (fun x q => isLocB_of (hm.2 x q)) (ee h1) (cL_ok ih h2)
            · cases h
          · cases h
        | _ => cases h
      · cases h
    | While test body orelse p =>
      replace h : (if orelse.isEmpty then opt2 Sm.while_ (cE 60 env.scope true test) (cL (cS k env.scope) body) else none) = some a := h
      split at h
      · rename_i ho
        obtain rfl : orelse = [] := List.isEmpty_iff.mp ho
        obtain ⟨x, y, h1, h2, rfl⟩ := opt2_some h
        exact snd_while (ee h1) (cL_ok ih h2)
      · cases h
    | Return v p =>
      cases v with
      | none => cases h; exact snd_ret0
      | some e =>
        obtain ⟨e0, h0, rfl⟩ := Option.map_eq_some_iff.mp (show (cE 60 env.scope true e).map (fun a => Sm.ret (some a)) = some a from h)
        exact snd_ret (ee h0)
    | Raise e c p =>
      obtain ⟨x, np, m, k', p1, cpos, rfl, rfl, h1, h2, rfl⟩ := raiseS_of (show raiseS env.scope c e = some a from h)
      obtain ⟨o1, o2, o3, o4⟩ := okStr_of h1
      exact snd_raise o1 o4 h2
    | Try body hs orelse final p =>
      replace h : (if orelse.isEmpty && final.isEmpty then tryS env.scope (cL (cS k env.scope)) body hs else none) = some a := h
      split at h
      · rename_i ho
        simp only [Bool.and_eq_true, List.isEmpty_iff] at ho
        obtain ⟨rfl, rfl⟩ := ho
        obtain ⟨x, np, y, b₀, hb, hpos, bd, hd, rfl, h1, h2, h3, h4, h5, h6, rfl⟩ := tryS_of h
        obtain ⟨o1, o2, o3, o4⟩ := okStr_of h1
        exact snd_try (cL_ok ih h5) (cL_ok (fun s a q => cS_ok hk hf k 9 q) h6) o1 o4 h2 h3 h4
      · cases h
    | _ => cases h

/-- a def: its body's term answers for its calls -/
theorem wc_fn {f : Addr} {fd : FuncData} {body : List Stmt} {code : List Sm} {args : List AV} {σ : Sto} {Φ : PE} {Ψ : PY} (D : IsDef G f fd body) (hc : cL (cS 60 fd.scope) body = some code) (hl : args.length = fd.params.args.length)
    (h : tss G n code ((fd.params.args.map (·.arg)).zip args) σ (fun fl _ σ' => Φ fl.val σ') (fun c _ σ' => Ψ c σ')) : WC G (n + 1) (.ref f) args σ Φ Ψ := by
  refine wc_def D hl fun env he B H A s T F A' S => ?_
  have hk : env.scope.kind = .function := by rw [he]; exact D.kind
  rw [← he] at hc
  exact cL_ok (fun s a q => cS_ok hk ⟨F.fr, F.nodup⟩ 60 _ q) hc ⟨T, F.toEnvOk, A'⟩ F S h
end
end Mine
set_option maxRecDepth 100000
namespace Mine
open PySem PyProof.Rows

/-- what a top has left, by its heap -/
noncomputable def topPG (prog : Program) (w : World) (h₁ : Heap) (mg mb : Str → Option Value) (K : List (Addr × Obj)) (hK : W.Frag.In K h₁) (bi : ∀ x : Str, x ≠ "__name__" → mb x = bootBuiltins x) (nob : ∀ x ∈ bnames, mg x = none)
    (hg : h₁.Ns mainGlobals mg) (hb : h₁.Ns builtinsNs mb) (hlim : h₁.NoLimit) : PG where
  prog := prog
  w := w
  T := fun h => h₁.StaysIn h
  mg := mg
  mb := mb
  K := K
  inK := fun t a o e => t a o (hK a o e)
  bi := bi
  nob := nob
  keeps := fun t k b o e => k b o (t b o e)
  hg := fun t => hg.keeps t
  hb := fun t => hb.keeps t
  hlim := fun t => hlim.keeps t

theorem cells_nodup : ∀ (names : List (Str × NameKind)) (n : Nat) (acc : List (Str × Addr)), (names.map (·.1)).Nodup → (acc.map (·.1)).Nodup → (∀ x ∈ acc.map (·.1), x ∉ names.map (·.1)) → ((cellsFrom n names acc).map (·.1)).Nodup
  | [], _, _, _, h, _ => h
  | (y, k) :: r, n, acc, h1, h2, h3 => by
    obtain ⟨g1, g2⟩ := List.nodup_cons.mp h1
    unfold cellsFrom
    split
    · refine cells_nodup r _ _ g2 (List.nodup_cons.mpr ⟨fun z => h3 y z (.head _), h2⟩) fun x hx => ?_
      rcases List.mem_cons.mp hx with rfl | hx
      · exact g1
      · exact fun z => h3 x hx (.tail _ z)
    · exact cells_nodup r _ _ g2 h2 fun x hx z => h3 x hx (.tail _ z)

/-- a plain def by its parameters and scope -/
noncomputable def defOk (params : Arguments) (sc : Scope) : Bool :=
  params.posonlyargs.isEmpty && params.vararg.isNone && params.kwonlyargs.isEmpty && params.kwarg.isNone && decide ((params.args.map (·.arg)).Nodup) && !sc.isCoroutine && !sc.isGenerator && (sc.kind == .function)
    && params.args.all (fun x => isLocB sc x.arg) && sc.names.all (fun y => y.2 != .free) && decide ((sc.names.map (·.1)).Nodup)
theorem isDef_doc {G : PG} {a : Addr} {o : Obj} {name : Str} {params : Arguments} {body : List Stmt} {sc : Scope} {pm code doc : Value} {h₁ : Heap} (hT : ∀ {B : Heap}, G.T B → h₁.StaysIn B)
    (ho : h₁.get? a = some o) (hd : o.data = .func (Calls.docDef name params body sc pm code doc)) (hc : h₁.CodeRec code name) (hok : defOk params sc = true) : IsDef G a (Calls.docDef name params body sc pm code doc) body := by
  unfold defOk at hok
  simp only [Bool.and_eq_true, List.isEmpty_iff, Option.isNone_iff_eq_none, decide_eq_true_eq, Bool.not_eq_true', beq_iff_eq, List.all_eq_true, bne_iff_ne] at hok
  obtain ⟨⟨⟨⟨⟨⟨⟨⟨⟨⟨h1, h2⟩, h3⟩, h4⟩, h5⟩, h6⟩, h7⟩, h8⟩, h9⟩, h10⟩, h11⟩ := hok
  exact { at_ := fun t => ⟨o, hT t _ _ ho, hd⟩, code := fun t => hc.keeps (hT t), body := rfl, params := ⟨h1, h2, h3, h4, h5⟩, dflt := rfl, clo := rfl, glob := rfl, bltn := rfl, co := h6, gen := h7, kind := h8
          pk := fun x hx => isLocB_of (h9 x hx), nofree := fun x e => h10 _ (mem_of_lookup e) rfl, nodup := fun n => cells_nodup _ _ _ h11 List.nodup_nil (fun x hx => nomatch hx) }

theorem relL_ints {H : Hid} {h : Heap} {vs : List Value} {ns : List Int} (x : IntsAre vs ns) : RelL H h (ns.map .int) vs := by
  induction x with
  | nil => exact .nil
  | cons n t _ ih => exact .cons (by simp [Rel]) ih

/-- the law is called from the top -/
theorem top_call {G : PG} {fa l : Addr} {fd : FuncData} {body : List Stmt} {code : List Sm} {s : Shared} {ns : List Int} {x : Str} {items : Array Value} {m : Nat} (hT : G.T s.heap) (D : IsDef G fa fd body) (hc : cL (cS 60 fd.scope) body = some code) (hp : fd.params.args.map (·.arg) = [x])
    (root : ∃ o, s.heap.get? mainGlobals = some o) (hl : s.heap.get? l = some ⟨.type "list", none, .seq items m, #[]⟩) (hi : IntsAre items.toList ns)
    (h : tss G 40 code [(x, .ref l)] (upd (fun _ => none) l (.rlist (ns.map .int))) (fun fl _ _ => fl.val = .bool true) (fun _ _ _ => False)) :
    wpAny G.M callerA (call (.ref fa) [.ref l]) (fun v s' => v = .bool true ∧ s.heap.StaysIn s'.heap ∧ s'.gens = s.gens ∧ s'.os = s.os) (fun _ _ => False) s := by
  have hp1 : fd.params.args.length = 1 := by have := congrArg List.length hp; simpa using this
  obtain ⟨o, ho, hd⟩ := D.at_ hT
  refine wpAny_call (codeAny_call_cells (by decide +kernel) ho hd (G.hlim hT) (D.code hT) D.body (bind_plain D.params D.dflt (by simp [hp1])) D.clo (fun y hy => ?_) (fun s₁ q => ?_) D.co D.gen D.kind)
  · have hx' : y.1 ∈ fd.params.args.map (·.arg) := (List.of_mem_zip (show (y.1, y.2) ∈ _ from hy)).1
    obtain ⟨p, hp, hp'⟩ := List.mem_map.mp hx'
    rw [← hp']
    rcases D.pk p hp with q | q
    · exact .inl q
    · exact .inr ⟨q, cellsFrom_some' _ _ _ (.inl q)⟩
  · have k : ∀ b o, s.heap.get? b = some o → s₁.heap.get? b = some o := q.toInCall.keep
    have lt : ∀ b o, s.heap.get? b = some o → @LT.lt Nat instLTNat b s.heap.objs.size := fun b o e => Heap.lt_size e
    have hL : ∀ c, c ∈ (callEnvC fd s.heap.objs.size fa).cells → s.heap.objs.size < c.2 := fun c hc => q.above c.1 c.2 hc
    have hbig : ∀ a : Addr, s.heap.objs.size ≤ a → s.heap.get? a = none := fun a ha => none_of_not_some fun o e => Nat.lt_irrefl _ (Nat.lt_of_lt_of_le (lt a o e) ha)
    have F : FrameOk s.heap (fun _ => none) (callEnvC fd s.heap.objs.size fa) :=
      { kind := D.kind, glob := D.glob, bltn := D.bltn, loc := ⟨hbig _ (Nat.le_refl _), rfl⟩, apart := fun y hy => Nat.ne_of_gt (hL y hy), own := fun y hy => ⟨hbig _ (Nat.le_of_lt (hL y hy)), rfl⟩, fr := rfl, nodup := q.apart }
    have S : St G s.heap (fun _ => none) (callEnvC fd s.heap.objs.size fa) [(x, .ref l)] (upd (fun _ => none) l (.rlist (ns.map .int))) s₁ := by
      rw [hp] at q
      have nd : (([x].zip [Value.ref l]).map (·.1)).Nodup := by simp
      have r₁ : RelL (fun _ => none) s₁.heap [AV.ref l] [Value.ref l] := .one (by simp [Rel])
      refine ⟨k, fun a o e => (by cases e), ⟨⟨_, q.toInCall.ns, fun y hy _ => ?_⟩, fun y hy => ?_, fun c hc => ⟨_, q.cell c.1 c.2 (lookup_of_mem_nodup' (D.nodup _) hc)⟩⟩, fun a c e => ?_, root, fun a c e w => ?_⟩
      · rw [bindL_lookup _ _ _ y nd hy, Option.or_none]
        exact relO_zip (ns := [x]) y r₁
      · have hc : (callEnvC fd s.heap.objs.size fa).kindOf y = some .cell := hy.elim id fun q => absurd q (D.nofree y)
        have hs := cellsFrom_some' (x := y) fd.scope.names (s.heap.objs.size + 1) [] (.inl hc)
        obtain ⟨c, hc'⟩ := Option.isSome_iff_exists.mp hs
        refine ⟨c, _, hc', q.cell y c hc', ?_⟩
        rw [bindC_lookup _ _ _ y nd (by rw [hc]; decide), Option.or_none]
        exact relO_zip (ns := [x]) y r₁
      · by_cases z : a = l
        · subst z
          rw [upd_same] at e; cases e
          refine ⟨⟨items, m, k _ _ hl, ?_⟩, fun w => (by cases w), rfl, ?_, fun y hy w => ?_⟩
          · exact relL_ints hi
          · exact Nat.ne_of_lt (lt _ _ hl)
          · have h1 := hL y hy
            have h2 := lt _ _ hl
            rw [w] at h1
            exact Nat.lt_irrefl _ (Nat.lt_trans h1 h2)
        · rw [upd_ne z] at e; cases e
      · by_cases z : a = l
        · subst z
          rw [upd_same] at e; cases e; cases w
        · rw [upd_ne z] at e; cases e
    have hA : AOk s.heap (fun _ => none) (callEnvC fd s.heap.objs.size fa) 40 (callerA.deeper (callEnvC fd s.heap.objs.size fa)) := by
      refine ⟨?_, ?_, .inl rfl, callEnvC fd s.heap.objs.size fa, [], Around.frames_deeper rfl, fun e he => (by cases he), fun _ => rfl, fun q => absurd rfl q⟩
      · show callerA.depth + 1 + 4 * 40 ≤ 900
        decide +kernel
      · show callerA.units + 3 + 40 * 40 ≤ 9000
        decide +kernel
    have C : Cx G s.heap (fun _ => none) (callerA.deeper (callEnvC fd s.heap.objs.size fa)) (callEnvC fd s.heap.objs.size fa) 40 := ⟨hT, F.toEnvOk, hA⟩
    refine wpAny_mono (cL_ok (fun s a q => cS_ok D.kind ⟨F.fr, F.nodup⟩ 60 _ q) hc C F S h) (fun f s' q' => ?_) fun e s' q' => ?_
    · obtain ⟨fl, ρ', σ', rf, S', st, p⟩ := q'
      obtain ⟨h', tk, e1⟩ := q.toInCall.same
      refine ⟨?_, S'.keep, st.gens.trans (by rw [e1]), st.os.trans (by rw [e1])⟩
      cases fl with
      | ret a =>
        obtain ⟨v, rfl, ra⟩ := rf
        simp only [Fl.val] at p; subst p
        simpa [Rel] using ra
      | next => simp [Fl.val] at p
      | brk => simp [Fl.val] at p
      | cont => simp [Fl.val] at p
    · obtain ⟨_, _, _, _, _, _, _, _, z⟩ := q'; exact z.elim
end Mine
set_option maxRecDepth 100000
namespace Mine
open PySem PyProof.Rows

variable {G : PG}
section
variable {B : Heap} {H : Hid} {A : Around} {env : Env} {n : Nat} {ρ : Loc} {σ : Sto} {s s₁ : Shared} {Φ : PE} {Ψ : PY}
theorem AOk.under {m : Nat} {c : Code} (x : AOk B H env (m + 1) A) (h1 : c.weight ≤ 4) (h2 : c.cUnits ≤ 40) (h3 : c.envs = []) : AOk B H env m (A.under c) := by
  refine ⟨?_, ?_, ?_, ?_⟩
  · have := x.depth; show A.depth + c.weight + 4 * m ≤ 900; omega
  · have := x.units; show A.units + c.cUnits + 40 * m ≤ 9000; omega
  · rcases x.hand with q | ⟨q, r⟩
    · exact .inl q
    · exact .inr ⟨(by first | decide | with_reducible exact lv hn | with_reducible exact lv1 hn | with_reducible exact lv2 hn | with_reducible exact Int.natCast_nonneg _ | omega), r⟩
  · have : (A.under c).frames = A.frames := by show pushEnvs c.envs A.frames = _; rw [h3]; rfl
    rw [this]; exact x.frames
/-- a class of ours is called: a new object, then its __init__ -/
theorem cc_make {C fI : Addr} {args : List AV} (hm : W.makesIn G.K C = true) (hi : W.findIn G.K (.ref C) "__init__" = some (some (.ref fI))) (hf : W.typeIn G.K (.ref fI) = some (.type "function"))
    (h : ∀ x d : Addr, σ x = none → σ d = none → d ≠ x → CC G n (.ref fI) (.ref x :: args) (upd (upd σ d (.ns [])) x (.inst C d)) (fun v σ' => v = .none ∧ Φ (.ref x) σ') Ψ) : CC G (n + 1) (.ref C) args σ Φ Ψ := by
  intro B H A env ρ s vs fv hT hE hA S r rf
  simp only [Rel] at rf; subst rf
  obtain ⟨hh, g, d, t, os⟩ := s
  have X : W.Frag.In G.K hh := fun a o e => S.keep a o (G.inK hT a o e)
  refine W.make_core (W.makes_of X hm) (W.looks_findIn X hi) (fun self => W.bind_fn X self hf) (.inl rfl) ?_
  have k1 : ∀ b o, hh.get? b = some o → (hh.push W.emptyDict).get? b = some o := fun b o e => Heap.get?_push_of_some _ e
  have S1 : St G B H env ρ (upd σ hh.objs.size (.ns [])) ⟨hh.push W.emptyDict, g, d, t, os⟩ := S.new k1 (Nat.le_refl _) (c := .ns []) ⟨#[], 0, Heap.get?_push_size _ rfl, trivial⟩
  have k2 : ∀ b o, (hh.push W.emptyDict).get? b = some o → ((hh.push W.emptyDict).push (W.instObj C hh.objs.size)).get? b = some o := fun b o e => Heap.get?_push_of_some _ e
  have hsz : (hh.push W.emptyDict).objs.size = hh.objs.size + 1 := Heap.size_push _ _
  have S2 : St G B H env ρ (upd (upd σ hh.objs.size (.ns [])) (hh.objs.size + 1) (.inst C hh.objs.size)) ⟨(hh.push W.emptyDict).push (W.instObj C hh.objs.size), g, d, t, os⟩ :=
    S1.new k2 (by rw [hsz]; exact Nat.le_refl _) (c := .inst C hh.objs.size) (by
      show Heap.get? _ _ = _
      rw [← hsz]
      exact Heap.get?_push_size _ rfl)
  have kk := fun b o e => k2 b o (k1 b o e)
  have st : Step H ⟨hh, g, d, t, os⟩ ⟨(hh.push W.emptyDict).push (W.instObj C hh.objs.size), g, d, t, os⟩ := .keeps kk
  refine codeAny_mono (h (hh.objs.size + 1) hh.objs.size (S.fresh (Nat.le_succ _)) (S.fresh (Nat.le_refl _)) (fun e => absurd (show hh.objs.size = hh.objs.size + 1 from e) (by first | decide | with_reducible exact lv hn | with_reducible exact lv1 hn | with_reducible exact lv2 hn | with_reducible exact Int.natCast_nonneg _ | omega)) B H _ env ρ _ (.ref (hh.objs.size + 1) :: vs) (.ref fI) hT hE (hA.under (Nat.le_trans (Nat.le_of_eq (show (Code.builtin "type.__call__" ⟨.ref C :: vs, []⟩).weight = 1 by kernel_rfl)) (by first | decide | with_reducible exact lv hn | with_reducible exact lv1 hn | with_reducible exact lv2 hn | with_reducible exact Int.natCast_nonneg _ | omega)) (Nat.le_trans (Nat.le_of_eq (show (Code.builtin "type.__call__" ⟨.ref C :: vs, []⟩).cUnits = 1 by kernel_rfl)) (by first | decide | with_reducible exact lv hn | with_reducible exact lv1 hn | with_reducible exact lv2 hn | with_reducible exact Int.natCast_nonneg _ | omega)) rfl) S2 (.cons (by simp [Rel]) (r.grow st.grow)) (by simp [Rel])) fun r s' z => ?_
  rcases r with e | (v | _ | _ | _)
  · exact QX.step st z
  · exact z.elim
  · exact z.elim
  · exact z.elim
  · obtain ⟨a, σ', ra, S', st', rfl, p⟩ := z
    simp only [Rel] at ra
    exact ⟨ra, .ref _, σ', by simp [Rel], S', st.trans st', p⟩
theorem cc_fn {f : Addr} {fd : FuncData} {body : List Stmt} {code : List Sm} {args : List AV} (D : IsDef G f fd body) (hc : cL (cS 60 fd.scope) body = some code) (hl : args.length = fd.params.args.length)
    (h : tss G n code ((fd.params.args.map (·.arg)).zip args) σ (fun fl _ σ' => Φ fl.val σ') (fun c _ σ' => Ψ c σ')) : CC G (n + 1) (.ref f) args σ Φ Ψ := by
  refine cc_def D hl fun env he B H A s T F A' S => ?_
  have hk : env.scope.kind = .function := by rw [he]; exact D.kind
  rw [← he] at hc
  exact cL_ok (fun s a q => cS_ok hk ⟨F.fr, F.nodup⟩ 60 _ q) hc ⟨T, F.toEnvOk, A'⟩ F S h
end
end Mine
set_option maxRecDepth 100000
namespace Mine
open PySem PyProof.Rows

theorem ofString_inj {a b : String} (h : Str.ofString a = Str.ofString b) : a = b := by
  rw [Str.ofString_eq_toList, Str.ofString_eq_toList] at h
  injection h with h
  have h : (a.toList.map Char.toNat) = (b.toList.map Char.toNat) := by simpa using h
  have key : ∀ (l m : List Char), l.map Char.toNat = m.map Char.toNat → l = m := by
    intro l
    induction l with
    | nil => intro m e; cases m with
      | nil => rfl
      | cons c m => simp at e
    | cons c l ih => intro m e; cases m with
      | nil => simp at e
      | cons d m =>
        simp only [List.map_cons, List.cons.injEq] at e
        rw [Char.toNat_inj.mp e.1, ih m e.2]
  exact String.toList_inj.mp (key _ _ h)
theorem strE (a b : String) : (Str.ofString a == Str.ofString b) = (a == b) := by
  by_cases q : a = b
  · subst q; simp
  · have : Str.ofString a ≠ Str.ofString b := fun e => q (ofString_inj e)
    rw [beq_eq_false_iff_ne.mpr this, beq_eq_false_iff_ne.mpr q]
theorem strQ (a b : String) : (Str.ofString a = Str.ofString b) = (a = b) := propext ⟨ofString_inj, fun e => e ▸ rfl⟩

theorem idx_nat {α : Type} {vs : List α} {k : Int} {v : α} (h0 : 0 ≤ k) (h : vs[k.toNat]? = some v) : idx vs k = some v := by
  unfold idx seqIndex?
  have hlt := (List.getElem?_eq_some_iff.mp h).1
  have h1 : ¬ k < 0 := by omega
  have h2 : k < vs.length := by omega
  simp only [h1, if_false, h0, h2, and_self, if_true, Option.bind_some]
  exact h
theorem idx0 {α : Type} (a : α) (r : List α) : idx (a :: r) 0 = some a := idx_nat (by first | decide | with_reducible exact lv hn | with_reducible exact lv1 hn | with_reducible exact lv2 hn | with_reducible exact Int.natCast_nonneg _ | omega) rfl
theorem idx1 {α : Type} (a b : α) (r : List α) : idx (a :: b :: r) 1 = some b := idx_nat (by first | decide | with_reducible exact lv hn | with_reducible exact lv1 hn | with_reducible exact lv2 hn | with_reducible exact Int.natCast_nonneg _ | omega) rfl
theorem idx2 {α : Type} (a b c : α) (r : List α) : idx (a :: b :: c :: r) 2 = some c := idx_nat (by first | decide | with_reducible exact lv hn | with_reducible exact lv1 hn | with_reducible exact lv2 hn | with_reducible exact Int.natCast_nonneg _ | omega) rfl

/-- σ' goes on from σ -/
noncomputable def Ext (σ σ' : Sto) : Prop := ∀ a c, σ a = some c → σ' a = some c
theorem Ext.refl (σ : Sto) : Ext σ σ := fun _ _ e => e
theorem Ext.trans {a b c : Sto} (x : Ext a b) (y : Ext b c) : Ext a c := fun _ _ e => y _ _ (x _ _ e)
theorem Ext.new {σ : Sto} {a : Addr} {c : Cell} (h : σ a = none) : Ext σ (upd σ a c) := fun b d e => by
  rw [upd_ne]; exact e
  intro q; subst q; rw [h] at e; cases e
theorem Ext.lst {σ σ' : Sto} (x : Ext σ σ') {a : Addr} {vs : List AV} (h : lstOf σ a = some vs) : lstOf σ' a = some vs := by
  unfold lstOf at h ⊢
  split at h
  · rename_i q; rw [x _ _ q]; exact h
  · rename_i q; rw [x _ _ q]; exact h
  · cases h
theorem lst_new (σ : Sto) (a : Addr) (vs : List AV) : lstOf (upd σ a (.list vs)) a = some vs := by unfold lstOf; rw [upd_same]

end Mine
set_option maxRecDepth 100000
namespace Mine
open PySem PyProof.Rows

/-- a def of the row -/
structure Fn1 (G : PG) (name : Str) (params : List Str) (code : List Sm) (f : Addr) : Prop where
  mg : G.mg name = some (.ref f)
  keep : KeepOk G f
  def_ : ∃ fd body, IsDef G f fd body ∧ cL (cS 60 fd.scope) body = some code ∧ fd.params.args.map (·.arg) = params

theorem lk_eq {x : Str} {a : AV} {ρ : Loc} : (putA x a ρ).lookup x = some a := by simp [putA_lookup]
theorem lk_ne {x y : Str} {a : AV} {ρ : Loc} {v : Option AV} (h : y ≠ x) (e : ρ.lookup y = v) : (putA x a ρ).lookup y = v := by rw [putA_lookup, if_neg h]; exact e
section
variable {G : PG} {n : Nat} {σ : Sto} {Φ : PE} {Ψ : PY}
theorem Fn1.wc {name : Str} {params : List Str} {code : List Sm} {f : Addr} {args : List AV} (F : Fn1 G name params code f) (hl : args.length = params.length)
    (h : tss G n code (params.zip args) σ (fun fl _ σ' => Φ fl.val σ') (fun c _ σ' => Ψ c σ')) : WC G (n + 1) (.ref f) args σ Φ Ψ := by
  obtain ⟨fd, body, D, hc, hp⟩ := F.def_
  refine wc_fn D hc ?_ (by rw [hp]; exact h)
  rw [hl, ← hp, List.length_map]
theorem Fn1.call {name : Str} {params : List Str} {code : List Sm} {f : Addr} {es : List Ex} {ρ : Loc} (F : Fn1 G name params code f) (h : seqV (trs G n es) ρ σ (fun as σ₁ => WC G n (.ref f) as σ₁ Φ Ψ) Ψ) : (tr G n (.call name es)).v ρ σ Φ Ψ := by
  exact ⟨f, F.mg, F.keep, h⟩

theorem globB {x : Str} {v : Value} {Φ : AV → Prop} (hx : x ∈ bnames) (hb : bootBuiltins x = some v) : globV G x Φ = Φ (.val v) := by
  unfold globV
  rw [G.nob x hx]
  simp [hb]
theorem glob_int {Φ : AV → Prop} : globV G "int" Φ = Φ (.val (.type "int")) := globB (by decide) (by decide +kernel)
theorem glob_bool {Φ : AV → Prop} : globV G "bool" Φ = Φ (.val (.type "bool")) := globB (by decide) (by decide +kernel)
theorem glob_tuple {Φ : AV → Prop} : globV G "tuple" Φ = Φ (.val (.type "tuple")) := globB (by decide) (by decide +kernel)
theorem glob_str {Φ : AV → Prop} : globV G "str" Φ = Φ (.val (.type "str")) := globB (by decide) (by decide +kernel)
theorem glob_list {Φ : AV → Prop} : globV G "list" Φ = Φ (.val (.type "list")) := globB (by decide) (by decide +kernel)

/-- isinstance by kinds -/
theorem bi_isi {a : AV} {T : String} {t : Value} {b : Bool} (h1 : kindV σ a = some t) (h2 : W.kitOne G.K t (.type T) = some b) (p : Φ (.bool b) σ) (h3 : a.exnK G.K := by trivial) : biV G n "isinstance" [a, .val (.type T)] σ Φ := by
  unfold biV
  rw [if_neg (by rw [strQ]; decide), if_pos rfl]
  exact Exists.intro T (Exists.intro t (Exists.intro b ⟨rfl, h1, h2, h3, p⟩))

/-- a comprehension over values, nothing but new objects made -/
theorem comp_lst {l : Addr} {vs : List AV} {eT : Tr} {x : Str} {iT : List Tr} {ρ : Loc} (I : List AV → List AV → Sto → Prop) (i0 : I vs [] σ) (iv : ∀ rest acc σ₂, I rest acc σ₂ → lstOf σ₂ l = some vs)
    (turn : ∀ v rest acc σ₂, I (v :: rest) acc σ₂ → acc.length < sizeLine ∧ allT iT (putA x v ρ) σ₂ (fun b σ₃ => if b = true then eT.v (putA x v ρ) σ₃ (fun a σ₄ => I rest (acc ++ [a]) σ₄) (fun _ _ => False) else I rest acc σ₃) (fun _ _ => False))
    (fin : ∀ acc σ₂, I [] acc σ₂ → ∀ a, σ₂ a = none → Φ (.ref a) (upd σ₂ a (.list acc))) :
    (Src.lst l).pair = false ∧ ∃ vs, (Src.lst l).items σ = some vs ∧ ∃ I : List AV → List AV → Sto → Prop, I vs [] σ ∧ (∀ rest acc σ₂, I rest acc σ₂ → (Src.lst l).items σ₂ = some vs) ∧
      (∀ v rest acc σ₂, I (v :: rest) acc σ₂ → acc.length < sizeLine ∧ allT iT (putA x v ρ) σ₂ (fun b σ₃ => if b = true then eT.v (putA x v ρ) σ₃ (fun a σ₄ => I rest (acc ++ [a]) σ₄) (fun _ _ => False) else I rest acc σ₃) (fun _ _ => False)) ∧
      (∀ acc σ₂, I [] acc σ₂ → ∀ a, σ₂ a = none → Φ (.ref a) (upd σ₂ a (.list acc))) :=
  ⟨rfl, vs, iv _ _ _ i0, I, i0, iv, turn, fin⟩
end
end Mine
set_option maxRecDepth 100000
namespace Mine
open PySem PyProof.Rows

section
variable {G : PG} {n : Nat} {ρ : Loc} {σ : Sto} {Φ : PE} {Ψ : PY} {ΦB : Bool → Sto → Prop} {ΦI : Src → Sto → Prop} {x y f : Str} {a b c : Ex} {as bs : List Ex} {op o2 : Operator} {co cp : CmpOp} {v : AV}
theorem tv_nm : (tr G n (.nm x)).v ρ σ Φ Ψ = (match ρ.lookup x with | some a => Φ a σ | none => False) := rfl
theorem tv_gl : (tr G n (.gl x)).v ρ σ Φ Ψ = globV G x fun a => Φ a σ := rfl
theorem tv_cst : (tr G n (.cst v)).v ρ σ Φ Ψ = Φ v σ := rfl
theorem tv_bin : (tr G n (.bin op a b)).v ρ σ Φ Ψ = (tr G n a).v ρ σ (fun a σ₁ => (tr G n b).v ρ σ₁ (fun b σ₂ => binV op a b σ₂ Φ) Ψ) Ψ := rfl
theorem tv_cmp : (tr G n (.cmp co a b)).v ρ σ Φ Ψ = (tr G n a).v ρ σ (fun a σ₁ => (tr G n b).v ρ σ₁ (fun b σ₂ => cmpV G co a b σ₂ fun q => Φ (.bool q) σ₂) Ψ) Ψ := rfl
theorem tv_and : (tr G n (.and_ as)).v ρ σ Φ Ψ = andV (trs G n as) ρ σ Φ Ψ := rfl
theorem tv_or : (tr G n (.or_ as)).v ρ σ Φ Ψ = orV (trs G n as) ρ σ Φ Ψ := rfl
theorem tv_not : (tr G n (.not_ a)).v ρ σ Φ Ψ = (tr G n a).v ρ σ (fun a σ₁ => ∃ b, truthV σ₁ a = some b ∧ Φ (.bool (!b)) σ₁) Ψ := rfl
theorem tv_sub : (tr G n (.sub a b)).v ρ σ Φ Ψ = (tr G n a).v ρ σ (fun a σ₁ => (tr G n b).v ρ σ₁ (fun k σ₂ => subV a k σ₂ Φ) Ψ) Ψ := rfl
theorem tv_slc {l h : Option Ex} : (tr G n (.slc a l h)).v ρ σ Φ Ψ = (tr G n a).v ρ σ (fun a σ₁ => optV (tro G n l) ρ σ₁ (fun l σ₂ => optV (tro G n h) ρ σ₂ (fun h σ₃ => slcV a l h σ₃ Φ) Ψ) Ψ) Ψ := rfl
theorem tv_attr : (tr G n (.attr a x)).v ρ σ Φ Ψ = (tr G n a).v ρ σ (fun o σ₁ => attrV G o x σ₁ Φ) Ψ := rfl
theorem tv_bi : (tr G n (.bi f as)).v ρ σ Φ Ψ = seqV (trs G n as) ρ σ (fun as σ₁ => biV G n f as σ₁ Φ) Ψ := rfl
theorem tv_meth : (tr G n (.meth a x as)).v ρ σ Φ Ψ = (tr G n a).v ρ σ (fun a σ₁ => methV G n a x σ₁ (fun k => seqV (trs G n as) ρ σ₁ k Ψ) Φ Ψ) Ψ := rfl
theorem tv_list : (tr G n (.list as)).v ρ σ Φ Ψ = seqV (trs G n as) ρ σ (fun as σ₁ => newList σ₁ as Φ) Ψ := rfl
theorem tv_tup : (tr G n (.tup as)).v ρ σ Φ Ψ = seqV (trs G n as) ρ σ (fun as σ₁ => as.length ≤ sizeLine ∧ Φ (.tup as) σ₁) Ψ := rfl
theorem tv_neg : (tr G n (.neg a)).v ρ σ Φ Ψ = (tr G n a).v ρ σ (fun a σ₁ => match a with | .int i => Φ (.int (-i)) σ₁ | _ => False) Ψ := rfl
theorem tv_comp : (tr G n (.comp a x b as)).v ρ σ Φ Ψ = compV (tr G n a) x (tr G n b) (trs G n as) ρ σ Φ Ψ := rfl
theorem tv_call {fa : Addr} {ps : List Str} {code : List Sm} (F : Fn1 G f ps code fa) : seqV (trs G n as) ρ σ (fun as σ₁ => WC G n (.ref fa) as σ₁ Φ Ψ) Ψ → (tr G n (.call f as)).v ρ σ Φ Ψ := fun h => F.call h
theorem tv_lrange : (tr G n (.lrange a)).v ρ σ Φ Ψ = (tr G n a).v ρ σ (fun a σ₁ => ∃ N : Nat, a = .int N ∧ 10 ≤ n ∧ N ≤ 100000 ∧ newList σ₁ (rangeL 0 N 1) Φ) Ψ := rfl
theorem sq_nil {Φ : List AV → Sto → Prop} : seqV (trs G n []) ρ σ Φ Ψ = Φ [] σ := rfl
theorem sq_cons {Φ : List AV → Sto → Prop} : seqV (trs G n (a :: as)) ρ σ Φ Ψ = (tr G n a).v ρ σ (fun v σ₁ => seqV (trs G n as) ρ σ₁ (fun vs σ₂ => Φ (v :: vs) σ₂) Ψ) Ψ := rfl
/-! tests -/
abbrev TestOf (T : Tr) : Prop := ∀ ρ σ Φ Ψ, T.t ρ σ Φ Ψ = T.v ρ σ (fun a σ₁ => ∃ b, truthV σ₁ a = some b ∧ Φ b σ₁) Ψ
theorem tt_nm : (tr G n (.nm x)).t ρ σ ΦB Ψ = (tr G n (.nm x)).v ρ σ (fun a σ₁ => ∃ b, truthV σ₁ a = some b ∧ ΦB b σ₁) Ψ := rfl
theorem tt_cmp : (tr G n (.cmp co a b)).t ρ σ ΦB Ψ = (tr G n a).v ρ σ (fun a σ₁ => (tr G n b).v ρ σ₁ (fun b σ₂ => cmpV G co a b σ₂ fun q => ∃ z, truthV σ₂ (.bool q) = some z ∧ ΦB z σ₂) Ψ) Ψ := rfl
theorem tt_bi : (tr G n (.bi f as)).t ρ σ ΦB Ψ = seqV (trs G n as) ρ σ (fun as σ₁ => biV G n f as σ₁ fun a σ₁ => ∃ b, truthV σ₁ a = some b ∧ ΦB b σ₁) Ψ := rfl
theorem tt_sub : (tr G n (.sub a b)).t ρ σ ΦB Ψ = (tr G n a).v ρ σ (fun a σ₁ => (tr G n b).v ρ σ₁ (fun k σ₂ => subV a k σ₂ fun a σ₁ => ∃ b, truthV σ₁ a = some b ∧ ΦB b σ₁) Ψ) Ψ := rfl
theorem tt_call {fa : Addr} {ps : List Str} {code : List Sm} (F : Fn1 G f ps code fa) : seqV (trs G n as) ρ σ (fun as σ₁ => WC G n (.ref fa) as σ₁ (fun a σ₁ => ∃ b, truthV σ₁ a = some b ∧ ΦB b σ₁) Ψ) Ψ → (tr G n (.call f as)).t ρ σ ΦB Ψ := fun h => by
  exact ⟨fa, F.mg, F.keep, h⟩
theorem tt_not : (tr G n (.not_ a)).t ρ σ ΦB Ψ = (tr G n a).t ρ σ (fun b σ₁ => ΦB (!b) σ₁) Ψ := rfl
theorem tt_and : (tr G n (.and_ as)).t ρ σ ΦB Ψ = allT (trs G n as) ρ σ ΦB Ψ := rfl
theorem tt_or : (tr G n (.or_ as)).t ρ σ ΦB Ψ = anyT (trs G n as) ρ σ ΦB Ψ := rfl
theorem all_nil : allT (trs G n []) ρ σ ΦB Ψ = ΦB true σ := rfl
theorem all_cons : allT (trs G n (a :: as)) ρ σ ΦB Ψ = (tr G n a).t ρ σ (fun b σ₁ => if b = true then allT (trs G n as) ρ σ₁ ΦB Ψ else ΦB false σ₁) Ψ := rfl
theorem any_nil : anyT (trs G n []) ρ σ ΦB Ψ = ΦB false σ := rfl
theorem any_cons : anyT (trs G n (a :: as)) ρ σ ΦB Ψ = (tr G n a).t ρ σ (fun b σ₁ => if b = true then ΦB true σ₁ else anyT (trs G n as) ρ σ₁ ΦB Ψ) Ψ := rfl
theorem and_one : andV (trs G n [a]) ρ σ Φ Ψ = (tr G n a).v ρ σ Φ Ψ := rfl
theorem and_cons : andV (trs G n (a :: b :: as)) ρ σ Φ Ψ = (tr G n a).v ρ σ (fun v σ₁ => ∃ z, truthV σ₁ v = some z ∧ if z = true then andV (trs G n (b :: as)) ρ σ₁ Φ Ψ else Φ v σ₁) Ψ := rfl
theorem or_one : orV (trs G n [a]) ρ σ Φ Ψ = (tr G n a).v ρ σ Φ Ψ := rfl
theorem or_cons : orV (trs G n (a :: b :: as)) ρ σ Φ Ψ = (tr G n a).v ρ σ (fun v σ₁ => ∃ z, truthV σ₁ v = some z ∧ if z = true then Φ v σ₁ else orV (trs G n (b :: as)) ρ σ₁ Φ Ψ) Ψ := rfl
/-! iterations -/
theorem ti_nm {l : Addr} (h : ρ.lookup x = some (.ref l)) (p : ΦI (.lst l) σ) : (tr G n (.nm x)).i ρ σ ΦI Ψ := by
  show (match ρ.lookup x with | some a => _ | none => False)
  rw [h]; exact p
theorem ti_range : (tr G n (.bi "range" as)).i ρ σ ΦI Ψ = seqV (trs G n as) ρ σ (fun as σ₁ => 10 ≤ n ∧ rangeV as fun vs => ΦI (.vals vs) σ₁) Ψ := by
  show biI G n "range" _ ρ σ ΦI Ψ = _
  unfold biI; rw [if_pos rfl]

/-- a comprehension over a list by its name -/
theorem comp_nm {l : Addr} {vs : List AV} (h : ρ.lookup y = some (.ref l)) (I : List AV → List AV → Sto → Prop) (i0 : I vs [] σ) (iv : ∀ rest acc σ₂, I rest acc σ₂ → lstOf σ₂ l = some vs)
    (turn : ∀ v rest acc σ₂, I (v :: rest) acc σ₂ → acc.length < sizeLine ∧ allT (trs G n as) (putA x v ρ) σ₂ (fun b σ₃ => if b = true then (tr G n a).v (putA x v ρ) σ₃ (fun a σ₄ => I rest (acc ++ [a]) σ₄) (fun _ _ => False) else I rest acc σ₃) (fun _ _ => False))
    (fin : ∀ acc σ₂, I [] acc σ₂ → ∀ a, σ₂ a = none → Φ (.ref a) (upd σ₂ a (.list acc))) : (tr G n (.comp a x (.nm y) as)).v ρ σ Φ Ψ := by
  rw [tv_comp]
  exact ti_nm h (comp_lst I i0 iv turn fin)
end
end Mine
set_option maxRecDepth 100000
namespace Mine
open PySem PyProof.Rows

theorem mapO_map {α : Type} {f : AV → Option PyData} (g : α → AV) (e : α → PyData) : ∀ (l : List α), (∀ x ∈ l, f (g x) = some (e x)) → mapO f (l.map g) = some (l.map e)
  | [], _ => rfl
  | a :: r, h => by
    simp only [List.map_cons, mapO, h a (.head _), mapO_map g e r fun x hx => h x (.tail _ hx)]
theorem canAll {α : Type} (e : α → PyData) : ∀ (l : List α), (∀ x ∈ l, (e x).canLay0 = true) → PyData.canLayAll0 (l.map e) = true
  | [], _ => rfl
  | a :: r, h => by
    simp only [List.map_cons, PyData.canLayAll0, h a (.head _), canAll e r fun x hx => h x (.tail _ hx), Bool.and_self]
theorem mapO_depth {f : AV → Option PyData} {k : Nat} (h : ∀ a d, f a = some d → d.depth ≤ k) : ∀ (l : List AV) (ds : List PyData), mapO f l = some ds → PyData.depthAll ds ≤ k
  | [], ds, e => by simp only [mapO, Option.some.injEq] at e; subst e; simp [PyData.depthAll]
  | a :: r, ds, e => by
    simp only [mapO] at e
    split at e
    · rename_i b bs h1 h2
      cases e
      have := h _ _ h1
      have := mapO_depth h r bs h2
      simp only [PyData.depthAll]; omega
    · cases e
theorem datum_depth {σ : Sto} : ∀ (k : Nat) (a : AV) (d : PyData), datum σ k a = some d → d.depth ≤ k
  | 0, a, d, e => by cases a <;> simp [datum] at e
  | k + 1, a, d, e => by
    have ih := datum_depth (σ := σ) k
    cases a with
    | none => simp [datum] at e; subst e; simp [PyData.depth]
    | bool b => simp [datum] at e; subst e; simp [PyData.depth]
    | int b => simp [datum] at e; subst e; simp [PyData.depth]
    | str b => simp [datum] at e; subst e; simp [PyData.depth]
    | tup vs =>
      simp only [datum, Option.map_eq_some_iff] at e
      obtain ⟨ds, h, rfl⟩ := e
      have := mapO_depth ih vs ds h
      simp only [PyData.depth]; omega
    | ref a =>
      simp only [datum] at e
      split at e
      · simp only [Option.map_eq_some_iff] at e
        obtain ⟨ds, h, rfl⟩ := e
        have := mapO_depth ih _ ds h
        simp only [PyData.depth]; omega
      · cases e
    | val _ => simp [datum] at e
    | exn _ _ => simp [datum] at e
theorem shaped_of {σ : Sto} {a : AV} {d : PyData} (h : datum σ 6 a = some d) (c : d.canLay0 = true) : SeqAt.shaped d = true := by
  have := datum_depth 6 a d h
  unfold SeqAt.shaped
  rw [c, Bool.true_and, decide_eq_true_eq]; omega
/-- a list's datum -/
theorem datum_lst {σ : Sto} {a : Addr} {vs : List AV} {ds : List PyData} {k : Nat} (h : lstOf σ a = some vs) (e : mapO (datum σ k) vs = some ds) : datum σ (k + 1) (.ref a) = some (.list ds) := by
  simp only [datum, h, e, Option.map_some]
/-- two lists of the same items -/
theorem eq_lst {σ : Sto} {a b : Addr} {vs : List AV} {ds : List PyData} {Φ : Bool → Prop} (ha : lstOf σ a = some vs) (hb : lstOf σ b = some vs) (e : mapO (datum σ 5) vs = some ds) (c : PyData.canLayAll0 ds = true) (p : Φ true) : eqV σ (.ref a) (.ref b) Φ := by
  simp only [eqV]
  have h1 := datum_lst ha e
  have h2 := datum_lst hb e
  have hc : (PyData.list ds).canLay0 = true := c
  exact ⟨_, _, h1, h2, shaped_of h1 hc, shaped_of h2 hc, by rw [SeqAt.eqv_refl _ hc]; exact p⟩
/-- two things of the same datum -/
theorem eq_same {σ : Sto} {a b : AV} {d : PyData} {Φ : Bool → Prop} (h1 : datum σ 6 a = some d) (h2 : datum σ 6 b = some d) (c : d.canLay0 = true) (p : Φ true) : ∃ da db, datum σ 6 a = some da ∧ datum σ 6 b = some db ∧ SeqAt.shaped da = true ∧ SeqAt.shaped db = true ∧ Φ (PyData.eqv da db) :=
  ⟨d, d, h1, h2, shaped_of h1 c, shaped_of h2 c, by rw [SeqAt.eqv_refl _ c]; exact p⟩
theorem eq_data {σ : Sto} {a b : AV} {d e : PyData} {q : Bool} {Φ : Bool → Prop} (h1 : datum σ 6 a = some d) (h2 : datum σ 6 b = some e) (c : d.canLay0 = true) (c2 : e.canLay0 = true) (z : PyData.eqv d e = q) (p : Φ q) : ∃ da db, datum σ 6 a = some da ∧ datum σ 6 b = some db ∧ SeqAt.shaped da = true ∧ SeqAt.shaped db = true ∧ Φ (PyData.eqv da db) :=
  ⟨d, e, h1, h2, shaped_of h1 c, shaped_of h2 c2, by rw [z]; exact p⟩
theorem eq_refs {σ : Sto} {a b : Addr} {d e : PyData} {q : Bool} {Φ : Bool → Prop} (h1 : datum σ 6 (.ref a) = some d) (h2 : datum σ 6 (.ref b) = some e) (c : d.canLay0 = true) (c2 : e.canLay0 = true) (z : PyData.eqv d e = q) (p : Φ q) : eqV σ (.ref a) (.ref b) Φ := by
  simp only [eqV]; exact eq_data h1 h2 c c2 z p
end Mine
set_option maxRecDepth 100000
namespace Mine
open PySem PyProof.Rows

/-- what stands behind a statement in its block -/
noncomputable def aft (G : PG) (n : Nat) (r : List Sm) (Φ : PS) (Ψ : PX) : PS := fun fl ρ σ => match fl with
  | .next => tss G n r ρ σ Φ Ψ
  | .brk => Φ .brk ρ σ
  | .cont => Φ .cont ρ σ
  | .ret a => Φ (.ret a) ρ σ
section
variable {G : PG} {n : Nat} {ρ : Loc} {σ : Sto} {Φ : PS} {Ψ : PX} {x : Str} {e o i c it : Ex} {r t f body : List Sm} {xs : List Str} {a : AV}
theorem val_ret : (Fl.ret a).val = a := rfl
theorem bl_asg : tss G n (.asg x e :: r) ρ σ Φ Ψ = (tr G n e).v ρ σ (fun a σ₁ => tss G n r (putA x a ρ) σ₁ Φ Ψ) (fun c σ₁ => Ψ c ρ σ₁) := rfl
theorem bl_expr : tss G n (.expr e :: r) ρ σ Φ Ψ = (tr G n e).v ρ σ (fun _ σ₁ => tss G n r ρ σ₁ Φ Ψ) (fun c σ₁ => Ψ c ρ σ₁) := rfl
theorem bl_sattr : tss G n (.sattr o x e :: r) ρ σ Φ Ψ = (tr G n e).v ρ σ (fun a σ₁ => (tr G n o).v ρ σ₁ (fun b σ₂ => sattrV G b x a σ₂ fun σ₃ => tss G n r ρ σ₃ Φ Ψ) (fun c σ₁ => Ψ c ρ σ₁)) (fun c σ₁ => Ψ c ρ σ₁) := rfl
theorem bl_ret : tss G n (.ret (some e) :: r) ρ σ Φ Ψ = (tr G n e).v ρ σ (fun a σ₁ => Φ (.ret a) ρ σ₁) (fun c σ₁ => Ψ c ρ σ₁) := rfl
theorem bl_ite : tss G n (.ite c t f :: r) ρ σ Φ Ψ = (tr G n c).t ρ σ (fun b σ₁ => if b = true then tss G n t ρ σ₁ (aft G n r Φ Ψ) Ψ else tss G n f ρ σ₁ (aft G n r Φ Ψ) Ψ) (fun c σ₁ => Ψ c ρ σ₁) := rfl
theorem bl_for : tss G n (.for_ x it body :: r) ρ σ Φ Ψ = (tr G n it).i ρ σ (fun src σ₁ => src.pair = false ∧ loopV src (bind1 x) (tss G n body) ρ σ₁ (aft G n r Φ Ψ) Ψ) (fun c σ₁ => Ψ c ρ σ₁) := rfl
theorem bl_forT : tss G n (.forT xs it body :: r) ρ σ Φ Ψ = (tr G n it).i ρ σ (fun src σ₁ => src.pair = true ∧ 10 ≤ n ∧ loopV src (bindT xs) (tss G n body) ρ σ₁ (aft G n r Φ Ψ) Ψ) (fun c σ₁ => Ψ c ρ σ₁) := rfl
abbrev Rz (P : Prop) : Prop := P
theorem Rz.to {P Q : Prop} (h : Rz P) (f : P → Q) : Rz Q := f h
theorem do_raise {m : Str} {C : Addr} (h1 : G.mg x = some (.ref C)) (h2 : 10 ≤ n) (h3 : ExcOk G x C) (h : Rz (Ψ (.ref C) ρ σ)) : tss G n (.raise x m :: r) ρ σ Φ Ψ := ⟨C, h1, h2, h3, h⟩
theorem bl_try {y : Str} {bd hd : List Sm} : tss G n (.try_ bd x y hd :: r) ρ σ Φ Ψ = (10 ≤ n ∧ tss G n bd ρ σ (aft G n r Φ Ψ) (fun c ρ₁ σ₁ => ∃ C, G.mg x = some (.ref C) ∧ W.exmOne G.K c (.ref C) = some true ∧
      ∀ e, tss G 9 hd (putA y (.exn e c) ρ₁) σ₁ (fun fl ρ₂ σ₂ => ∀ ρ₃ : Loc, (∀ z, z ≠ y → ρ₃.lookup z = ρ₂.lookup z) → aft G n r Φ Ψ fl ρ₃ σ₂) (fun _ _ _ => False))) := rfl
theorem bl_while : tss G n (.while_ c body :: r) ρ σ Φ Ψ = whileV (tr G n c) (tss G n body) ρ σ (aft G n r Φ Ψ) Ψ := rfl
end
section
variable {G : PG} {n : Nat} {ρ : Loc} {σ : Sto} {Φ : PE} {Ψ : PY} {ΦB : Bool → Sto → Prop} {ΦP : Bool → Prop} {i j : Int} {p q : Bool} {s t : Str} {vs us : List AV} {l r : Addr}
theorem bn_add : binV .Add (.int i) (.int j) σ Φ = Φ (.int (i + j)) σ := rfl
theorem bn_lst (h : lstOf σ l = some vs) (g : lstOf σ r = some us) : binV .Add (.ref l) (.ref r) σ Φ = newList σ (vs ++ us) Φ := by
  simp only [binV, addV, h, g]
theorem cm_lt : cmpV G .Lt (.int i) (.int j) σ ΦP = ΦP (decide (i < j)) := rfl
theorem cm_le : cmpV G .LtE (.int i) (.int j) σ ΦP = ΦP (decide (i ≤ j)) := rfl
theorem cm_gt : cmpV G .Gt (.int i) (.int j) σ ΦP = ΦP (decide (i > j)) := rfl
theorem cm_eqi : cmpV G .Eq (.int i) (.int j) σ ΦP = ΦP (i == j) := rfl
theorem cm_ne {a b : AV} : cmpV G .NotEq a b σ ΦP = eqV σ a b fun r => ΦP (!r) := rfl
theorem cm_eq {a b : AV} : cmpV G .Eq a b σ ΦP = eqV σ a b ΦP := rfl
theorem cm_nei : cmpV G .NotEq (.int i) (.int j) σ ΦP = ΦP (!(i == j)) := rfl
theorem cm_eqs : cmpV G .Eq (.str s) (.str t) σ ΦP = ΦP (s == t) := rfl
theorem cm_nes : cmpV G .NotEq (.str s) (.str t) σ ΦP = ΦP (!(s == t)) := rfl
theorem sb_tup {v : AV} (h0 : -(2 ^ 62) ≤ i) (h1 : i < 2 ^ 62) (h : idx vs i = some v) (g : Φ v σ) : subV (.tup vs) (.int i) σ Φ := ⟨v, h0, h1, h, g⟩
theorem sb_lst {v : AV} (hl : lstOf σ l = some vs) (h0 : -(2 ^ 62) ≤ i) (h1 : i < 2 ^ 62) (h : idx vs i = some v) (g : Φ v σ) : subV (.ref l) (.int i) σ Φ := by
  simp only [subV, hl]; exact ⟨v, h0, h1, h, g⟩
/-- a choice out of a display: whatever is chosen -/
theorem sb_any {P : AV → Prop} (hl : lstOf σ l = some vs) (h0 : 0 ≤ i) (h1 : i < vs.length) (h2 : vs.length ≤ 1000) (hp : ∀ v ∈ vs, P v) (g : ∀ v, P v → Φ v σ) : subV (.ref l) (.int i) σ Φ := by
  have hl' : i.toNat < vs.length := by omega
  exact sb_lst hl (by first | decide | with_reducible exact lv hn | with_reducible exact lv1 hn | with_reducible exact lv2 hn | with_reducible exact Int.natCast_nonneg _ | omega) (by first | decide | with_reducible exact lv hn | with_reducible exact lv1 hn | with_reducible exact lv2 hn | with_reducible exact Int.natCast_nonneg _ | omega) (idx_nat h0 (List.getElem?_eq_getElem hl')) (g _ (hp _ (List.getElem_mem hl')))
theorem new_lst (hz : vs.length ≤ sizeLine) (g : ∀ a, σ a = none → Ext σ (upd σ a (.list vs)) → Φ (.ref a) (upd σ a (.list vs))) : newList σ vs Φ := ⟨hz, fun a ha => g a ha (Ext.new ha)⟩
/-- a comprehension over values -/
noncomputable def CompOk (G : PG) (n : Nat) (a : Ex) (x : Str) (as : List Ex) (ρ : Loc) (vs : List AV) (σ : Sto) (Φ : PE) : Prop :=
  (Src.vals vs).pair = false ∧ ∃ ws, (Src.vals vs).items σ = some ws ∧ ∃ I : List AV → List AV → Sto → Prop, I ws [] σ ∧ (∀ rest acc σ₂, I rest acc σ₂ → (Src.vals vs).items σ₂ = some ws) ∧
      (∀ v rest acc σ₂, I (v :: rest) acc σ₂ → acc.length < sizeLine ∧ allT (trs G n as) (putA x v ρ) σ₂ (fun b σ₃ => if b = true then (tr G n a).v (putA x v ρ) σ₃ (fun a σ₄ => I rest (acc ++ [a]) σ₄) (fun _ _ => False) else I rest acc σ₃) (fun _ _ => False)) ∧
      (∀ acc σ₂, I [] acc σ₂ → ∀ a, σ₂ a = none → Φ (.ref a) (upd σ₂ a (.list acc)))
theorem tv_compR {a : Ex} {x : Str} {as es : List Ex} : (tr G n (.comp a x (.bi "range" es) as)).v ρ σ Φ Ψ = seqV (trs G n es) ρ σ (fun us σ₁ => 10 ≤ n ∧ rangeV us fun vs => CompOk G n a x as ρ vs σ₁ Φ) Ψ := by
  rw [tv_comp]
  unfold compV
  rw [ti_range]
  rfl
theorem fmod_in (c : Int) {m : Int} (hm : 0 < m) : 0 ≤ Int.fmod c m ∧ Int.fmod c m < m := ⟨Int.fmod_nonneg_of_pos c hm, Int.fmod_lt_of_pos c hm⟩
theorem app_lst {x : Addr} {ev : (List AV → Sto → Prop) → Prop} (h : σ x = some (.list vs)) (k : ev (fun as σ₁ => match σ₁ x with | some (.list vs) => listM "append" x vs as σ₁ Φ | _ => False)) : methV G n (.ref x) "append" σ ev Φ Ψ := by
  unfold methV
  simp only [h]
  exact ⟨by simp, k⟩
theorem lm_app {x : Addr} {a : AV} (hz : vs.length < sizeLine) (g : Φ .none (upd σ x (.list (vs ++ [a])))) : listM "append" x vs [a] σ Φ := by
  unfold listM
  rw [if_pos rfl]
  exact ⟨hz, g⟩
theorem sl_lst {lo hi : Option AV} {p q : Option Int} (hl : lstOf σ l = some vs) (h1 : optI lo = some p) (h2 : optI hi = some q) (h3 : ∀ k, p = some k → 0 ≤ k) (h4 : ∀ k, q = some k → 0 ≤ k) (hz : vs.length ≤ sizeLine) (g : newList σ (cutL vs p q) Φ) : slcV (.ref l) lo hi σ Φ := by
  simp only [slcV, h1, h2, hl]
  exact ⟨h3, h4, hz, g⟩
theorem op_none {ΦO : Option AV → Sto → Prop} : optV (tro G n none) ρ σ ΦO Ψ = ΦO none σ := rfl
theorem op_some {ΦO : Option AV → Sto → Prop} {e : Ex} : optV (tro G n (some e)) ρ σ ΦO Ψ = (tr G n e).v ρ σ (fun a σ₁ => ΦO (some a) σ₁) Ψ := rfl
theorem cut_hi {α : Type} {vs : List α} {k : Int} : cutL vs none (some k) = vs.take k.toNat := by simp [cutL]
end
end Mine
set_option maxRecDepth 100000
namespace Mine
open PySem PyProof.Rows

/-- a def of the row by the top -/
theorem fn1_top {p : Program} {loose : List Str} {mean : ExcName → Option Value} {mg mb : Str → Option Value} {h₁ : Heap} {G : PG} (T : Top p loose mean mg mb h₁) (hmg : G.mg = mg) (hT : ∀ {B : Heap}, G.T B → h₁.StaysIn B)
    (name : Str) (params : List Str) (code : List Sm)
    (hd : ((recsOf p).find? fun d => d.name == name).map (fun d => (defOk d.params d.scope, cL (cS 60 d.scope) d.body, d.params.args.map (·.arg))) = some (true, some code, params)) : ∃ f, Fn1 G name params code f := by
  obtain ⟨d, hf, he⟩ := Option.map_eq_some_iff.mp hd
  have hm := List.mem_of_find?_eq_some hf
  have hn : d.name = name := by simpa using List.find?_some hf
  simp only [Prod.mk.injEq] at he
  obtain ⟨h1, h2, h3⟩ := he
  obtain ⟨a, o, pm, cd, doc, g1, g2, g3, g4⟩ := T.fn d hm
  exact ⟨a, by rw [hmg, ← hn]; exact g1, .inr fun B t => ⟨o, _, hT t _ _ g2, g3⟩, _, _, isDef_doc hT g2 g3 g4 h1, h2, h3⟩
/-- the code of a def, by its name -/
noncomputable def DefIs (p : Program) (name : Str) (params : List Str) (code : List Sm) : Prop :=
  ((recsOf p).find? fun d => d.name == name).map (fun d => (defOk d.params d.scope, cL (cS 60 d.scope) d.body, d.params.args.map (·.arg))) = some (true, some code, params)
/-- the law is called from the top, and it is true -/
theorem top_law {p : Program} {loose : List Str} {mean : ExcName → Option Value} {mg mb : Str → Option Value} {G : PG} {s : Shared} {fa l : Addr} {ns : List Int} {vs : List Value} {x : Str} {code : List Sm}
    (T : Top p loose mean mg mb s.heap) (hmg : G.mg = mg) (hT : ∀ {B : Heap}, G.T B → s.heap.StaysIn B) (hT0 : G.T s.heap) (hd : DefIs p "law" [x] code) (hfa : mg "law" = some (.ref fa))
    (root : ∃ o, s.heap.get? mainGlobals = some o) (hl : s.heap.get? l = some { cls := .type "list", data := .seq vs.toArray }) (hi : IntsAre vs ns)
    (h : tss G 40 code [(x, .ref l)] (upd (fun _ => none) l (.rlist (ns.map .int))) (fun fl _ _ => fl.val = .bool true) (fun _ _ _ => False)) :
    wpAny G.M callerA (call (.ref fa) [.ref l]) (fun v s' => v = .bool true ∧ s.heap.StaysIn s'.heap ∧ s'.gens = s.gens ∧ s'.os = s.os) (fun _ _ => False) s := by
  obtain ⟨f, F⟩ := fn1_top T hmg hT _ _ _ hd
  have e : f = fa := by
    have := F.mg
    rw [hmg, hfa] at this
    cases this; rfl
  subst e
  obtain ⟨fd, body, D, hc, hp⟩ := F.def_
  exact top_call hT0 D hc hp root hl (by simpa using hi) h
noncomputable def noB (p : Program) (loose : List Str) : Bool := bnames.all fun x => !startupNames.contains x && !loose.contains x && !((recsOf p).map (·.name)).contains x && !((litsOf p).map (·.1)).contains x && !((clssOf p loose).map (·.name)).contains x
theorem nob_of {p : Program} {loose : List Str} {mean : ExcName → Option Value} {mg mb : Str → Option Value} {h : Heap} (T : Top p loose mean mg mb h) (e : noB p loose = true) : ∀ x ∈ bnames, mg x = none := by
  intro x hx
  have := List.all_eq_true.mp e x hx
  simp only [Bool.and_eq_true, Bool.not_eq_true', List.contains_eq_mem, decide_eq_false_iff_not] at this
  exact T.free x this.1.1.1.1 this.1.1.1.2 this.1.1.2 this.1.2 this.2
/-- the fixed part of a row -/
noncomputable def topG {p : Program} {loose : List Str} {mean : ExcName → Option Value} {mg mb : Str → Option Value} {h : Heap} (T : Top p loose mean mg mb h) (prog : Program) (w : World) (K : List (Addr × Obj)) (hK : W.Frag.In K h) (e : noB p loose = true) : PG :=
  topPG prog w h mg mb K hK T.builtins (nob_of T e) T.g T.b T.nolimit
theorem law_end {p : Program} {loose : List Str} {mean mean' : ExcName → Option Value} {mg mb : Str → Option Value} {s : Shared} (T : Top p loose mean mg mb s.heap) {prog : Program} {w : World} {K : List (Addr × Obj)} {hK : W.Frag.In K s.heap} {e : noB p loose = true} {fa l : Addr} {ns : List Int} {vs : List Value} {x : Str} {code : List Sm}
    {c : W.ClaimW} {cl : Str → Option Addr} {args : List W.WData} (hg : s.gens = #[]) (hr : ∀ cls, c.raises args cls = false) (hp : c.post args (.bool true) args = true)
    (hd : DefIs p "law" [x] code) (hfa : mg "law" = some (.ref fa)) (hl : s.heap.IsList l vs.toArray) (hw : W.Well w.params s.heap (.ref l) (W.ofPy (.list (ns.map .int)))) (hi : IntsAre vs ns)
    (h : tss (topG T prog w K hK e) 40 code [(x, .ref l)] (upd (fun _ => none) l (.rlist (ns.map .int))) (fun fl _ _ => fl.val = .bool true) (fun _ _ _ => False)) :
    wpAny (model prog w) callerA (call (.ref fa) [.ref l]) (fun v s' => W.GoodWG c cl mean' args s (.ok (.ret v)) s') (fun e s' => W.GoodWG c cl mean' args s (.error e) s') s := by
  cases hw with
  | list ho _ =>
    rename_i us _
    have e : us = vs := by
      obtain ⟨o, h1, h2, n, h3⟩ := hl
      rw [ho] at h1
      cases h1
      simp at h3
      exact h3.1
    subst e
    refine wpAny_mono (top_law (G := topG T prog w K hK e) T rfl (fun t => t) (fun _ _ q => q) hd hfa (let ⟨o, _, _, q, _⟩ := T.g; ⟨o, q⟩) ho hi h) ?_ fun _ _ z => z.elim
    rintro v s' ⟨rfl, k, g, o⟩
    exact W.GoodW.toG ⟨.inl ⟨_, _, [], rfl, hr, W.ReadsW.bool true, hp, fun _ => ⟨List.nodup_nil, fun _ hm => (nomatch hm)⟩⟩, k, o, g.trans hg⟩
theorem const_int {p : Program} {loose : List Str} {mean : ExcName → Option Value} {mg mb : Str → Option Value} {h : Heap} (T : Top p loose mean mg mb h) {x : Str} {i : Int} (e : valOf p x = some (.int i)) : ∃ t, mg x = some (.int i t) := by
  obtain ⟨v, e, r⟩ := T.const x _ e
  have := r h
  cases this
  exact ⟨_, e⟩
end Mine
set_option maxRecDepth 100000
set_option linter.unusedSimpArgs false
set_option linter.unusedVariables false
namespace Mine
open PySem PyProof.Rows

section
variable {G : PG} {n : Nat} {ρ : Loc} {σ : Sto} {Φ : PE} {Ψ : PY} {ΦI : Src → Sto → Prop} {ΦP : Bool → Prop} {x y : Str} {i : Int}
theorem bi_list {l : Addr} {vs : List AV} (h : lstOf σ l = some vs) (hz : vs.length ≤ sizeLine) (p : ∀ a, σ a = none → Ext σ (upd σ a (.list vs)) → Φ (.ref a) (upd σ a (.list vs))) : biV G n "list" [.ref l] σ Φ := by
  unfold biV
  rw [if_neg (by rw [strQ]; decide), if_neg (by rw [strQ]; decide), if_pos rfl]
  exact onLst_mk h ⟨hz, fun a ha => p a ha (Ext.new ha)⟩
theorem bi_len {l : Addr} {vs : List AV} (h : lstOf σ l = some vs) (hz : vs.length < 2 ^ 62) (p : Φ (.int vs.length) σ) : biV G n "len" [.ref l] σ Φ := by
  unfold biV
  rw [if_pos rfl]
  exact onLst_mk h ⟨hz, p⟩
theorem bi_lenT {vs : List AV} (hz : vs.length < 2 ^ 62) (p : Φ (.int vs.length) σ) : biV G n "len" [.tup vs] σ Φ := by
  unfold biV
  rw [if_pos rfl]
  exact And.intro hz p
theorem bi_max2 {j : Int} (hn : 10 ≤ n) (p : Φ (.int (max i j)) σ) : biV G n "max" [.int i, .int j] σ Φ := by
  unfold biV
  rw [if_neg (by rw [strQ]; decide), if_neg (by rw [strQ]; decide), if_neg (by rw [strQ]; decide), if_pos rfl]
  exact Or.inr (And.intro hn p)
theorem bi_intB {b : Bool} (p : Φ (.int (if b then 1 else 0)) σ) : biV G n "int" [.bool b] σ Φ := by
  unfold biV
  rw [if_neg (by rw [strQ]; decide), if_neg (by rw [strQ]; decide), if_neg (by rw [strQ]; decide), if_neg (by rw [strQ]; decide), if_neg (by rw [strQ]; decide), if_neg (by rw [strQ]; decide), if_pos rfl]
  exact p
theorem mt_join {ev : (List AV → Sto → Prop) → Prop} (k : ev (fun as σ₁ => arg1 as fun a => onLst σ₁ a fun vs => ∃ ts : List Str, vs = ts.map .str ∧ JoinOk x ts = true ∧ Φ (.str (Txt.join x ts)) σ₁)) : methV G n (.str x) "join" σ ev Φ Ψ := Or.inl ⟨rfl, k⟩
theorem cm_in {a b : AV} : cmpV G .In a b σ ΦP = inV G σ a b ΦP := rfl
theorem in_str : inV G σ (.str x) (.str y) ΦP = ΦP (Txt.contains y x) := rfl
theorem cm_isnone {a : AV} (h : a.novalue = true) : cmpV G .Is a .none σ ΦP = ΦP a.isNone := by
  show (a.novalue = true ∧ ΦP a.isNone) = _
  rw [h]; simp
theorem cm_isnotnone {a : AV} (h : a.novalue = true) : cmpV G .IsNot a .none σ ΦP = ΦP (!a.isNone) := by
  show (a.novalue = true ∧ ΦP (!a.isNone)) = _
  rw [h]; simp
theorem glob_val {z : Str} {v : Value} {ΦA : AV → Prop} (h : G.mg z = some v) : globV G z ΦA = ΦA (avOf v) := by unfold globV; rw [h]
end

theorem range_in {a b c : Int} {v : AV} (hc : 0 < c) (h : v ∈ rangeL a b c) : ∃ i : Int, v = .int i ∧ a ≤ i ∧ i < b := by
  unfold rangeL at h
  obtain ⟨i, hi, rfl⟩ := List.mem_map.mp h
  have hi := List.mem_range.mp hi
  refine ⟨_, rfl, ?_, ?_⟩
  · have : (0 : Int) ≤ (i : Int) * c := Int.mul_nonneg (by first | decide | with_reducible exact lv hn | with_reducible exact lv1 hn | with_reducible exact lv2 hn | with_reducible exact Int.natCast_nonneg _ | omega) (by first | decide | with_reducible exact lv hn | with_reducible exact lv1 hn | with_reducible exact lv2 hn | with_reducible exact Int.natCast_nonneg _ | omega)
    omega
  · unfold Builtin.Range.rangeSize at hi
    rw [if_pos hc] at hi
    split at hi
    · have h1 : (i : Int) ≤ (b - a - 1) / c := by omega
      have h2 : (i : Int) * c ≤ (b - a - 1) / c * c := Int.mul_le_mul_of_nonneg_right h1 (by first | decide | with_reducible exact lv hn | with_reducible exact lv1 hn | with_reducible exact lv2 hn | with_reducible exact Int.natCast_nonneg _ | omega)
      have h3 : (b - a - 1) / c * c ≤ b - a - 1 := Int.ediv_mul_le _ (by first | decide | with_reducible exact lv hn | with_reducible exact lv1 hn | with_reducible exact lv2 hn | with_reducible exact Int.natCast_nonneg _ | omega)
      omega
    · simp at hi
theorem range_len {a b c : Int} : (rangeL a b c).length = (Builtin.Range.rangeSize a b c).toNat := by simp [rangeL]
end Mine
set_option maxRecDepth 100000
set_option linter.unusedSimpArgs false
set_option linter.unusedVariables false
namespace Mine
open PySem PyProof.Rows

/-- a method of a class of ours -/
structure Mt (G : PG) (C : Addr) (m : Str) (params : List Str) (code : List Sm) (f : Addr) : Prop where
  get : W.plainGet G.K C m = true
  find : W.findIn G.K (.ref C) m = some (some (.ref f))
  fn : W.isFn G.K (.ref f) = true
  keep : W.keepIn G.K (.ref f) = true
  def_ : ∃ fd body, IsDef G f fd body ∧ cL (cS 60 fd.scope) body = some code ∧ fd.params.args.map (·.arg) = params
/-- a class of ours: its attributes are the instance's own -/
structure Cls (G : PG) (C : Addr) (as : List Str) : Prop where
  pg : W.plainGet G.K C "" = true
  hd : W.hasDictIn G.K C = true
  no : ∀ a ∈ as, W.findIn G.K (.ref C) a = some none
  sa : W.findIn G.K (.ref C) "__setattr__" = some (some (.builtin "object.__setattr__"))
  po : W.plainOver G.K C = true
/-- a class by its name, and its __init__ -/
structure Mk (G : PG) (name : Str) (C : Addr) (params : List Str) (code : List Sm) : Prop where
  mg : G.mg name = some (.ref C)
  keep : W.keepIn G.K (.ref C) = true
  makes : W.makesIn G.K C = true
  init : ∃ f, W.findIn G.K (.ref C) "__init__" = some (some (.ref f)) ∧ W.typeIn G.K (.ref f) = some (.type "function") ∧ ∃ fd body, IsDef G f fd body ∧ cL (cS 60 fd.scope) body = some code ∧ fd.params.args.map (·.arg) = params

section
variable {G : PG} {n : Nat} {ρ : Loc} {σ : Sto} {Φ : PE} {Ψ : PY} {C x d f : Addr} {m : Str} {ps : List Str} {code : List Sm} {as : List Str} {l : List (Str × AV)} {a : Str} {v : AV}
theorem Mt.wc {args : List AV} (F : Mt G C m ps code f) (hl : args.length = ps.length)
    (h : tss G n code (ps.zip args) σ (fun fl _ σ' => Φ fl.val σ') (fun c _ σ' => Ψ c σ')) : WC G (n + 1) (.ref f) args σ Φ Ψ := by
  obtain ⟨fd, body, D, hc, hp⟩ := F.def_
  refine wc_fn D hc ?_ (by rw [hp]; exact h)
  rw [hl, ← hp, List.length_map]
theorem mt_call {ev : (List AV → Sto → Prop) → Prop} (M : Mt G C m ps code f) (hx : σ x = some (.inst C d)) (hd : σ d = some (.ns l)) (hl : l.lookup m = none) (k : ev (fun as σ₁ => WC G n (.ref f) (.ref x :: as) σ₁ Φ Ψ)) : methV G n (.ref x) m σ ev Φ Ψ := by
  unfold methV
  simp only [hx, hd]
  exact ⟨f, hl, M.get, M.find, M.fn, M.keep, k⟩
theorem Mk.wc {name : Str} {args : List AV} (F : Mk G name C ps code) (hl : args.length + 1 = ps.length)
    (h : ∀ x d : Addr, σ x = none → σ d = none → d ≠ x → tss G n code (ps.zip (.ref x :: args)) (upd (upd σ d (.ns [])) x (.inst C d)) (fun fl _ σ' => fl.val = .none ∧ Φ (.ref x) σ') (fun c _ σ' => Ψ c σ')) : WC G (n + 2) (.ref C) args σ Φ Ψ := by
  obtain ⟨f, hi, hf, fd, body, D, hc, hp⟩ := F.init
  refine (cc_make F.makes hi hf fun x d hx hd hne => cc_fn D hc ?_ (by rw [hp]; exact h x d hx hd hne)).wc
  rw [List.length_cons, hl, ← hp, List.length_map]
theorem mk_call {name : Str} {es : List Ex} (F : Mk G name C ps code) (h : seqV (trs G n es) ρ σ (fun as σ₁ => WC G n (.ref C) as σ₁ Φ Ψ) Ψ) : (tr G n (.call name es)).v ρ σ Φ Ψ := ⟨C, F.mg, .inl F.keep, h⟩
theorem at_get (A : Cls G C as) (hx : σ x = some (.inst C d)) (hd : σ d = some (.ns l)) (ha : a ∈ as) (hl : l.lookup a = some v) (hv : v.novalue = true) (p : Φ v σ) : attrV G (.ref x) a σ Φ := by
  unfold attrV
  simp only [hx, hd]
  exact ⟨v, hl, hv, ⟨A.pg, A.hd, A.no a ha⟩, p⟩
theorem at_set {Φ : Sto → Prop} (A : Cls G C as) (hx : σ x = some (.inst C d)) (hd : σ d = some (.ns l)) (ha : a ∈ as) (hz : l.length < 1000) (p : Φ (upd σ d (.ns (putA a v l)))) : sattrV G (.ref x) a v σ Φ := by
  unfold sattrV
  simp only [hx, hd]
  exact ⟨hz, A.sa, A.po, by unfold W.takerIn; rw [A.no a ha]; rfl, A.hd, p⟩
theorem si_list {vs : List AV} {k : Int} {Φ : Sto → Prop} (hx : σ x = some (.list vs)) (h0 : 0 ≤ k) (h1 : k < vs.length) (h2 : k < 2 ^ 62) (p : Φ (upd σ x (.list (vs.set k.toNat v)))) : sitemV (.ref x) (.int k) v σ Φ := by
  unfold sitemV
  simp only [hx]
  exact ⟨h0, h1, h2, p⟩
theorem si_dictI {kvs : List (Int × AV)} {k : Int} {Φ : Sto → Prop} (hx : σ x = some (.dictI kvs)) (hz : kvs.length < sizeLine) (p : Φ (upd σ x (.dictI (putI k v kvs)))) : sitemV (.ref x) (.int k) v σ Φ := by
  unfold sitemV
  simp only [hx]
  exact ⟨hz, p⟩
theorem in_dictI {kvs : List (Int × AV)} {k : Int} {ΦP : Bool → Prop} (hx : σ x = some (.dictI kvs)) (p : ΦP (kvs.any fun kv => kv.1 == k)) : inV G σ (.int k) (.ref x) ΦP := by
  have : lstOf σ x = none := by unfold lstOf; rw [hx]
  simp only [inV, this, hx]
  exact ⟨k, rfl, p⟩
theorem tv_dict0 : (tr G n (.dict [] [])).v ρ σ Φ Ψ = ∀ a, σ a = none → Φ (.ref a) (upd σ a (.dictI [])) := by
  first
    | (show (([] : List Tr) = [] ∧ ∀ a, σ a = none → Φ (.ref a) (upd σ a (.dictI []))) = _; simp; done)
    | (show (([] : List Ex) = [] ∧ ([] : List Ex) = [] ∧ ∀ a, σ a = none → Φ (.ref a) (upd σ a (.dictI []))) = _; simp; done)
theorem lm_clear {vs : List AV} (hz : vs.length ≤ sizeLine) (g : Φ .none (upd σ x (.list []))) : listM "clear" x vs [] σ Φ := by
  unfold listM
  rw [if_neg (by rw [strQ]; decide), if_neg (by rw [strQ]; decide), if_pos rfl]
  exact ⟨hz, g⟩
theorem lm_pop {vs : List AV} {k : Int} (h0 : 0 ≤ k) (h1 : k < vs.length) (h2 : k < 2 ^ 62) (hz : vs.length ≤ sizeLine) (hv : vs[k.toNat]? = some v) (g : Φ v (upd σ x (.list (vs.eraseIdx k.toNat)))) : listM "pop" x vs [.int k] σ Φ := by
  unfold listM
  rw [if_neg (by rw [strQ]; decide), if_pos rfl]
  exact ⟨v, h0, h1, h2, hz, hv, g⟩
theorem mm_lst {vs : List AV} {ev : (List AV → Sto → Prop) → Prop} (h : σ x = some (.list vs)) (hm : m = "append" ∨ m = "pop" ∨ m = "clear") (k : ev (fun as σ₁ => match σ₁ x with | some (.list vs) => listM m x vs as σ₁ Φ | _ => False)) : methV G n (.ref x) m σ ev Φ Ψ := by
  unfold methV
  simp only [h]
  exact ⟨hm, k⟩
end

/-! ### loops by the turn's number -/
theorem drop_cons {α : Type} {l r : List α} {v : α} {i : Nat} (h : v :: r = l.drop i) : l[i]? = some v ∧ r = l.drop (i + 1) := by
  have h1 : (l.drop i)[0]? = some v := by rw [← h]; rfl
  have h2 : (l.drop i).drop 1 = r := by rw [← h]; rfl
  rw [List.getElem?_drop] at h1
  rw [List.drop_drop] at h2
  exact ⟨by simpa using h1, h2.symm⟩
theorem loop_ix {src : Src} {vs : List AV} {bind : AV → Loc → Option Loc} {bodyT : TS} {ρ : Loc} {σ : Sto} {Φ : PS} {Ψ : PX} (I : Nat → Loc → Sto → Prop) (i0 : I 0 ρ σ) (iv : ∀ i ρ₂ σ₂, I i ρ₂ σ₂ → src.items σ₂ = some vs)
    (turn : ∀ (i : Nat) (v : AV) (J : Loc → Sto → Prop) ρ₂ σ₂, i < vs.length → vs[i]? = some v → I i ρ₂ σ₂ → (∀ ρ₄ σ₄, I (i + 1) ρ₄ σ₄ → J ρ₄ σ₄) → ∃ ρ₃, bind v ρ₂ = some ρ₃ ∧ bodyT ρ₃ σ₂ (fun fl ρ₄ σ₄ => match fl with | .next => J ρ₄ σ₄ | .cont => J ρ₄ σ₄ | .brk => Φ .next ρ₄ σ₄ | .ret a => Φ (.ret a) ρ₄ σ₄) Ψ)
    (fin : ∀ ρ₂ σ₂, I vs.length ρ₂ σ₂ → Φ .next ρ₂ σ₂) : loopV src bind bodyT ρ σ Φ Ψ := by
  refine ⟨vs, iv _ _ _ i0, fun rest ρ₂ σ₂ => ∃ i, i ≤ vs.length ∧ rest = vs.drop i ∧ I i ρ₂ σ₂, ⟨0, (by first | decide | with_reducible exact lv hn | with_reducible exact lv1 hn | with_reducible exact lv2 hn | with_reducible exact Int.natCast_nonneg _ | omega), rfl, i0⟩, ?_, ?_, ?_⟩
  · rintro rest ρ₂ σ₂ ⟨i, _, _, h⟩; exact iv i _ _ h
  · rintro v rest ρ₂ σ₂ ⟨i, hi, e, h⟩
    obtain ⟨hv, hr⟩ := drop_cons e
    have hi' := (List.getElem?_eq_some_iff.mp hv).1
    exact turn i v _ ρ₂ σ₂ hi' hv h fun ρ₄ σ₄ h' => ⟨i + 1, hi', hr, h'⟩
  · rintro ρ₂ σ₂ ⟨i, hi, e, h⟩
    have : vs.length ≤ i := by
      have := congrArg List.length e
      simp at this; omega
    obtain rfl : i = vs.length := by omega
    exact fin _ _ h
theorem comp_ix {src : Src} {vs : List AV} {eT : Tr} {x : Str} {iT : List Tr} {ρ : Loc} {σ : Sto} {Φ : PE} (hp : src.pair = false) (hz : vs.length < sizeLine) (I : Nat → List AV → Sto → Prop) (i0 : I 0 [] σ) (iv : ∀ i acc σ₂, I i acc σ₂ → src.items σ₂ = some vs ∧ acc.length ≤ i)
    (turn : ∀ (i : Nat) (v : AV) (J : AV → Sto → Prop) (J' : Sto → Prop) acc σ₂, i < vs.length → vs[i]? = some v → I i acc σ₂ → (∀ a σ₄, I (i + 1) (acc ++ [a]) σ₄ → J a σ₄) → (∀ σ₄, I (i + 1) acc σ₄ → J' σ₄) → allT iT (putA x v ρ) σ₂ (fun b σ₃ => if b = true then eT.v (putA x v ρ) σ₃ (fun a σ₄ => J a σ₄) (fun _ _ => False) else J' σ₃) (fun _ _ => False))
    (fin : ∀ acc σ₂, I vs.length acc σ₂ → ∀ a, σ₂ a = none → Φ (.ref a) (upd σ₂ a (.list acc))) :
    src.pair = false ∧ ∃ vs, src.items σ = some vs ∧ ∃ I : List AV → List AV → Sto → Prop, I vs [] σ ∧ (∀ rest acc σ₂, I rest acc σ₂ → src.items σ₂ = some vs) ∧
      (∀ v rest acc σ₂, I (v :: rest) acc σ₂ → acc.length < sizeLine ∧ allT iT (putA x v ρ) σ₂ (fun b σ₃ => if b = true then eT.v (putA x v ρ) σ₃ (fun a σ₄ => I rest (acc ++ [a]) σ₄) (fun _ _ => False) else I rest acc σ₃) (fun _ _ => False)) ∧
      (∀ acc σ₂, I [] acc σ₂ → ∀ a, σ₂ a = none → Φ (.ref a) (upd σ₂ a (.list acc))) := by
  refine ⟨hp, vs, (iv _ _ _ i0).1, fun rest acc σ₂ => ∃ i, i ≤ vs.length ∧ rest = vs.drop i ∧ I i acc σ₂, ⟨0, (by first | decide | with_reducible exact lv hn | with_reducible exact lv1 hn | with_reducible exact lv2 hn | with_reducible exact Int.natCast_nonneg _ | omega), rfl, i0⟩, ?_, ?_, ?_⟩
  · rintro rest acc σ₂ ⟨i, _, _, h⟩; exact (iv i _ _ h).1
  · rintro v rest acc σ₂ ⟨i, hi, e, h⟩
    obtain ⟨hv, hr⟩ := drop_cons e
    have hi' := (List.getElem?_eq_some_iff.mp hv).1
    have := (iv i _ _ h).2
    exact ⟨(by first | decide | with_reducible exact lv hn | with_reducible exact lv1 hn | with_reducible exact lv2 hn | with_reducible exact Int.natCast_nonneg _ | omega), turn i v _ _ acc σ₂ hi' hv h (fun a σ₄ h' => ⟨i + 1, hi', hr, h'⟩) fun σ₄ h' => ⟨i + 1, hi', hr, h'⟩⟩
  · rintro acc σ₂ ⟨i, hi, e, h⟩
    have : vs.length ≤ i := by
      have := congrArg List.length e
      simp at this; omega
    obtain rfl : i = vs.length := by omega
    exact fin _ _ h
theorem CompOk.ix {G : PG} {n : Nat} {e : Ex} {x : Str} {as : List Ex} {ρ : Loc} {vs : List AV} {σ : Sto} {Φ : PE} (hz : vs.length < sizeLine) (I : Nat → List AV → Sto → Prop) (i0 : I 0 [] σ) (iv : ∀ i acc σ₂, I i acc σ₂ → acc.length ≤ i)
    (turn : ∀ (i : Nat) (v : AV) (J : AV → Sto → Prop) (J' : Sto → Prop) acc σ₂, i < vs.length → vs[i]? = some v → I i acc σ₂ → (∀ a σ₄, I (i + 1) (acc ++ [a]) σ₄ → J a σ₄) → (∀ σ₄, I (i + 1) acc σ₄ → J' σ₄) → allT (trs G n as) (putA x v ρ) σ₂ (fun b σ₃ => if b = true then (tr G n e).v (putA x v ρ) σ₃ (fun a σ₄ => J a σ₄) (fun _ _ => False) else J' σ₃) (fun _ _ => False))
    (fin : ∀ acc σ₂, I vs.length acc σ₂ → ∀ a, σ₂ a = none → Φ (.ref a) (upd σ₂ a (.list acc))) : CompOk G n e x as ρ vs σ Φ :=
  comp_ix (src := .vals vs) rfl hz I i0 (fun i acc σ₂ h => ⟨rfl, iv i acc σ₂ h⟩) turn fin
theorem range0 (N : Nat) : rangeL 0 N 1 = (List.range N).map fun (i : Nat) => AV.int i := by
  have e : (Builtin.Range.rangeSize 0 N 1).toNat = N := by
    unfold Builtin.Range.rangeSize
    rw [if_pos (by first | decide | with_reducible exact lv hn | with_reducible exact lv1 hn | with_reducible exact lv2 hn | with_reducible exact Int.natCast_nonneg _ | omega)]
    split <;> omega
  unfold rangeL
  rw [e]
  simp
/-- a loop over range(N) -/
theorem loop_n {N : Nat} {x : Str} {bodyT : TS} {ρ : Loc} {σ : Sto} {Φ : PS} {Ψ : PX} (I : Nat → Loc → Sto → Prop) (i0 : I 0 ρ σ)
    (turn : ∀ (i : Nat) (J : Loc → Sto → Prop) ρ₂ σ₂, i < N → I i ρ₂ σ₂ → (∀ ρ₄ σ₄, I (i + 1) ρ₄ σ₄ → J ρ₄ σ₄) → bodyT (putA x (.int i) ρ₂) σ₂ (fun fl ρ₄ σ₄ => match fl with | .next => J ρ₄ σ₄ | .cont => J ρ₄ σ₄ | .brk => Φ .next ρ₄ σ₄ | .ret a => Φ (.ret a) ρ₄ σ₄) Ψ)
    (fin : ∀ ρ₂ σ₂, I N ρ₂ σ₂ → Φ .next ρ₂ σ₂) : (Src.vals (rangeL 0 N 1)).pair = false ∧ loopV (.vals (rangeL 0 N 1)) (bind1 x) bodyT ρ σ Φ Ψ := by
  rw [range0]
  refine ⟨rfl, loop_ix (vs := (List.range N).map fun (i : Nat) => AV.int i) I i0 (fun _ _ _ _ => rfl) (fun i v J ρ₂ σ₂ hi hv h k => ?_) fun ρ₂ σ₂ h => fin ρ₂ σ₂ (by simpa using h)⟩
  simp at hi
  simp [List.getElem?_range hi] at hv
  subst hv
  exact ⟨_, rfl, turn i J ρ₂ σ₂ hi h k⟩
/-! ### who owns what -/
abbrev Tag := Nat × Nat
abbrev Own := Addr → Tag
structure Chg (T : Tag → Prop) (o : Own) (σ : Sto) (o' : Own) (σ' : Sto) : Prop where
  tag : ∀ a c, σ a = some c → o' a = o a
  there : ∀ a c, σ a = some c → ∃ c', σ' a = some c'
  keep : ∀ a c, σ a = some c → ¬ T (o a) → σ' a = some c
structure At (o : Own) (σ : Sto) (t : Tag) (a : Addr) (c : Cell) : Prop where
  at_ : σ a = some c
  tag : o a = t
noncomputable def setO (o : Own) (a : Addr) (t : Tag) : Own := fun b => if b = a then t else o b
section
variable {T T' : Tag → Prop} {o o' o'' : Own} {σ σ' σ'' : Sto} {t u : Tag} {a b : Addr} {c d : Cell}
theorem Chg.refl : Chg T o σ o σ := ⟨fun _ _ _ => rfl, fun _ c e => ⟨c, e⟩, fun _ _ e _ => e⟩
theorem Chg.trans (x : Chg T o σ o' σ') (y : Chg T o' σ' o'' σ'') : Chg T o σ o'' σ'' := by
  refine ⟨fun a c e => ?_, fun a c e => ?_, fun a c e n => ?_⟩
  · obtain ⟨c', e'⟩ := x.there a c e
    exact (y.tag a c' e').trans (x.tag a c e)
  · obtain ⟨c', e'⟩ := x.there a c e
    exact y.there a c' e'
  · exact y.keep a c (x.keep a c e n) (by rw [x.tag a c e]; exact n)
theorem Chg.mono (x : Chg T o σ o' σ') (h : ∀ t, T t → T' t) : Chg T' o σ o' σ' := ⟨x.tag, x.there, fun a c e n => x.keep a c e fun z => n (h _ z)⟩
theorem Chg.ext (x : Ext σ σ') : Chg T o σ o σ' := ⟨fun _ _ _ => rfl, fun a c e => ⟨c, x a c e⟩, fun a c e _ => x a c e⟩
theorem Chg.new (h : σ a = none) : Chg T o σ (setO o a t) (upd σ a c) := by
  have ne : ∀ b d, σ b = some d → b ≠ a := fun b d e z => by rw [z, h] at e; cases e
  refine ⟨fun b d e => ?_, fun b d e => ⟨d, ?_⟩, fun b d e _ => ?_⟩
  · unfold setO; rw [if_neg (ne b d e)]
  · rw [upd_ne (ne b d e)]; exact e
  · rw [upd_ne (ne b d e)]; exact e
theorem Chg.put (x : At o σ t a d) (h : T t) : Chg T o σ o (upd σ a c) := by
  refine ⟨fun _ _ _ => rfl, fun b e h' => ?_, fun b e h' n => ?_⟩
  · by_cases q : b = a
    · exact ⟨c, by rw [q, upd_same]⟩
    · exact ⟨e, by rw [upd_ne q]; exact h'⟩
  · rw [upd_ne]; exact h'
    intro q; subst q; rw [x.tag] at n; exact n h
theorem At.chg (x : At o σ t a c) (h : Chg T o σ o' σ') (n : ¬ T t) : At o' σ' t a c := ⟨h.keep a c x.at_ (by rw [x.tag]; exact n), (h.tag a c x.at_).trans x.tag⟩
theorem At.new : At (setO o a t) (upd σ a c) t a c := ⟨upd_same _ _ _, by simp [setO]⟩
theorem At.put (x : At o σ t a d) : At o (upd σ a c) t a c := ⟨upd_same _ _ _, x.tag⟩
theorem At.upd (x : At o σ t a c) (h : a ≠ b) : At o (Mine.upd σ b d) t a c := ⟨by rw [upd_ne h]; exact x.at_, x.tag⟩
theorem At.fresh (x : At o σ t a c) (h : σ b = none) : At (setO o b u) (Mine.upd σ b d) t a c := by
  have ne : a ≠ b := fun z => by have := x.at_; rw [z, h] at this; cases this
  exact ⟨by rw [upd_ne ne]; exact x.at_, by unfold setO; rw [if_neg ne]; exact x.tag⟩
theorem At.ext (x : At o σ t a c) (h : Ext σ σ') : At o σ' t a c := ⟨h _ _ x.at_, x.tag⟩
theorem At.lst {vs : List AV} (x : At o σ t a (.list vs)) : lstOf σ a = some vs := lstOf_list x.at_
theorem At.ne_kind (x : At o σ t a c) (y : At o σ u b d) (h : c ≠ d) : a ≠ b := fun e => h (by have := x.at_; rw [e, y.at_] at this; exact (Option.some.inj this).symm)
theorem new_own {Φ : PE} {vs : List AV} (t : Tag) (hz : vs.length ≤ sizeLine) (h : ∀ a o' σ', Chg (fun _ => False) o σ o' σ' → At o' σ' t a (.list vs) → Φ (.ref a) σ') : newList σ vs Φ :=
  new_lst hz fun a ha _ => h a _ _ (.new (t := t) ha) .new
end
end Mine
set_option maxRecDepth 100000
set_option linter.unusedSimpArgs false
set_option linter.unusedVariables false
namespace Mine
open PySem PyProof.Rows

/-! ### what a term is, where it changes nothing -/
noncomputable def Ev (G : PG) (n : Nat) (ρ : Loc) (σ : Sto) (e : Ex) (v : AV) : Prop := ∀ Φ Ψ, Φ v σ → (tr G n e).v ρ σ Φ Ψ
noncomputable def Es (G : PG) (n : Nat) (ρ : Loc) (σ : Sto) (es : List Ex) (vs : List AV) : Prop := ∀ Φ Ψ, Φ vs σ → seqV (trs G n es) ρ σ Φ Ψ
noncomputable def Et (G : PG) (n : Nat) (ρ : Loc) (σ : Sto) (e : Ex) (b : Bool) : Prop := ∀ Φ Ψ, Φ b σ → (tr G n e).t ρ σ Φ Ψ
noncomputable def Ea (G : PG) (n : Nat) (ρ : Loc) (σ : Sto) (es : List Ex) (b : Bool) : Prop := ∀ Φ Ψ, Φ b σ → allT (trs G n es) ρ σ Φ Ψ
noncomputable def Eo (G : PG) (n : Nat) (ρ : Loc) (σ : Sto) (es : List Ex) (b : Bool) : Prop := ∀ Φ Ψ, Φ b σ → anyT (trs G n es) ρ σ Φ Ψ
noncomputable def SubIs (σ : Sto) (a k v : AV) : Prop := ∀ Φ : PE, Φ v σ → subV a k σ Φ
noncomputable def AttrIs (G : PG) (σ : Sto) (o : AV) (x : Str) (v : AV) : Prop := ∀ Φ : PE, Φ v σ → attrV G o x σ Φ
noncomputable def CmpIs (G : PG) (σ : Sto) (op : CmpOp) (a b : AV) (q : Bool) : Prop := ∀ Φ : Bool → Prop, Φ q → cmpV G op a b σ Φ
noncomputable def BiIs (G : PG) (n : Nat) (σ : Sto) (f : Str) (as : List AV) (v : AV) : Prop := ∀ Φ : PE, Φ v σ → biV G n f as σ Φ
noncomputable def BinIs (σ : Sto) (op : Operator) (a b v : AV) : Prop := ∀ Φ : PE, Φ v σ → binV op a b σ Φ
noncomputable def GlIs (G : PG) (x : Str) (v : AV) : Prop := ∀ Φ : AV → Prop, Φ v → globV G x Φ
noncomputable def CallIs (G : PG) (n : Nat) (f : Addr) (as : List AV) (σ : Sto) (v : AV) : Prop := ∀ Φ Ψ, Φ v σ → WC G n (.ref f) as σ Φ Ψ
section
variable {G : PG} {n : Nat} {ρ : Loc} {σ : Sto} {x f : Str} {a b c : Ex} {as bs : List Ex} {op : Operator} {co cp : CmpOp} {u v w : AV} {us vs : List AV} {q : Bool} {l : Addr}
theorem ev_nm (h : ρ.lookup x = some v) : Ev G n ρ σ (.nm x) v := fun Φ Ψ p => by rw [tv_nm, h]; exact p
theorem ev_cst : Ev G n ρ σ (.cst v) v := fun _ _ p => p
theorem ev_gl (h : GlIs G x v) : Ev G n ρ σ (.gl x) v := fun Φ _ p => h (fun a => Φ a σ) p
theorem ev_bin (ha : Ev G n ρ σ a u) (hb : Ev G n ρ σ b w) (h : BinIs σ op u w v) : Ev G n ρ σ (.bin op a b) v := fun Φ Ψ p => ha _ Ψ (hb _ Ψ (h Φ p))
theorem ev_cmp (ha : Ev G n ρ σ a u) (hb : Ev G n ρ σ b w) (h : CmpIs G σ co u w q) : Ev G n ρ σ (.cmp co a b) (.bool q) := fun Φ Ψ p => ha _ Ψ (hb _ Ψ (h _ p))
theorem ev_cmp2T {o1 o2 : CmpOp} {c : Ex} {z : AV} (ha : Ev G n ρ σ a u) (hb : Ev G n ρ σ b w) (hc : Ev G n ρ σ c z) (h : CmpIs G σ o1 u w true) (h' : CmpIs G σ o2 w z q) : Ev G n ρ σ (.cmp2 o1 o2 a b c) (.bool q) := fun Φ Ψ p => ha _ Ψ (hb _ Ψ (h _ (hc _ Ψ (h' _ p))))
theorem ev_cmp2F {o1 o2 : CmpOp} {c : Ex} (ha : Ev G n ρ σ a u) (hb : Ev G n ρ σ b w) (h : CmpIs G σ o1 u w false) : Ev G n ρ σ (.cmp2 o1 o2 a b c) (.bool false) := fun Φ Ψ p => ha _ Ψ (hb _ Ψ (h _ p))
theorem ev_sub (ha : Ev G n ρ σ a u) (hb : Ev G n ρ σ b w) (h : SubIs σ u w v) : Ev G n ρ σ (.sub a b) v := fun Φ Ψ p => ha _ Ψ (hb _ Ψ (h Φ p))
theorem ev_attr (ha : Ev G n ρ σ a u) (h : AttrIs G σ u x v) : Ev G n ρ σ (.attr a x) v := fun Φ Ψ p => ha _ Ψ (h Φ p)
theorem ev_bi (hs : Es G n ρ σ as us) (h : BiIs G n σ f us v) : Ev G n ρ σ (.bi f as) v := fun Φ Ψ p => hs _ Ψ (h Φ p)
theorem ev_tup (hs : Es G n ρ σ as us) (hz : us.length ≤ sizeLine) : Ev G n ρ σ (.tup as) (.tup us) := fun Φ Ψ p => hs _ Ψ ⟨hz, p⟩
theorem ev_call {g : Addr} {ps : List Str} {code : List Sm} (F : Fn1 G f ps code g) (hs : Es G n ρ σ as us) (h : CallIs G n g us σ v) : Ev G n ρ σ (.call f as) v := fun Φ Ψ p => tv_call F (hs _ Ψ (h Φ Ψ p))
theorem es_nil : Es G n ρ σ [] [] := fun _ _ p => p
theorem es_cons (h : Ev G n ρ σ a v) (hs : Es G n ρ σ as vs) : Es G n ρ σ (a :: as) (v :: vs) := fun Φ Ψ p => h _ Ψ (hs _ Ψ p)
theorem ev_and1 (h : Ev G n ρ σ a v) : Ev G n ρ σ (.and_ [a]) v := h
theorem ev_andT (h : Ev G n ρ σ a (.bool true)) (p : Ev G n ρ σ (.and_ (b :: as)) v) : Ev G n ρ σ (.and_ (a :: b :: as)) v := fun Φ Ψ k => h _ Ψ ⟨true, rfl, p Φ Ψ k⟩
theorem ev_andF (h : Ev G n ρ σ a (.bool false)) : Ev G n ρ σ (.and_ (a :: b :: as)) (.bool false) := fun Φ Ψ k => h _ Ψ ⟨false, rfl, k⟩
theorem ev_notF (h : Ev G n ρ σ a (.bool true)) : Ev G n ρ σ (.not_ a) (.bool false) := fun Φ Ψ k => h _ Ψ ⟨true, rfl, k⟩
theorem ev_or1 (h : Ev G n ρ σ a v) : Ev G n ρ σ (.or_ [a]) v := h
theorem ev_orT (h : Ev G n ρ σ a (.bool true)) : Ev G n ρ σ (.or_ (a :: b :: as)) (.bool true) := fun Φ Ψ k => h _ Ψ ⟨true, rfl, k⟩
theorem ev_orF (h : Ev G n ρ σ a (.bool false)) (p : Ev G n ρ σ (.or_ (b :: as)) v) : Ev G n ρ σ (.or_ (a :: b :: as)) v := fun Φ Ψ k => h _ Ψ ⟨false, rfl, p Φ Ψ k⟩
/-! tests -/
theorem et_cmp (ha : Ev G n ρ σ a u) (hb : Ev G n ρ σ b w) (h : CmpIs G σ co u w q) : Et G n ρ σ (.cmp co a b) q := fun Φ Ψ p => ha _ Ψ (hb _ Ψ (h _ ⟨q, rfl, p⟩))
theorem et_sub (h : Ev G n ρ σ (.sub a b) (.bool q)) : Et G n ρ σ (.sub a b) q := fun Φ Ψ p => h _ Ψ ⟨q, rfl, p⟩
theorem et_bi (h : Ev G n ρ σ (.bi f as) (.bool q)) : Et G n ρ σ (.bi f as) q := fun Φ Ψ p => h _ Ψ ⟨q, rfl, p⟩
theorem et_call (h : Ev G n ρ σ (.call f as) (.bool q)) : Et G n ρ σ (.call f as) q := fun Φ Ψ p => h _ Ψ ⟨q, rfl, p⟩
theorem et_notT (h : Et G n ρ σ a false) : Et G n ρ σ (.not_ a) true := fun Φ Ψ p => h _ Ψ p
theorem et_notF (h : Et G n ρ σ a true) : Et G n ρ σ (.not_ a) false := fun Φ Ψ p => h _ Ψ p
theorem ev_notT (h : Ev G n ρ σ a (.bool false)) : Ev G n ρ σ (.not_ a) (.bool true) := fun Φ Ψ k => h _ Ψ ⟨false, rfl, k⟩
theorem et_and (h : Ea G n ρ σ as q) : Et G n ρ σ (.and_ as) q := h
theorem et_or (h : Eo G n ρ σ as q) : Et G n ρ σ (.or_ as) q := h
theorem ea_nil : Ea G n ρ σ [] true := fun _ _ p => p
theorem ea_T (h : Et G n ρ σ a true) (p : Ea G n ρ σ as q) : Ea G n ρ σ (a :: as) q := fun Φ Ψ k => h _ Ψ (p Φ Ψ k)
theorem ea_F (h : Et G n ρ σ a false) : Ea G n ρ σ (a :: as) false := fun Φ Ψ k => h _ Ψ k
theorem eo_nil : Eo G n ρ σ [] false := fun _ _ p => p
theorem eo_F (h : Et G n ρ σ a false) (p : Eo G n ρ σ as q) : Eo G n ρ σ (a :: as) q := fun Φ Ψ k => h _ Ψ (p Φ Ψ k)
theorem eo_T (h : Et G n ρ σ a true) : Eo G n ρ σ (a :: as) true := fun Φ Ψ k => h _ Ψ k
/-! what is known of values -/
variable {i j : Int} {s t : Str} {p : Bool}
theorem d_add : BinIs σ .Add (.int i) (.int j) (.int (i + j)) := fun _ p => p
theorem d_minus : BinIs σ .Sub (.int i) (.int j) (.int (i - j)) := fun _ p => p
theorem d_lt : CmpIs G σ .Lt (.int i) (.int j) (decide (i < j)) := fun _ p => p
theorem d_ltT (h : i < j) : CmpIs G σ .Lt (.int i) (.int j) true := fun Φ p => by rw [cm_lt, decide_eq_true h]; exact p
theorem d_ltF (h : ¬ i < j) : CmpIs G σ .Lt (.int i) (.int j) false := fun Φ p => by rw [cm_lt, decide_eq_false h]; exact p
theorem d_leT (h : i ≤ j) : CmpIs G σ .LtE (.int i) (.int j) true := fun Φ p => by rw [cm_le, decide_eq_true h]; exact p
theorem d_leF (h : ¬ i ≤ j) : CmpIs G σ .LtE (.int i) (.int j) false := fun Φ p => by rw [cm_le, decide_eq_false h]; exact p
theorem d_gtT (h : i > j) : CmpIs G σ .Gt (.int i) (.int j) true := fun Φ p => by rw [cm_gt, decide_eq_true h]; exact p
theorem d_gtF (h : ¬ i > j) : CmpIs G σ .Gt (.int i) (.int j) false := fun Φ p => by rw [cm_gt, decide_eq_false h]; exact p
theorem d_nesF : CmpIs G σ .NotEq (.str s) (.str s) false := fun Φ p => by rw [cm_nes, beq_self_eq_true]; exact p
theorem d_eqi : CmpIs G σ .Eq (.int i) (.int j) (i == j) := fun _ p => p
theorem d_eqT (h : i = j) : CmpIs G σ .Eq (.int i) (.int j) true := fun Φ p => by rw [cm_eqi, h, beq_self_eq_true]; exact p
theorem d_eqF (h : i ≠ j) : CmpIs G σ .Eq (.int i) (.int j) false := fun Φ p => by rw [cm_eqi, beq_eq_false_iff_ne.mpr h]; exact p
theorem d_neF (h : i = j) : CmpIs G σ .NotEq (.int i) (.int j) false := fun Φ p => by rw [cm_nei, h, beq_self_eq_true]; exact p
theorem d_neT (h : i ≠ j) : CmpIs G σ .NotEq (.int i) (.int j) true := fun Φ p => by rw [cm_nei, beq_eq_false_iff_ne.mpr h]; exact p
theorem d_eqsT : CmpIs G σ .Eq (.str s) (.str s) true := fun Φ p => by rw [cm_eqs, beq_self_eq_true]; exact p
theorem d_eqsF (h : s ≠ t) : CmpIs G σ .Eq (.str s) (.str t) false := fun Φ p => by rw [cm_eqs, beq_eq_false_iff_ne.mpr h]; exact p
theorem d_none (h : v.novalue = true) : CmpIs G σ .Is v .none v.isNone := fun Φ p => by rw [cm_isnone h]; exact p
theorem d_some (h : v.novalue = true) : CmpIs G σ .IsNot v .none (!v.isNone) := fun Φ p => by rw [cm_isnotnone h]; exact p
theorem d_lst (hl : lstOf σ l = some vs) (h0 : -(2 ^ 62) ≤ i) (h1 : i < 2 ^ 62) (h : idx vs i = some v) : SubIs σ (.ref l) (.int i) v := fun Φ p => sb_lst hl h0 h1 h p
theorem d_at {k : Int} (hl : lstOf σ l = some vs) (hz : vs.length < 1000000) (h0 : 0 ≤ k) (h : vs[k.toNat]? = some v) : SubIs σ (.ref l) (.int k) v := fun Φ p => by
  have := (List.getElem?_eq_some_iff.mp h).1
  exact sb_lst hl (by first | decide | with_reducible exact lv hn | with_reducible exact lv1 hn | with_reducible exact lv2 hn | with_reducible exact Int.natCast_nonneg _ | omega) (by first | decide | with_reducible exact lv hn | with_reducible exact lv1 hn | with_reducible exact lv2 hn | with_reducible exact Int.natCast_nonneg _ | omega) (idx_nat h0 h) p
theorem d_get {k : Nat} (hl : lstOf σ l = some vs) (hz : vs.length < 1000000) (h : vs[k]? = some v) : SubIs σ (.ref l) (.int k) v := fun Φ p => by
  have := (List.getElem?_eq_some_iff.mp h).1
  exact sb_lst hl (by first | decide | with_reducible exact lv hn | with_reducible exact lv1 hn | with_reducible exact lv2 hn | with_reducible exact Int.natCast_nonneg _ | omega) (by first | decide | with_reducible exact lv hn | with_reducible exact lv1 hn | with_reducible exact lv2 hn | with_reducible exact Int.natCast_nonneg _ | omega) (idx_nat (by first | decide | with_reducible exact lv hn | with_reducible exact lv1 hn | with_reducible exact lv2 hn | with_reducible exact Int.natCast_nonneg _ | omega) (by rw [Int.toNat_natCast]; exact h)) p
theorem d_0 : SubIs σ (.tup (v :: vs)) (.int 0) v := fun Φ p => sb_tup (by decide) (by decide) (idx0 _ _) p
theorem d_1 : SubIs σ (.tup (u :: v :: vs)) (.int 1) v := fun Φ p => sb_tup (by decide) (by decide) (idx1 _ _ _) p
theorem d_2 : SubIs σ (.tup (u :: w :: v :: vs)) (.int 2) v := fun Φ p => sb_tup (by decide) (by decide) (idx2 _ _ _ _) p
theorem d_3 {u₁ : AV} : SubIs σ (.tup (u :: w :: u₁ :: v :: vs)) (.int 3) v := fun Φ p => sb_tup (by decide) (by decide) (idx_nat (by decide) rfl) p
theorem d_4 {u₁ u₂ : AV} : SubIs σ (.tup (u :: w :: u₁ :: u₂ :: v :: vs)) (.int 4) v := fun Φ p => sb_tup (by decide) (by decide) (idx_nat (by decide) rfl) p
theorem d_len (h : lstOf σ l = some vs) (hz : vs.length < 1000000) : BiIs G n σ "len" [.ref l] (.int vs.length) := fun Φ p => bi_len h (Nat.lt_trans hz (by decide)) p
theorem d_lenM {α : Type} {g : α → AV} {ks : List α} (h : lstOf σ l = some (ks.map g)) (hz : ks.length < 1000000) : BiIs G n σ "len" [.ref l] (.int ks.length) := fun Φ p => bi_len h (by rw [List.length_map]; exact Nat.lt_trans hz (by decide)) (by rw [List.length_map]; exact p)
theorem d_lenT (hz : vs.length < 1000000) : BiIs G n σ "len" [.tup vs] (.int vs.length) := fun Φ p => bi_lenT (Nat.lt_trans hz (by decide)) p
theorem d_isi {T : String} {t : Value} (h1 : kindV σ v = some t) (h2 : W.kitOne G.K t (.type T) = some q) (h3 : v.exnK G.K := by trivial) : BiIs G n σ "isinstance" [v, .val (.type T)] (.bool q) := fun Φ p => bi_isi h1 h2 p h3
theorem d_int : GlIs G "int" (.val (.type "int")) := fun Φ p => by rw [glob_int]; exact p
theorem d_bool : GlIs G "bool" (.val (.type "bool")) := fun Φ p => by rw [glob_bool]; exact p
theorem d_tuple : GlIs G "tuple" (.val (.type "tuple")) := fun Φ p => by rw [glob_tuple]; exact p
theorem d_str : GlIs G "str" (.val (.type "str")) := fun Φ p => by rw [glob_str]; exact p
theorem d_attr {C y d : Addr} {ns : List (Str × AV)} {ks : List Str} (A : Cls G C ks) (hx : σ y = some (.inst C d)) (hd : σ d = some (.ns ns)) (ha : x ∈ ks) (hl : ns.lookup x = some v) (hv : v.novalue = true) : AttrIs G σ (.ref y) x v := fun Φ p => at_get A hx hd ha hl hv p
end
section
variable {G : PG} {n : Nat} {ρ : Loc} {σ : Sto} {Φ : PS} {Ψ : PX} {x : Str} {e o i c it a : Ex} {as : List Ex} {r t f body : List Sm} {u v w : AV} {vs : List AV} {q : Bool}
theorem g_asg (h : Ev G n ρ σ e v) (p : tss G n r (putA x v ρ) σ Φ Ψ) : tss G n (.asg x e :: r) ρ σ Φ Ψ := h _ _ p
theorem g_ret (h : Ev G n ρ σ e v) (p : Φ (.ret v) ρ σ) : tss G n (.ret (some e) :: r) ρ σ Φ Ψ := h _ _ p
theorem g_iteT (h : Et G n ρ σ c true) (p : tss G n t ρ σ (aft G n r Φ Ψ) Ψ) : tss G n (.ite c t f :: r) ρ σ Φ Ψ := h _ _ p
theorem g_iteF (h : Et G n ρ σ c false) (p : tss G n f ρ σ (aft G n r Φ Ψ) Ψ) : tss G n (.ite c t f :: r) ρ σ Φ Ψ := h _ _ p
theorem g_if0 (h : Et G n ρ σ c false) (p : tss G n r ρ σ Φ Ψ) : tss G n (.ite c t [] :: r) ρ σ Φ Ψ := h _ _ p
/-- if c: return e -/
theorem g_ifR (h : Et G n ρ σ c true) (he : Ev G n ρ σ e v) (p : Φ (.ret v) ρ σ) : tss G n (.ite c [.ret (some e)] f :: r) ρ σ Φ Ψ := h _ _ (he _ _ p)
theorem g_ret0 (p : Φ (.ret .none) ρ σ) : tss G n (.ret none :: r) ρ σ Φ Ψ := p
theorem g_nil (p : Φ .next ρ σ) : tss G n [] ρ σ Φ Ψ := p
theorem g_aft (p : tss G n r ρ σ Φ Ψ) : aft G n r Φ Ψ .next ρ σ := p
theorem g_aftR (p : Φ (.ret v) ρ σ) : aft G n r Φ Ψ (.ret v) ρ σ := p
theorem g_sattr (he : Ev G n ρ σ e v) (ho : Ev G n ρ σ o u) (p : sattrV G u x v σ fun σ₃ => tss G n r ρ σ₃ Φ Ψ) : tss G n (.sattr o x e :: r) ρ σ Φ Ψ := he _ _ (ho _ _ p)
theorem g_sitem (he : Ev G n ρ σ e v) (ho : Ev G n ρ σ o u) (hi : Ev G n ρ σ i w) (p : sitemV u w v σ fun σ₃ => tss G n r ρ σ₃ Φ Ψ) : tss G n (.sitem o i e :: r) ρ σ Φ Ψ := he _ _ (ho _ _ (hi _ _ p))
/-- if a == [] -/
theorem g_iteN (ha : Ev G n ρ σ a u) (h : ∀ b σ₁, Ext σ σ₁ → lstOf σ₁ b = some [] → ∃ q, CmpIs G σ₁ .Eq u (.ref b) q ∧ if q = true then tss G n t ρ σ₁ (aft G n r Φ Ψ) Ψ else tss G n f ρ σ₁ (aft G n r Φ Ψ) Ψ) : tss G n (.ite (.cmp .Eq a (.list [])) t f :: r) ρ σ Φ Ψ := by
  rw [bl_ite, tt_cmp]
  refine ha _ _ ?_
  simp only [tv_list, sq_nil]
  exact new_lst (Nat.zero_le _) fun b _ x => (h b _ x (lst_new _ _ _)).elim fun q z => z.1 _ ⟨q, rfl, z.2⟩
/-- for x in range(N) -/
theorem g_forN {N : Nat} (hn : 10 ≤ n) (h : Ev G n ρ σ a (.int N)) (hz : N < 1000000) (I : Nat → Loc → Sto → Prop) (i0 : I 0 ρ σ)
    (turn : ∀ (i : Nat) (K : PS) ρ₂ σ₂, i < N → I i ρ₂ σ₂ → (∀ ρ₄ σ₄, I (i + 1) ρ₄ σ₄ → K .next ρ₄ σ₄) → (∀ v ρ₄ σ₄, Φ (.ret v) ρ₄ σ₄ → K (.ret v) ρ₄ σ₄) → tss G n body (putA x (.int i) ρ₂) σ₂ K Ψ)
    (fin : ∀ ρ₂ σ₂, I N ρ₂ σ₂ → tss G n r ρ₂ σ₂ Φ Ψ) : tss G n (.for_ x (.bi "range" [a]) body :: r) ρ σ Φ Ψ := by
  rw [bl_for, ti_range]
  refine h _ _ ⟨hn, (by first | decide | with_reducible exact lv hn | with_reducible exact lv1 hn | with_reducible exact lv2 hn | with_reducible exact Int.natCast_nonneg _ | omega), (by first | decide | with_reducible exact lv hn | with_reducible exact lv1 hn | with_reducible exact lv2 hn | with_reducible exact Int.natCast_nonneg _ | with_reducible assumption | omega), loop_n I i0 (fun i J ρ₂ σ₂ hi hI k => turn i _ ρ₂ σ₂ hi hI k fun v ρ₄ σ₄ p => p) fin⟩
/-- the same, where the store stays -/
theorem g_forS {N : Nat} (hn : 10 ≤ n) (h : Ev G n ρ σ a (.int N)) (hz : N < 1000000) (I : Nat → Loc → Prop) (i0 : I 0 ρ)
    (turn : ∀ (i : Nat) (K : PS) ρ₂, i < N → I i ρ₂ → (∀ ρ₄, I (i + 1) ρ₄ → K .next ρ₄ σ) → (∀ v ρ₄ σ₄, Φ (.ret v) ρ₄ σ₄ → K (.ret v) ρ₄ σ₄) → tss G n body (putA x (.int i) ρ₂) σ K Ψ)
    (fin : ∀ ρ₂, I N ρ₂ → tss G n r ρ₂ σ Φ Ψ) : tss G n (.for_ x (.bi "range" [a]) body :: r) ρ σ Φ Ψ :=
  g_forN hn h hz (fun i ρ₂ σ₂ => σ₂ = σ ∧ I i ρ₂) ⟨rfl, i0⟩ (fun i K ρ₂ σ₂ hi hI k kr => by rw [hI.1]; exact turn i K ρ₂ hi hI.2 (fun ρ₄ z => k ρ₄ σ ⟨rfl, z⟩) kr) fun ρ₂ σ₂ hI => by rw [hI.1]; exact fin ρ₂ hI.2
/-- for x in a list -/
theorem g_forL {l : Addr} {y : Str} (h : ρ.lookup y = some (.ref l)) (hl : lstOf σ l = some vs) (I : Nat → Loc → Prop) (i0 : I 0 ρ)
    (turn : ∀ (i : Nat) (v : AV) (K : PS) ρ₂, vs[i]? = some v → I i ρ₂ → (∀ ρ₄, I (i + 1) ρ₄ → K .next ρ₄ σ) → (∀ v ρ₄ σ₄, Φ (.ret v) ρ₄ σ₄ → K (.ret v) ρ₄ σ₄) → tss G n body (putA x v ρ₂) σ K Ψ)
    (fin : ∀ ρ₂, I vs.length ρ₂ → tss G n r ρ₂ σ Φ Ψ) : tss G n (.for_ x (.nm y) body :: r) ρ σ Φ Ψ := by
  rw [bl_for]
  refine ti_nm h ⟨rfl, loop_ix (vs := vs) (fun i ρ₂ σ₂ => σ₂ = σ ∧ I i ρ₂) ⟨rfl, i0⟩ (fun i ρ₂ σ₂ hI => by rw [hI.1]; exact hl) (fun i v J ρ₂ σ₂ hi hv hI k => ⟨_, rfl, ?_⟩) fun ρ₂ σ₂ hI => by rw [hI.1]; exact fin ρ₂ hI.2⟩
  rw [hI.1]
  exact turn i v _ ρ₂ hv hI.2 (fun ρ₄ h' => k ρ₄ σ ⟨rfl, h'⟩) fun v ρ₄ σ₄ p => p
end
/-! ### a function's body -/
section
variable {G : PG} {n : Nat} {σ : Sto} {Φ : PE} {Ψ : PY} {f C : Addr} {m : Str} {ps : List Str} {code : List Sm} {args : List AV}
/-- a body's walk: the frame, what stands behind it -/
noncomputable def Body (G : PG) (n : Nat) (code : List Sm) (ps : List Str) (args : List AV) (σ : Sto) (Φ : PE) (Ψ : PY) : Prop := ∀ (ρ : Loc) (K : PS) (X : PX), (∀ x v, (ps.zip args).lookup x = some v → ρ.lookup x = some v) → (∀ v ρ' σ', Φ v σ' → K (.ret v) ρ' σ') → (∀ ρ' σ', Φ .none σ' → K .next ρ' σ') → (∀ c ρ' σ', Ψ c σ' → X c ρ' σ') → tss G n code ρ σ K X
theorem Fn1.bd (F : Fn1 G m ps code f) (hl : args.length = ps.length) (h : Body G n code ps args σ Φ Ψ) : WC G (n + 1) (.ref f) args σ Φ Ψ :=
  F.wc hl (h _ _ _ (fun _ _ e => e) (fun _ _ _ p => p) (fun _ _ p => p) fun _ _ _ p => p)
theorem Mt.bd (F : Mt G C m ps code f) (hl : args.length = ps.length) (h : Body G n code ps args σ Φ Ψ) : WC G (n + 1) (.ref f) args σ Φ Ψ :=
  F.wc hl (h _ _ _ (fun _ _ e => e) (fun _ _ _ p => p) (fun _ _ p => p) fun _ _ _ p => p)
end
section
variable {G : PG} {n : Nat} {ρ : Loc} {σ σ' : Sto} {Φ : PE} {Ψ : PY} {T : Tag → Prop} {o o' : Own} {t u : Tag} {a b x d C : Addr} {c e : Cell} {l : List (Str × AV)} {as : List Str} {k : Str} {v : AV}
theorem Chg.over (h : Chg T o σ o' σ') (z : σ a = none) : Chg T o σ o' (upd σ' a c) := by
  have ne : ∀ b d, σ b = some d → b ≠ a := fun b d e q => by rw [q, z] at e; cases e
  exact ⟨h.tag, fun b d e => (h.there b d e).elim fun f g => ⟨f, by rw [upd_ne (ne b d e)]; exact g⟩, fun b d e m => by rw [upd_ne (ne b d e)]; exact h.keep b d e m⟩
theorem Chg.none (h : Chg T o σ o' σ') (z : σ' a = .none) : σ a = .none := by
  cases q : σ a with
  | none => rfl
  | some c => exact (h.there a c q).elim fun c' e => by rw [z] at e; cases e
theorem At.off (x : At o σ t a c) (h : σ b = none) : a ≠ b := fun z => by have := x.at_; rw [z, h] at this; cases this
/-- an attribute is set -/
theorem set_at {Φ : Sto → Prop} (A : Cls G C as) (X : At o σ t x (.inst C d)) (D : At o σ u d (.ns l)) (ha : k ∈ as) (hz : l.length < 1000)
    (p : ∀ σ', (∀ f b w, At o σ f b w → b ≠ d → At o σ' f b w) → (∀ T o₀ σ₀, Chg T o₀ σ₀ o σ → σ₀ d = none → Chg T o₀ σ₀ o σ') → (∀ T : Tag → Prop, T u → Chg T o σ o σ') → At o σ' u d (.ns (putA k v l)) → Φ σ') : sattrV G (.ref x) k v σ Φ :=
  at_set A X.at_ D.at_ ha hz (p _ (fun _ _ _ h ne => h.upd ne) (fun _ _ _ h z => h.over z) (fun _ h => .put D h) D.put)
/-- a list is made, and an attribute set to it -/
theorem g_setL {ob : Ex} {w : AV} {r : List Sm} {Φ : PS} {Ψ : PX} (t : Tag) (ho : ∀ σ', Ev G n ρ σ' ob w) (p : ∀ a o' σ', σ a = none → Chg (fun _ => False) o σ o' σ' → At o' σ' t a (.list []) → sattrV G w k (.ref a) σ' fun σ₃ => tss G n r ρ σ₃ Φ Ψ) : tss G n (.sattr ob k (.list []) :: r) ρ σ Φ Ψ := by
  rw [bl_sattr, tv_list, sq_nil]
  exact new_lst (Nat.zero_le _) fun a ha _ => ho _ _ _ (p a _ _ ha (.new (t := t) ha) .new)
/-- the same, of self -/
theorem set_new {t' : Tag} {nm : Str} {r : List Sm} {Φ : PS} {Ψ : PX} (A : Cls G C as) (X : At o σ t x (.inst C d)) (D : At o σ t d (.ns l)) (l1 : ρ.lookup (Str.ofString "self") = some (.ref x)) (ha : nm ∈ as) (hz : l.length < 1000)
    (p : ∀ a o' σ', At o' σ' t x (.inst C d) → At o' σ' t d (.ns (putA nm (.ref a) l)) → At o' σ' t' a (.list []) → Chg (· = t) o σ o' σ' → (∀ T o₀ σ₀, Chg T o₀ σ₀ o σ → σ₀ d = none → Chg T o₀ σ₀ o' σ') → tss G n r ρ σ' Φ Ψ) : tss G n (.sattr (.nm "self") nm (.list []) :: r) ρ σ Φ Ψ :=
  g_setL t' (fun _ => ev_nm l1) fun a o₁ σ₁ _ c R => set_at A (X.chg c id) (D.chg c id) ha hz fun σ₂ e c2 c3 D2 => p a o₁ σ₂ (e _ _ _ (X.chg c id) (X.ne_kind D (by simp))) D2 (e _ _ _ R (R.ne_kind (D.chg c id) (by simp))) ((c.mono fun _ z => z.elim).trans (c3 _ rfl)) fun T o₀ σ₀ h z => c2 T o₀ σ₀ (h.trans (c.mono fun _ z => z.elim)) z
theorem g_setD {ob : Ex} {w : AV} {r : List Sm} {Φ : PS} {Ψ : PX} (t : Tag) (ho : ∀ σ', Ev G n ρ σ' ob w) (p : ∀ a o' σ', Chg (fun _ => False) o σ o' σ' → At o' σ' t a (.dictI []) → sattrV G w k (.ref a) σ' fun σ₃ => tss G n r ρ σ₃ Φ Ψ) : tss G n (.sattr ob k (.dict [] []) :: r) ρ σ Φ Ψ := by
  rw [bl_sattr, tv_dict0]
  exact fun a ha => ho _ _ _ (p a _ _ (.new (t := t) ha) .new)
/-- a thing is put at a list's end -/
theorem g_app {a e : Ex} {vs : List AV} {r : List Sm} {Φ : PS} {Ψ : PX} (ha : Ev G n ρ σ a (.ref x)) (hx : σ x = some (.list vs)) (he : Ev G n ρ σ e v) (hz : vs.length < sizeLine) (p : tss G n r ρ (upd σ x (.list (vs ++ [v]))) Φ Ψ) : tss G n (.expr (.meth a "append" [e]) :: r) ρ σ Φ Ψ := by
  rw [bl_expr, tv_meth]
  refine ha _ _ (app_lst hx ?_)
  rw [sq_cons]
  refine he _ _ ?_
  rw [sq_nil, hx]
  exact lm_app hz p
/-- a list of one thing is put at a list's end -/
theorem g_appL {a e : Ex} {vs : List AV} {r : List Sm} {Φ : PS} {Ψ : PX} (ha : Ev G n ρ σ a (.ref x)) (hx : σ x = some (.list vs)) (he : ∀ P : PE, (∀ v σ₁, (∀ b, σ₁ b = none → ∃ us, upd σ₁ b (.list [v]) x = some (.list us) ∧ us.length < sizeLine ∧ tss G n r ρ (upd (upd σ₁ b (.list [v])) x (.list (us ++ [.ref b]))) Φ Ψ) → P v σ₁) → (tr G n e).v ρ σ P (fun c σ₁ => Ψ c ρ σ₁)) : tss G n (.expr (.meth a "append" [.list [e]]) :: r) ρ σ Φ Ψ := by
  have h2 : ∀ v σ₁, (∀ b, σ₁ b = none → ∃ us, upd σ₁ b (.list [v]) x = some (.list us) ∧ us.length < sizeLine ∧ tss G n r ρ (upd (upd σ₁ b (.list [v])) x (.list (us ++ [.ref b]))) Φ Ψ) → newList σ₁ [v] (fun w σ₂ => match σ₂ x with | some (.list vs) => listM "append" x vs [w] σ₂ (fun _ σ₃ => tss G n r ρ σ₃ Φ Ψ) | _ => False) := fun v σ₁ h => new_lst (Nat.le_of_ble_eq_true rfl) fun b hb _ => by
    obtain ⟨us, e1, e2, e3⟩ := h b hb
    rw [e1]
    exact lm_app e2 e3
  rw [bl_expr, tv_meth]
  refine ha _ _ (app_lst hx ?_)
  rw [sq_cons, tv_list, sq_cons]
  exact he _ h2
/-- a method of an instance is called -/
theorem ev_meth {a : Ex} {as : List Ex} {us : List AV} {m : Str} {ps : List Str} {code : List Sm} {f : Addr} (M : Mt G C m ps code f) (ha : Ev G n ρ σ a (.ref x)) (hx : σ x = some (.inst C d)) (hd : σ d = some (.ns l)) (hl : l.lookup m = none) (hs : Es G n ρ σ as us) (p : WC G n (.ref f) (.ref x :: us) σ Φ Ψ) : (tr G n (.meth a m as)).v ρ σ Φ Ψ := by
  rw [tv_meth]
  exact ha _ _ (mt_call M hx hd hl (hs _ _ p))
theorem g_asgM {a : Ex} {as : List Ex} {us : List AV} {m y : Str} {ps : List Str} {code r : List Sm} {f : Addr} {Φ : PS} {Ψ : PX} (M : Mt G C m ps code f) (ha : Ev G n ρ σ a (.ref x)) (hx : σ x = some (.inst C d)) (hd : σ d = some (.ns l)) (hl : l.lookup m = none) (hs : Es G n ρ σ as us) (p : WC G n (.ref f) (.ref x :: us) σ (fun v σ₁ => tss G n r (putA y v ρ) σ₁ Φ Ψ) (fun c σ₁ => Ψ c ρ σ₁)) : tss G n (.asg y (.meth a m as) :: r) ρ σ Φ Ψ := ev_meth M ha hx hd hl hs p
theorem g_exprM {a : Ex} {as : List Ex} {us : List AV} {m : Str} {ps : List Str} {code r : List Sm} {f : Addr} {Φ : PS} {Ψ : PX} (M : Mt G C m ps code f) (ha : Ev G n ρ σ a (.ref x)) (hx : σ x = some (.inst C d)) (hd : σ d = some (.ns l)) (hl : l.lookup m = none) (hs : Es G n ρ σ as us) (p : WC G n (.ref f) (.ref x :: us) σ (fun _ σ₁ => tss G n r ρ σ₁ Φ Ψ) (fun c σ₁ => Ψ c ρ σ₁)) : tss G n (.expr (.meth a m as) :: r) ρ σ Φ Ψ := ev_meth M ha hx hd hl hs p
theorem g_retM {a : Ex} {as : List Ex} {us : List AV} {m : Str} {ps : List Str} {code r : List Sm} {f : Addr} {Φ : PS} {Ψ : PX} (M : Mt G C m ps code f) (ha : Ev G n ρ σ a (.ref x)) (hx : σ x = some (.inst C d)) (hd : σ d = some (.ns l)) (hl : l.lookup m = none) (hs : Es G n ρ σ as us) (p : WC G n (.ref f) (.ref x :: us) σ (fun v σ₁ => Φ (.ret v) ρ σ₁) (fun c σ₁ => Ψ c ρ σ₁)) : tss G n (.ret (some (.meth a m as)) :: r) ρ σ Φ Ψ := ev_meth M ha hx hd hl hs p
theorem si_nat {vs : List AV} {i : Nat} {Φ : Sto → Prop} (hx : σ x = some (.list vs)) (h1 : i < vs.length) (hz : vs.length < 1000000) (p : Φ (upd σ x (.list (vs.set i v)))) : sitemV (.ref x) (.int i) v σ Φ := si_list hx (by first | decide | with_reducible exact lv hn | with_reducible exact lv1 hn | with_reducible exact lv2 hn | with_reducible exact Int.natCast_nonneg _ | omega) (by first | decide | with_reducible exact lv hn | with_reducible exact lv1 hn | with_reducible exact lv2 hn | with_reducible exact Int.natCast_nonneg _ | omega) (by first | decide | with_reducible exact lv hn | with_reducible exact lv1 hn | with_reducible exact lv2 hn | with_reducible exact Int.natCast_nonneg _ | omega) (by rw [Int.toNat_natCast]; exact p)
/-- an attribute is set to two lists, one behind the other -/
theorem g_addL {ob a b : Ex} {w : AV} {vs us : List AV} {y z : Addr} {r : List Sm} {Φ : PS} {Ψ : PX} (t : Tag) (ho : ∀ {σ'}, Ev G n ρ σ' ob w) (ha : Ev G n ρ σ a (.ref y)) (hb : Ev G n ρ σ b (.ref z)) (hy : lstOf σ y = some vs) (hz : lstOf σ z = some us) (hl : (vs ++ us).length ≤ sizeLine) (p : ∀ a o' σ', σ a = none → Chg (fun _ => False) o σ o' σ' → At o' σ' t a (.list (vs ++ us)) → sattrV G w k (.ref a) σ' fun σ₃ => tss G n r ρ σ₃ Φ Ψ) : tss G n (.sattr ob k (.bin .Add a b) :: r) ρ σ Φ Ψ := by
  rw [bl_sattr, tv_bin]
  refine ha _ _ (hb _ _ ?_)
  rw [bn_lst hy hz]
  exact new_lst hl fun a ha _ => ho _ _ (p a _ _ ha (.new (t := t) ha) .new)
/-- a new empty list by its name -/
theorem g_asgL {y : Str} {r : List Sm} {Φ : PS} {Ψ : PX} (t : Tag) (p : ∀ a o' σ', σ a = none → Chg (fun _ => False) o σ o' σ' → At o' σ' t a (.list []) → tss G n r (putA y (.ref a) ρ) σ' Φ Ψ) : tss G n (.asg y (.list []) :: r) ρ σ Φ Ψ := by
  rw [bl_asg, tv_list, sq_nil]
  exact new_lst (Nat.zero_le _) fun a ha _ => p a _ _ ha (.new (t := t) ha) .new
theorem g_pop {a e : Ex} {vs : List AV} {r : List Sm} {Φ : PS} {Ψ : PX} {i : Nat} (ha : Ev G n ρ σ a (.ref x)) (hx : σ x = some (.list vs)) (he : Ev G n ρ σ e (.int i)) (hz : vs.length < 1000000) (hv : vs[i]? = some v) (p : tss G n r ρ (upd σ x (.list (vs.eraseIdx i))) Φ Ψ) : tss G n (.expr (.meth a "pop" [e]) :: r) ρ σ Φ Ψ := by
  have hi := (List.getElem?_eq_some_iff.mp hv).1
  rw [bl_expr, tv_meth]
  refine ha _ _ (mm_lst hx (.inr (.inl rfl)) ?_)
  rw [sq_cons]
  refine he _ _ ?_
  rw [sq_nil, hx]
  exact lm_pop (by first | decide | with_reducible exact lv hn | with_reducible exact lv1 hn | with_reducible exact lv2 hn | with_reducible exact Int.natCast_nonneg _ | omega) (by first | decide | with_reducible exact lv hn | with_reducible exact lv1 hn | with_reducible exact lv2 hn | with_reducible exact Int.natCast_nonneg _ | omega) (by first | decide | with_reducible exact lv hn | with_reducible exact lv1 hn | with_reducible exact lv2 hn | with_reducible exact Int.natCast_nonneg _ | omega) (Nat.le_of_lt (Nat.lt_trans hz (by decide))) (by rw [Int.toNat_natCast]; exact hv) (by rw [Int.toNat_natCast]; exact p)
theorem g_while {c : Ex} {body r : List Sm} {Φ : PS} {Ψ : PX} (I : Nat → Loc → Sto → Prop) (k₀ : Nat) (i0 : I k₀ ρ σ)
    (turn : ∀ k ρ₂ σ₂ (K : PS), I k ρ₂ σ₂ → (∀ k' ρ₄ σ₄, k' < k → I k' ρ₄ σ₄ → K .next ρ₄ σ₄) → (Et G n ρ₂ σ₂ c false ∧ tss G n r ρ₂ σ₂ Φ Ψ) ∨ (Et G n ρ₂ σ₂ c true ∧ tss G n body ρ₂ σ₂ K Ψ)) : tss G n (.while_ c body :: r) ρ σ Φ Ψ := by
  rw [bl_while]
  refine ⟨I, ⟨k₀, i0⟩, fun k ρ₂ σ₂ hI => ?_⟩
  have h := turn k ρ₂ σ₂ (fun fl ρ₄ σ₄ => match fl with | .next => ∃ k', k' < k ∧ I k' ρ₄ σ₄ | .cont => ∃ k', k' < k ∧ I k' ρ₄ σ₄ | .brk => aft G n r Φ Ψ .next ρ₄ σ₄ | .ret a => aft G n r Φ Ψ (.ret a) ρ₄ σ₄) hI fun k' ρ₄ σ₄ h1 h2 => ⟨k', h1, h2⟩
  exact h.elim (fun h => h.1 _ _ h.2) fun h => h.1 _ _ h.2
/-- list(..) -/
theorem g_retL {a : Ex} {y : Addr} {vs : List AV} {r : List Sm} {Φ : PS} {Ψ : PX} (ha : Ev G n ρ σ a (.ref y)) (hy : lstOf σ y = some vs) (hz : vs.length ≤ sizeLine) (p : ∀ a, σ a = none → Ext σ (upd σ a (.list vs)) → Φ (.ret (.ref a)) ρ (upd σ a (.list vs))) : tss G n (.ret (some (.bi "list" [a])) :: r) ρ σ Φ Ψ := by
  rw [bl_ret, tv_bi, sq_cons]
  exact ha _ _ (bi_list hy hz p)
theorem Mk.bd {name : Str} {args : List AV} {ps : List Str} {code : List Sm} (t : Tag) (F : Mk G name C ps code) (hl : args.length + 1 = ps.length)
    (h : ∀ x d ρ o₁ σ₁ (K : PS) X, (∀ y v, (ps.zip (.ref x :: args)).lookup y = some v → ρ.lookup y = some v) → Chg (fun _ => False) o σ o₁ σ₁ → At o₁ σ₁ t x (.inst C d) → At o₁ σ₁ t d (.ns []) → σ d = none → (∀ ρ' σ', Φ (.ref x) σ' → K .next ρ' σ') → tss G n code ρ σ₁ K X) : WC G (n + 2) (.ref C) args σ Φ Ψ :=
  F.wc hl fun x d hx hd hne => by
    have hx' : upd σ d (.ns []) x = none := by rw [upd_ne fun z => hne z.symm]; exact hx
    have c1 : Chg (fun _ => False) o σ (setO o d t) (upd σ d (.ns [])) := .new hd
    have A1 : At (setO o d t) (upd σ d (.ns [])) t d (.ns []) := .new
    exact h x d _ (setO (setO o d t) x t) _ _ _ (fun _ _ e => e) (c1.trans (.new hx')) .new (A1.fresh hx') hd fun _ _ p => ⟨rfl, p⟩
end
end Mine
set_option maxRecDepth 100000
set_option linter.unusedSimpArgs false
set_option linter.unusedVariables false
namespace Mine
open PySem PyProof.Rows

noncomputable def c_law_whole : List Sm := [.ret (some (.and_ [(.bi "isinstance" [(.nm "_law_found"), (.gl "int")]), (.not_ (.bi "isinstance" [(.nm "_law_found"), (.gl "bool")]))]))]
noncomputable def c_law_cell_at : List Sm := [.ite (.cmp .Lt (.nm "_law_k") (.bi "len" [(.nm "_law_script")])) [.ret (some (.sub (.nm "_law_script") (.nm "_law_k")))] [], .ret (some (.cst (.int (0))))]
noncomputable def c_law_mark : List Sm := [.ite (.or_ [(.not_ (.bi "isinstance" [(.nm "_law_found"), (.gl "tuple")])), (.cmp .NotEq (.bi "len" [(.nm "_law_found")]) (.cst (.int (2))))]) [.ret (some (.cst (.bool false)))] [], .ret (some (.and_ [(.call "_law_whole" [(.sub (.nm "_law_found") (.cst (.int (0))))]), (.call "_law_whole" [(.sub (.nm "_law_found") (.cst (.int (1))))])]))]
noncomputable def c_law_mail : List Sm := [.ite (.or_ [(.not_ (.bi "isinstance" [(.nm "_law_found"), (.gl "tuple")])), (.cmp .NotEq (.bi "len" [(.nm "_law_found")]) (.cst (.int (5)))), (.not_ (.bi "isinstance" [(.sub (.nm "_law_found") (.cst (.int (0)))), (.gl "str")]))]) [.ret (some (.cst (.bool false)))] [], .ite (.or_ [(.not_ (.call "_law_whole" [(.sub (.nm "_law_found") (.cst (.int (1))))])), (.not_ (.call "_law_whole" [(.sub (.nm "_law_found") (.cst (.int (2))))])), (.not_ (.call "_law_whole" [(.sub (.nm "_law_found") (.cst (.int (3))))]))]) [.ret (some (.cst (.bool false)))] [], .ret (some (.or_ [(.cmp .Is (.sub (.nm "_law_found") (.cst (.int (4)))) (.cst .none)), (.call "_law_mark" [(.sub (.nm "_law_found") (.cst (.int (4))))])]))]

section
variable {G : PG} {n : Nat} {σ : Sto} {Φ : PE} {Ψ : PY} {f : Addr}
theorem whole_is {i : Int} (F : Fn1 G "_law_whole" ["_law_found"] c_law_whole f) : CallIs G (n + 1) f [.int i] σ (.bool true) := fun Φ Ψ h =>
  F.bd rfl fun ρ K X L hr _ _ => g_ret (ev_andT (ev_bi (es_cons (ev_nm (L _ _ rfl)) (es_cons (ev_gl d_int) es_nil)) (d_isi rfl rfl)) (ev_and1 (ev_notT (ev_bi (es_cons (ev_nm (L _ _ rfl)) (es_cons (ev_gl d_bool) es_nil)) (d_isi rfl rfl))))) (hr _ _ _ h)
/-- a mark -/
noncomputable def mk (p : Int × Int) : AV := .tup [.int p.1, .int p.2]
noncomputable def mkD (p : Int × Int) : PyData := .tuple [.int p.1, .int p.2]
theorem datum_mk {σ : Sto} {k : Nat} (p : Int × Int) : datum σ (k + 2) (mk p) = some (mkD p) := by simp [datum, mk, mapO, mkD]
theorem can_mk (p : Int × Int) : (mkD p).canLay0 = true := by simp [mkD, PyData.canLay0, PyData.canLayAll0]
theorem mark_is {g : Addr} {p : Int × Int} (F : Fn1 G "_law_mark" ["_law_found"] c_law_mark f) (W : Fn1 G "_law_whole" ["_law_found"] c_law_whole g) : CallIs G (n + 2) f [mk p] σ (.bool true) := fun Φ Ψ h =>
  F.bd rfl fun ρ K X L hr _ _ => g_if0 (et_or (eo_F (et_notF (et_bi (ev_bi (es_cons (ev_nm (L _ _ rfl)) (es_cons (ev_gl d_tuple) es_nil)) (d_isi (q := true) rfl rfl)))) (eo_F (et_cmp (ev_bi (es_cons (ev_nm (L _ _ rfl)) es_nil) (d_lenT (Nat.lt_of_sub_eq_succ rfl))) ev_cst (d_neF rfl)) eo_nil)))
    (g_ret (ev_andT (ev_call W (es_cons (ev_sub (ev_nm (L _ _ rfl)) ev_cst d_0) es_nil) (whole_is W)) (ev_and1 (ev_call W (es_cons (ev_sub (ev_nm (L _ _ rfl)) ev_cst d_1) es_nil) (whole_is W)))) (hr _ _ _ h))
/-- a mail: a word, three whole numbers, a mark or none -/
noncomputable def mail (w : Str) (a b c : Int) (m : Option (Int × Int)) : AV := .tup [.str w, .int a, .int b, .int c, match m with | none => .none | some p => mk p]
noncomputable def mailD (w : Str) (a b c : Int) (m : Option (Int × Int)) : PyData := .tuple [.str w, .int a, .int b, .int c, match m with | none => .none | some p => mkD p]
theorem datum_mail {σ : Sto} {k : Nat} (w : Str) (a b c : Int) (m : Option (Int × Int)) : datum σ (k + 3) (mail w a b c m) = some (mailD w a b c m) := by
  cases m with
  | none => simp [mail, mailD, datum, mapO]
  | some p => simp [mail, mailD, datum, mapO, datum_mk]
theorem can_mail {w : Str} {a b c : Int} {m : Option (Int × Int)} (h : PyData.strOk w = true) : (mailD w a b c m).canLay0 = true := by
  cases m <;> simp [mailD, PyData.canLay0, PyData.canLayAll0, h, can_mk]
theorem mail_is {g gm : Addr} {w : Str} {a b c : Int} {m : Option (Int × Int)} (F : Fn1 G "_law_mail" ["_law_found"] c_law_mail f) (M : Fn1 G "_law_mark" ["_law_found"] c_law_mark gm) (W : Fn1 G "_law_whole" ["_law_found"] c_law_whole g) : CallIs G (n + 3) f [mail w a b c m] σ (.bool true) := fun Φ Ψ h =>
  F.bd rfl fun ρ K X L hr _ _ => g_if0 (et_or (eo_F (et_notF (et_bi (ev_bi (es_cons (ev_nm (L _ _ rfl)) (es_cons (ev_gl d_tuple) es_nil)) (d_isi (q := true) rfl rfl)))) (eo_F (et_cmp (ev_bi (es_cons (ev_nm (L _ _ rfl)) es_nil) (d_lenT (Nat.lt_of_sub_eq_succ rfl))) ev_cst (d_neF rfl)) (eo_F (et_notF (et_bi (ev_bi (es_cons (ev_sub (ev_nm (L _ _ rfl)) ev_cst d_0) (es_cons (ev_gl d_str) es_nil)) (d_isi (q := true) rfl rfl)))) eo_nil))))
    (g_if0 (et_or (eo_F (et_notF (et_call (ev_call W (es_cons (ev_sub (ev_nm (L _ _ rfl)) ev_cst d_1) es_nil) (whole_is W)))) (eo_F (et_notF (et_call (ev_call W (es_cons (ev_sub (ev_nm (L _ _ rfl)) ev_cst d_2) es_nil) (whole_is W)))) (eo_F (et_notF (et_call (ev_call W (es_cons (ev_sub (ev_nm (L _ _ rfl)) ev_cst d_3) es_nil) (whole_is W)))) eo_nil))))
    (g_ret (v := .bool true) (by
      cases m with
      | none => exact ev_orT (ev_cmp (ev_sub (ev_nm (L _ _ rfl)) ev_cst d_4) ev_cst (d_none rfl))
      | some p => exact ev_orF (ev_cmp (ev_sub (ev_nm (L _ _ rfl)) ev_cst d_4) ev_cst (d_none rfl)) (ev_or1 (ev_call M (es_cons (ev_sub (ev_nm (L _ _ rfl)) ev_cst d_4) es_nil) (mark_is M W)))) (hr _ _ _ h)))
end
end Mine
set_option maxRecDepth 100000
set_option linter.unusedSimpArgs false
set_option linter.unusedVariables false
namespace Mine
open PySem PyProof.Rows

noncomputable def mkB (b : Bool) : AV := .bool b
noncomputable def mkBD (b : Bool) : PyData := .bool b
noncomputable def c_law_only : List Sm := [.asg "_law_kinds" (.list [(.bi "isinstance" [(.nm "_law_error"), (.gl "BadCount")]), (.bi "isinstance" [(.nm "_law_error"), (.gl "NoHand")]), (.bi "isinstance" [(.nm "_law_error"), (.gl "NoLetter")])]), .expr (.meth (.nm "_law_kinds") "append" [(.bi "isinstance" [(.nm "_law_error"), (.gl "NoMail")])]), .asg "_law_kinds" (.bin .Add (.nm "_law_kinds") (.list [(.bi "isinstance" [(.nm "_law_error"), (.gl "Twice")]), (.bi "isinstance" [(.nm "_law_error"), (.gl "NotOpen")]), (.bi "isinstance" [(.nm "_law_error"), (.gl "BadMark")])])), .asg "_law_names" (.list [(.cst (.str "BadCount")), (.cst (.str "NoHand")), (.cst (.str "NoLetter")), (.cst (.str "NoMail")), (.cst (.str "Twice")), (.cst (.str "NotOpen")), (.cst (.str "BadMark")), (.cst (.str "NoNote"))]), .expr (.meth (.nm "_law_kinds") "append" [(.bi "isinstance" [(.nm "_law_error"), (.gl "NoNote")])]), .ret (some (.and_ [(.bi "isinstance" [(.nm "_law_error"), (.gl "ValueError")]), (.cmp .Eq (.nm "_law_kinds") (.comp (.cmp .Eq (.nm "_law_name") (.nm "_law_word")) "_law_name" (.nm "_law_names") []))]))]
/-- the exception classes, as an error of one of them is asked about them -/
structure Errs (G : PG) (nn : Addr) (w : Str) : Prop where
  ex : ExcK G.K nn
  k1 : ∃ C, G.mg "BadCount" = some (.ref C) ∧ W.kitOne G.K (.ref nn) (.ref C) = some (Str.ofString "BadCount" == w)
  k2 : ∃ C, G.mg "NoHand" = some (.ref C) ∧ W.kitOne G.K (.ref nn) (.ref C) = some (Str.ofString "NoHand" == w)
  k3 : ∃ C, G.mg "NoLetter" = some (.ref C) ∧ W.kitOne G.K (.ref nn) (.ref C) = some (Str.ofString "NoLetter" == w)
  k4 : ∃ C, G.mg "NoMail" = some (.ref C) ∧ W.kitOne G.K (.ref nn) (.ref C) = some (Str.ofString "NoMail" == w)
  k5 : ∃ C, G.mg "Twice" = some (.ref C) ∧ W.kitOne G.K (.ref nn) (.ref C) = some (Str.ofString "Twice" == w)
  k6 : ∃ C, G.mg "NotOpen" = some (.ref C) ∧ W.kitOne G.K (.ref nn) (.ref C) = some (Str.ofString "NotOpen" == w)
  k7 : ∃ C, G.mg "BadMark" = some (.ref C) ∧ W.kitOne G.K (.ref nn) (.ref C) = some (Str.ofString "BadMark" == w)
  k8 : ∃ C, G.mg "NoNote" = some (.ref C) ∧ W.kitOne G.K (.ref nn) (.ref C) = some (Str.ofString "NoNote" == w)
  ve : G.mg "ValueError" = none
  kv : W.kitOne G.K (.ref nn) (.type "ValueError") = some true
  bell : ∃ C, G.mg "BellError" = some (.ref C) ∧ W.exmOne G.K (.ref nn) (.ref C) = some true

section
variable {G : PG} {n : Nat} {ρ : Loc} {σ : Sto} {Φ : PE} {Ψ : PY} {f nn : Addr}
theorem bi_isiR {e C : Addr} {b : Bool} (hx : ExcK G.K nn) (h2 : W.kitOne G.K (.ref nn) (.ref C) = some b) (p : Φ (.bool b) σ) : biV G n "isinstance" [.exn e (.ref nn), .ref C] σ Φ := by
  unfold biV
  rw [if_neg (by rw [strQ]; decide), if_pos rfl]
  exact Exists.intro (.ref nn) (Exists.intro b ⟨rfl, h2, ⟨nn, rfl, hx⟩, p⟩)
theorem bi_isiT {e : Addr} {T : String} {b : Bool} (hx : ExcK G.K nn) (h2 : W.kitOne G.K (.ref nn) (.type T) = some b) (p : Φ (.bool b) σ) : biV G n "isinstance" [.exn e (.ref nn), .val (.type T)] σ Φ := by
  unfold biV
  rw [if_neg (by rw [strQ]; decide), if_pos rfl]
  exact Exists.intro T (Exists.intro (.ref nn) (Exists.intro b ⟨rfl, rfl, h2, ⟨nn, rfl, hx⟩, p⟩))
theorem glob_ve {ΦA : AV → Prop} (h : G.mg "ValueError" = none) (p : ΦA (.val (.type "ValueError"))) : globV G "ValueError" ΦA := by
  unfold globV
  rw [h]
  exact ⟨_, by decide +kernel, p⟩
theorem only_ok {wd : Str} {e : Addr} (F : Fn1 G "_law_only" ["_law_error", "_law_word"] c_law_only f) (X : Errs G nn wd) (h : ∀ σ', Ext σ σ' → Φ (.bool true) σ') : WC G (n + 1) (.ref f) [.exn e (.ref nn), .str wd] σ Φ Ψ := by
  refine F.wc rfl ?_
  unfold c_law_only
  obtain ⟨c1, m1, i1⟩ := X.k1
  obtain ⟨c2, m2, i2⟩ := X.k2
  obtain ⟨c3, m3, i3⟩ := X.k3
  obtain ⟨c4, m4, i4⟩ := X.k4
  obtain ⟨c5, m5, i5⟩ := X.k5
  obtain ⟨c6, m6, i6⟩ := X.k6
  obtain ⟨c7, m7, i7⟩ := X.k7
  obtain ⟨c8, m8, i8⟩ := X.k8
  have hb : [(Str.ofString "BadCount" == wd), (Str.ofString "NoHand" == wd), (Str.ofString "NoLetter" == wd), (Str.ofString "NoMail" == wd), (Str.ofString "Twice" == wd), (Str.ofString "NotOpen" == wd), (Str.ofString "BadMark" == wd), (Str.ofString "NoNote" == wd)] = [Str.ofString "BadCount", Str.ofString "NoHand", Str.ofString "NoLetter", Str.ofString "NoMail", Str.ofString "Twice", Str.ofString "NotOpen", Str.ofString "BadMark", Str.ofString "NoNote"].map (fun x => x == wd) := rfl
  generalize (Str.ofString "BadCount" == wd) = b1 at i1 hb
  generalize (Str.ofString "NoHand" == wd) = b2 at i2 hb
  generalize (Str.ofString "NoLetter" == wd) = b3 at i3 hb
  generalize (Str.ofString "NoMail" == wd) = b4 at i4 hb
  generalize (Str.ofString "Twice" == wd) = b5 at i5 hb
  generalize (Str.ofString "NotOpen" == wd) = b6 at i6 hb
  generalize (Str.ofString "BadMark" == wd) = b7 at i7 hb
  generalize (Str.ofString "NoNote" == wd) = b8 at i8 hb
  rw [bl_asg]
  simp only [tv_nm, tv_attr, tv_gl, tv_cst, tv_bin, tv_cmp, tv_and, tv_or, tv_not, tv_sub, tv_slc, tv_bi, tv_meth, tv_list, tv_tup, tv_neg, sq_nil, sq_cons, and_one, and_cons, or_one, or_cons, tt_nm, tt_cmp, tt_bi, tt_sub, tt_not, tt_and, tt_or, all_nil, all_cons, any_nil, any_cons, op_none, op_some, List.zip_cons_cons, List.zip_nil_right, putA_lookup, strQ, String.reduceEq, if_true, if_false, List.lookup, strE, beq_self_eq_true, String.reduceBEq, val_ret, glob_val m1, glob_val m2, glob_val m3, avOf]
  refine bi_isiR X.ex i1 ?_
  refine bi_isiR X.ex i2 ?_
  refine bi_isiR X.ex i3 ?_
  refine new_lst (by first | exact Nat.le_of_ble_eq_true rfl | (simp; unfold sizeLine; omega)) fun r hr0 hx1 => ?_
  rw [bl_expr]
  simp only [tv_meth, tv_nm, putA_lookup, if_true]
  refine app_lst (upd_same _ _ _) ?_
  simp only [tv_nm, tv_attr, tv_gl, tv_cst, tv_bin, tv_cmp, tv_and, tv_or, tv_not, tv_sub, tv_slc, tv_bi, tv_meth, tv_list, tv_tup, tv_neg, sq_nil, sq_cons, and_one, and_cons, or_one, or_cons, tt_nm, tt_cmp, tt_bi, tt_sub, tt_not, tt_and, tt_or, all_nil, all_cons, any_nil, any_cons, op_none, op_some, List.zip_cons_cons, List.zip_nil_right, putA_lookup, strQ, String.reduceEq, if_true, if_false, List.lookup, strE, beq_self_eq_true, String.reduceBEq, val_ret, glob_val m4, avOf]
  refine bi_isiR X.ex i4 ?_
  simp only [upd_same]
  refine lm_app (by first | exact Nat.le_of_ble_eq_true rfl | (simp; unfold sizeLine; omega)) ?_
  generalize hs1 : upd (upd σ r (.list [AV.bool b1, AV.bool b2, AV.bool b3])) r (.list ([AV.bool b1, AV.bool b2, AV.bool b3] ++ [AV.bool b4])) = σ₁
  have hl1 : lstOf σ₁ r = some [AV.bool b1, AV.bool b2, AV.bool b3, AV.bool b4] := by rw [← hs1]; exact lst_new _ _ _
  have hx1' : Ext σ σ₁ := by
    rw [← hs1]
    intro b d hb
    have hbr : b ≠ r := by intro q; subst q; rw [hr0] at hb; cases hb
    rw [upd_ne hbr, upd_ne hbr]; exact hb
  rw [bl_asg]
  simp only [tv_nm, tv_attr, tv_gl, tv_cst, tv_bin, tv_cmp, tv_and, tv_or, tv_not, tv_sub, tv_slc, tv_bi, tv_meth, tv_list, tv_tup, tv_neg, sq_nil, sq_cons, and_one, and_cons, or_one, or_cons, tt_nm, tt_cmp, tt_bi, tt_sub, tt_not, tt_and, tt_or, all_nil, all_cons, any_nil, any_cons, op_none, op_some, List.zip_cons_cons, List.zip_nil_right, putA_lookup, strQ, String.reduceEq, if_true, if_false, List.lookup, strE, beq_self_eq_true, String.reduceBEq, val_ret, glob_val m5, glob_val m6, glob_val m7, avOf]
  refine bi_isiR X.ex i5 ?_
  refine bi_isiR X.ex i6 ?_
  refine bi_isiR X.ex i7 ?_
  refine new_lst (by first | exact Nat.le_of_ble_eq_true rfl | (simp; unfold sizeLine; omega)) fun r2 hr2 hx2 => ?_
  rw [bn_lst (hx2.lst hl1) (lst_new _ _ _)]
  refine new_lst (by first | exact Nat.le_of_ble_eq_true rfl | (simp; unfold sizeLine; omega)) fun r3 hr3 hx3 => ?_
  rw [bl_asg]
  simp only [tv_nm, tv_attr, tv_gl, tv_cst, tv_bin, tv_cmp, tv_and, tv_or, tv_not, tv_sub, tv_slc, tv_bi, tv_meth, tv_list, tv_tup, tv_neg, sq_nil, sq_cons, and_one, and_cons, or_one, or_cons, tt_nm, tt_cmp, tt_bi, tt_sub, tt_not, tt_and, tt_or, all_nil, all_cons, any_nil, any_cons, op_none, op_some, List.zip_cons_cons, List.zip_nil_right, putA_lookup, strQ, String.reduceEq, if_true, if_false, List.lookup, strE, beq_self_eq_true, String.reduceBEq, val_ret]
  refine new_lst (by first | exact Nat.le_of_ble_eq_true rfl | (simp; unfold sizeLine; omega)) fun r4 hr4 hx4 => ?_
  have h3 := hx4 _ _ (upd_same (upd σ₁ r2 (.list [AV.bool b5, AV.bool b6, AV.bool b7])) r3 (.list ([AV.bool b1, AV.bool b2, AV.bool b3, AV.bool b4] ++ [AV.bool b5, AV.bool b6, AV.bool b7])))
  rw [bl_expr]
  simp only [tv_meth, tv_nm, putA_lookup, strQ, String.reduceEq, if_false, if_true]
  refine app_lst h3 ?_
  simp only [tv_nm, tv_attr, tv_gl, tv_cst, tv_bin, tv_cmp, tv_and, tv_or, tv_not, tv_sub, tv_slc, tv_bi, tv_meth, tv_list, tv_tup, tv_neg, sq_nil, sq_cons, and_one, and_cons, or_one, or_cons, tt_nm, tt_cmp, tt_bi, tt_sub, tt_not, tt_and, tt_or, all_nil, all_cons, any_nil, any_cons, op_none, op_some, List.zip_cons_cons, List.zip_nil_right, putA_lookup, strQ, String.reduceEq, if_true, if_false, List.lookup, strE, beq_self_eq_true, String.reduceBEq, val_ret, glob_val m8, avOf]
  refine bi_isiR X.ex i8 ?_
  simp only [h3]
  refine lm_app (by first | exact Nat.le_of_ble_eq_true rfl | (simp; unfold sizeLine; omega)) ?_
  have hne : r4 ≠ r3 := by
    intro q; subst q
    rw [upd_same] at hr4; cases hr4
  have hl4 := lst_new (upd (upd σ₁ r2 (.list [AV.bool b5, AV.bool b6, AV.bool b7])) r3 (.list ([AV.bool b1, AV.bool b2, AV.bool b3, AV.bool b4] ++ [AV.bool b5, AV.bool b6, AV.bool b7]))) r4 [.str "BadCount", .str "NoHand", .str "NoLetter", .str "NoMail", .str "Twice", .str "NotOpen", .str "BadMark", .str "NoNote"]
  have hxr3 : σ₁ r3 = none := by
    rcases h0 : σ₁ r3 with _ | c
    · rfl
    · have := hx2 _ _ h0; rw [hr3] at this; cases this
  have hx4' := (hx1'.trans hx2).trans (hx3.trans hx4)
  have hσr3 : σ r3 = none := by
    rcases h0 : σ r3 with _ | c
    · rfl
    · have := hx1' _ _ h0; rw [hxr3] at this; cases this
  generalize hs4 : upd (upd (upd σ₁ r2 (.list [AV.bool b5, AV.bool b6, AV.bool b7])) r3 (.list ([AV.bool b1, AV.bool b2, AV.bool b3, AV.bool b4] ++ [AV.bool b5, AV.bool b6, AV.bool b7]))) r4 (.list [.str "BadCount", .str "NoHand", .str "NoLetter", .str "NoMail", .str "Twice", .str "NotOpen", .str "BadMark", .str "NoNote"]) = σ₄ at hl4 hx4'
  generalize hs5 : upd σ₄ r3 (.list (([AV.bool b1, AV.bool b2, AV.bool b3, AV.bool b4] ++ [AV.bool b5, AV.bool b6, AV.bool b7]) ++ [AV.bool b8])) = σ₅
  have hk5 : lstOf σ₅ r3 = some ([b1, b2, b3, b4, b5, b6, b7, b8].map mkB) := by rw [← hs5]; exact lst_new _ _ _
  have hn5 : lstOf σ₅ r4 = some ([Str.ofString "BadCount", Str.ofString "NoHand", Str.ofString "NoLetter", Str.ofString "NoMail", Str.ofString "Twice", Str.ofString "NotOpen", Str.ofString "BadMark", Str.ofString "NoNote"].map .str) := by
    rw [← hs5]
    unfold lstOf at hl4 ⊢
    rw [upd_ne hne]; exact hl4
  have hx5 : Ext σ σ₅ := by
    rw [← hs5]
    intro b d hb
    have hbr : b ≠ r3 := by intro q; subst q; rw [hσr3] at hb; cases hb
    rw [upd_ne hbr]; exact hx4' _ _ hb
  rw [bl_ret]
  simp only [tv_nm, tv_attr, tv_gl, tv_cst, tv_bin, tv_cmp, tv_and, tv_or, tv_not, tv_sub, tv_slc, tv_bi, tv_meth, tv_list, tv_tup, tv_neg, sq_nil, sq_cons, and_one, and_cons, or_one, or_cons, tt_nm, tt_cmp, tt_bi, tt_sub, tt_not, tt_and, tt_or, all_nil, all_cons, any_nil, any_cons, op_none, op_some, List.zip_cons_cons, List.zip_nil_right, putA_lookup, strQ, String.reduceEq, if_true, if_false, List.lookup, strE, beq_self_eq_true, String.reduceBEq, val_ret]
  refine glob_ve X.ve ?_
  refine bi_isiT X.ex X.kv ?_
  refine ⟨true, rfl, ?_⟩
  rw [if_pos rfl]
  refine comp_nm (l := r4) (vs := [Str.ofString "BadCount", Str.ofString "NoHand", Str.ofString "NoLetter", Str.ofString "NoMail", Str.ofString "Twice", Str.ofString "NotOpen", Str.ofString "BadMark", Str.ofString "NoNote"].map .str) ((by first | with_reducible exact lk_eq | with_reducible exact lk_ne (by decide) lk_eq | simp [putA_lookup, strQ])) (fun rest acc σ₆ => σ₆ = σ₅ ∧ ∃ ds cs : List Str, [Str.ofString "BadCount", Str.ofString "NoHand", Str.ofString "NoLetter", Str.ofString "NoMail", Str.ofString "Twice", Str.ofString "NotOpen", Str.ofString "BadMark", Str.ofString "NoNote"] = ds ++ cs ∧ rest = cs.map .str ∧ acc = (ds.map fun x => x == wd).map mkB) ⟨rfl, [], _, rfl, rfl, rfl⟩ ?_ ?_ ?_
  · rintro rest acc σ₆ ⟨rfl, _⟩; exact hn5
  · rintro v rest acc σ₆ ⟨rfl, ds, cs, e0, e1, rfl⟩
    cases cs with
    | nil => simp at e1
    | cons w cs =>
      simp only [List.map_cons, List.cons.injEq] at e1
      obtain ⟨rfl, rfl⟩ := e1
      have hlen := congrArg List.length e0
      simp at hlen
      refine ⟨by first | exact Nat.le_of_ble_eq_true rfl | (simp; unfold sizeLine; omega), ?_⟩
      simp only [tv_nm, tv_attr, tv_gl, tv_cst, tv_bin, tv_cmp, tv_and, tv_or, tv_not, tv_sub, tv_slc, tv_bi, tv_meth, tv_list, tv_tup, tv_neg, sq_nil, sq_cons, and_one, and_cons, or_one, or_cons, tt_nm, tt_cmp, tt_bi, tt_sub, tt_not, tt_and, tt_or, all_nil, all_cons, any_nil, any_cons, op_none, op_some, List.zip_cons_cons, List.zip_nil_right, putA_lookup, strQ, String.reduceEq, if_true, if_false, List.lookup, strE, beq_self_eq_true, String.reduceBEq, val_ret, cm_eqs]
      exact ⟨by first | rfl | trivial, ds ++ [w], cs, by simp [e0], rfl, by simp [mkB]⟩
  · rintro acc σ₆ ⟨rfl, ds, cs, e0, e1, rfl⟩ a ha
    have : cs = [] := by cases cs with
      | nil => rfl
      | cons _ _ => simp at e1
    subst this
    rw [List.append_nil] at e0
    subst e0
    have hxa := Ext.new (c := .list (([Str.ofString "BadCount", Str.ofString "NoHand", Str.ofString "NoLetter", Str.ofString "NoMail", Str.ofString "Twice", Str.ofString "NotOpen", Str.ofString "BadMark", Str.ofString "NoNote"].map fun x => x == wd).map mkB)) ha
    rw [← hb] at hxa ⊢
    simp only [cm_ne, cm_eq]
    exact eq_lst (hxa.lst hk5) (lst_new _ _ _) (mapO_map mkB mkBD _ fun x _ => rfl) (canAll mkBD _ fun x _ => rfl) (h _ (hx5.trans hxa))
end
end Mine
set_option maxRecDepth 100000
namespace Mine
open PySem PyProof.Rows

noncomputable def vNone : Value → Bool
  | .none => true
  | _ => false
noncomputable def dFunc : Data → Option FuncData
  | .func fd => some fd
  | _ => none
noncomputable def dFields : Data → Option (Array Value)
  | .fields vs => some vs
  | _ => none
noncomputable def bStmts : FuncBody → Option (List Stmt)
  | .stmts b => some b
  | _ => none
noncomputable def vRef : Value → Option Addr
  | .ref a => some a
  | _ => none
noncomputable def vStr : Value → Option Str
  | .str q _ => some q
  | _ => none
noncomputable def fnOk (K : W.Frag) (f : Addr) : Option (Bool × Option (List Sm) × List Str) :=
  (K.lookup f).bind fun o => (dFunc o.data).bind fun fd => (bStmts fd.body).bind fun body => (vRef fd.code).bind fun cd => (K.lookup cd).bind fun oc => (dFields oc.data).bind fun vs => (vs[1]?).bind fun v => (vStr v).bind fun q =>
    some (q == fd.qualname && vNone fd.defaults && fd.closure.isEmpty && fd.globals == mainGlobals && fd.builtins == builtinsNs && defOk fd.params fd.scope, cL (cS 60 fd.scope) body, fd.params.args.map (·.arg))
theorem dFunc_of {d : Data} {x : FuncData} (h : dFunc d = some x) : d = .func x := by
  unfold dFunc at h; split at h
  · cases h; rfl
  · cases h
theorem dFields_of {d : Data} {x : Array Value} (h : dFields d = some x) : d = .fields x := by
  unfold dFields at h; split at h
  · cases h; rfl
  · cases h
theorem bStmts_of {d : FuncBody} {x : List Stmt} (h : bStmts d = some x) : d = .stmts x := by
  unfold bStmts at h; split at h
  · cases h; rfl
  · cases h
theorem vRef_of {d : Value} {x : Addr} (h : vRef d = some x) : d = .ref x := by
  unfold vRef at h; split at h
  · cases h; rfl
  · cases h
theorem vStr_of {d : Value} {x : Str} (h : vStr d = some x) : ∃ t, d = .str x t := by
  unfold vStr at h; split at h
  · cases h; exact ⟨_, rfl⟩
  · cases h
theorem fnOk_def {G : PG} {f : Addr} {code : List Sm} {ps : List Str} (h : fnOk G.K f = some (true, some code, ps)) : ∃ fd body, IsDef G f fd body ∧ cL (cS 60 fd.scope) body = some code ∧ fd.params.args.map (·.arg) = ps := by
  unfold fnOk at h
  obtain ⟨o, ho, h⟩ := Option.bind_eq_some_iff.mp h
  obtain ⟨fd, h10, h⟩ := Option.bind_eq_some_iff.mp h
  obtain ⟨body, h11, h⟩ := Option.bind_eq_some_iff.mp h
  obtain ⟨cd, h12, h⟩ := Option.bind_eq_some_iff.mp h
  obtain ⟨oc, hoc, h⟩ := Option.bind_eq_some_iff.mp h
  obtain ⟨vs, h14, h⟩ := Option.bind_eq_some_iff.mp h
  obtain ⟨v, h15, h⟩ := Option.bind_eq_some_iff.mp h
  obtain ⟨q, h16, h⟩ := Option.bind_eq_some_iff.mp h
  have hc := vRef_of h12
  obtain ⟨t, hv⟩ := vStr_of h16
  simp only [Option.some.injEq, Prod.mk.injEq, Bool.and_eq_true, List.isEmpty_iff, beq_iff_eq] at h
  obtain ⟨⟨⟨⟨⟨⟨h1, h2⟩, h3⟩, h4⟩, h5⟩, h6⟩, h7, h8⟩ := h
  refine ⟨fd, body, ?_, h7, h8⟩
  have hd : fd.defaults = .none := by
    cases q : fd.defaults <;> rw [q] at h2 <;> first | rfl | cases h2
  unfold defOk at h6
  simp only [Bool.and_eq_true, List.isEmpty_iff, Option.isNone_iff_eq_none, decide_eq_true_eq, Bool.not_eq_true', beq_iff_eq, List.all_eq_true, bne_iff_ne] at h6
  obtain ⟨⟨⟨⟨⟨⟨⟨⟨⟨⟨g1, g2⟩, g3⟩, g4⟩, g5⟩, g6⟩, g7⟩, g8⟩, g9⟩, g10⟩, g11⟩ := h6
  exact { at_ := fun t => ⟨_, G.inK t _ _ ho, dFunc_of h10⟩, code := fun t => ⟨cd, _, vs, _, hc, G.inK t _ _ hoc, dFields_of h14, by rw [h15, hv, ← h1]⟩, body := bStmts_of h11, params := ⟨g1, g2, g3, g4, g5⟩, dflt := hd, clo := h3, glob := h4, bltn := h5, co := g6, gen := g7, kind := g8
          pk := fun x hx => isLocB_of (g9 x hx), nofree := fun x e => g10 _ (mem_of_lookup e) rfl, nodup := fun n => cells_nodup _ _ _ g11 List.nodup_nil (fun x hx => nomatch hx) }
noncomputable def mtOk (K : W.Frag) (C f : Addr) (m : Str) : Bool := W.plainGet K C m && W.findIn K (.ref C) m == some (some (.ref f)) && W.isFn K (.ref f) && W.keepIn K (.ref f)
noncomputable def MtIs (K : W.Frag) (C f : Addr) (m : Str) (ps : List Str) (code : List Sm) : Prop := (mtOk K C f m, fnOk K f) = (true, some (true, some code, ps))
theorem mt_of {G : PG} {C f : Addr} {m : Str} {code : List Sm} {ps : List Str} (h : MtIs G.K C f m ps code) : Mt G C m ps code f := by
  unfold MtIs at h
  simp only [Prod.mk.injEq] at h
  obtain ⟨h1, h2⟩ := h
  unfold mtOk at h1
  simp only [Bool.and_eq_true, beq_iff_eq] at h1
  exact ⟨h1.1.1.1, h1.1.1.2, h1.1.2, h1.2, fnOk_def h2⟩
noncomputable def mkOk (K : W.Frag) (C f : Addr) : Bool := W.keepIn K (.ref C) && W.makesIn K C && W.findIn K (.ref C) "__init__" == some (some (.ref f)) && W.typeIn K (.ref f) == some (.type "function")
noncomputable def MkIs (K : W.Frag) (C f : Addr) (ps : List Str) (code : List Sm) : Prop := (mkOk K C f, fnOk K f) = (true, some (true, some code, ps))
theorem mk_of {G : PG} {C f : Addr} {x : Str} {code : List Sm} {ps : List Str} (hg : G.mg x = some (.ref C)) (h : MkIs G.K C f ps code) : Mk G x C ps code := by
  unfold MkIs at h
  simp only [Prod.mk.injEq] at h
  obtain ⟨h1, h2⟩ := h
  unfold mkOk at h1
  simp only [Bool.and_eq_true, beq_iff_eq] at h1
  exact ⟨hg, h1.1.1.1, h1.1.1.2, f, h1.1.2, h1.2, fnOk_def h2⟩
noncomputable def clsOk (K : W.Frag) (C : Addr) (as : List Str) : Bool := W.plainGet K C "" && W.hasDictIn K C && as.all (fun a => W.findIn K (.ref C) a == some none) && W.findIn K (.ref C) "__setattr__" == some (some (.builtin "object.__setattr__")) && W.plainOver K C
theorem cls_of {G : PG} {C : Addr} {as : List Str} (h : clsOk G.K C as = true) : Cls G C as := by
  unfold clsOk at h
  simp only [Bool.and_eq_true, beq_iff_eq, List.all_eq_true] at h
  exact ⟨h.1.1.1.1, h.1.1.1.2, h.1.1.2, h.1.2, h.2⟩
/-- an exception class of ours, by the top -/
theorem exc_top {p : Program} {loose : List Str} {mean : ExcName → Option Value} {mg mb : Str → Option Value} {h : Heap} {G : PG} (T : Top p loose mean mg mb h) (hmg : G.mg = mg) (hT : ∀ {B : Heap}, G.T B → h.StaysIn B) {x : Str} {C : Addr} (hC : mg x = some (.ref C))
    (ho : ((ownsOf p).find? fun o => o.name == x).map (fun o => (o.bm, o.newId)) = some (bmVE, "ValueError.__new__")) : ExcOk G x C := by
  intro B hB
  obtain ⟨o, hf, he⟩ := Option.map_eq_some_iff.mp ho
  have hm := List.mem_of_find?_eq_some hf
  have hname : o.name = x := by simpa using List.find?_some hf
  simp only [Prod.mk.injEq] at he
  obtain ⟨C', O, _⟩ := T.own o hm
  rw [hname, he.1, he.2] at O
  have e : C' = C := by
    have := O.bound
    rw [hC] at this
    cases this; rfl
  subst e
  rw [hmg]
  exact O.own.keeps (hT hB)
/-- the globals as the fragment has them -/
noncomputable def globK (K : W.Frag) (x : Str) : Option Value := match K.lookup mainGlobals with
  | some ⟨_, _, .dict es _, _⟩ => nsFind es x
  | _ => none
theorem globK_of {K : W.Frag} {h : Heap} {mg : Str → Option Value} (X : W.Frag.In K h) (g : h.Ns mainGlobals mg) (hK : (K.lookup mainGlobals).isSome = true) (x : Str) : mg x = globK K x := by
  obtain ⟨o, es, ep, ho, hd, _, hm⟩ := g
  obtain ⟨o', h3⟩ := Option.isSome_iff_exists.mp hK
  have h3' := X _ _ h3
  rw [ho] at h3'
  cases h3'
  unfold globK
  rw [h3]
  obtain ⟨c, d, dt, sl⟩ := o
  simp only at hd
  subst hd
  exact (hm x).symm
end Mine
set_option maxRecDepth 100000
set_option linter.unusedSimpArgs false
set_option linter.unusedVariables false
namespace Mine
open PySem PyProof.Rows

noncomputable def cDesk___init__ : List Sm := [.sattr (.nm "self") "hand" (.nm "hand"), .sattr (.nm "self") "hours" (.cst (.int (0))), .sattr (.nm "self") "rows" (.list []), .sattr (.nm "self") "known" (.dict [] []), .sattr (.nm "self") "gone" (.list [])]
noncomputable def cDesk_propose : List Sm := [.ite (.cmp .In (.nm "letter") (.attr (.nm "self") "known")) [.raise "Twice" "it was met before"] [], .sitem (.attr (.nm "self") "known") (.nm "letter") (.cst (.bool true)), .sattr (.nm "self") "hours" (.bin .Add (.attr (.nm "self") "hours") (.cst (.int (1)))), .expr (.meth (.attr (.nm "self") "rows") "append" [(.tup [(.tup [(.attr (.nm "self") "hours"), (.attr (.nm "self") "hand")]), (.nm "letter"), (.cst (.bool false))])]), .ret (some (.tup [(.attr (.nm "self") "hours"), (.attr (.nm "self") "hand")]))]
noncomputable def cDesk_handed : List Sm := [.ret (some (.bi "list" [(.attr (.nm "self") "gone")]))]
noncomputable def cDesk_clock : List Sm := [.ret (some (.attr (.nm "self") "hours"))]

set_option genInjectivity false in
structure DA where
  x : Addr
  d : Addr
  r : Addr
  k : Addr
  g : Addr
abbrev Row := (Int × Int) × Int × Bool
set_option genInjectivity false in
structure Dk where
  hand : Int
  hours : Int
  rows : List Row
  known : List Int
  gone : List Int
noncomputable def rowAV (r : Row) : AV := .tup [mk r.1, .int r.2.1, .bool r.2.2]
noncomputable def knownC (ks : List Int) : List (Int × AV) := ks.map fun k => (k, .bool true)
noncomputable def deskNs (D : DA) (hand hours : Int) : List (Str × AV) := [("hand", .int hand), ("hours", .int hours), ("rows", .ref D.r), ("known", .ref D.k), ("gone", .ref D.g)]
structure DeskAt (CD : Addr) (o : Own) (σ : Sto) (t : Tag) (D : DA) (s : Dk) : Prop where
  x : At o σ t D.x (.inst CD D.d)
  d : At o σ t D.d (.ns (deskNs D s.hand s.hours))
  r : At o σ t D.r (.list (s.rows.map rowAV))
  k : At o σ t D.k (.dictI (knownC s.known))
  g : At o σ t D.g (.list (s.gone.map .int))
  ne : D.r ≠ D.g
theorem DeskAt.chg {CD : Addr} {o o' : Own} {σ σ' : Sto} {t : Tag} {D : DA} {s : Dk} {T : Tag → Prop} (x : DeskAt CD o σ t D s) (h : Chg T o σ o' σ') (n : ¬ T t) : DeskAt CD o' σ' t D s :=
  ⟨x.x.chg h n, x.d.chg h n, x.r.chg h n, x.k.chg h n, x.g.chg h n, x.ne⟩
noncomputable def deskAs : List Str := ["hand", "hours", "rows", "known", "gone"]
noncomputable def Dk.propose (s : Dk) (l : Int) : Dk := { s with hours := s.hours + 1, rows := s.rows ++ [((s.hours + 1, s.hand), l, false)], known := s.known ++ [l] }
theorem known_any (ks : List Int) (k : Int) : ((knownC ks).any fun kv => kv.1 == k) = ks.contains k := by
  induction ks with
  | nil => rfl
  | cons a r ih =>
    rw [show knownC (a :: r) = (a, .bool true) :: knownC r from rfl, List.any_cons, ih, List.contains_cons]
    congr 1
    by_cases q : a = k
    · simp [q]
    · have : k ≠ a := fun z => q z.symm
      rw [beq_eq_false_iff_ne.mpr q, beq_eq_false_iff_ne.mpr this]
theorem known_put (ks : List Int) (k : Int) (h : k ∉ ks) : putI k (.bool true) (knownC ks) = knownC (ks ++ [k]) := by
  induction ks with
  | nil => rfl
  | cons a r ih =>
    have ha : a ≠ k := fun z => h (by simp [z])
    have := ih fun z => h (.tail _ z)
    simp only [knownC, List.map_cons, List.cons_append, putI] at this ⊢
    rw [if_neg ha, this]

section
variable {G : PG} {n : Nat} {ρ : Loc} {σ : Sto} {Φ : PE} {Ψ : PY} {f CD Tw : Addr} {o : Own} {t : Tag} {D : DA} {s : Dk}
noncomputable def DA.setG (D : DA) (g : Addr) : DA := ⟨D.x, D.d, D.r, D.k, g⟩
theorem DeskAt.setRows (S : DeskAt CD o σ t D s) (rows : List Row) : DeskAt CD o (upd σ D.r (.list (rows.map rowAV))) t D { s with rows := rows } ∧ Chg (· = t) o σ o (upd σ D.r (.list (rows.map rowAV))) := by
  have hx := S.x.at_; have hd := S.d.at_; have hr := S.r.at_; have hk := S.k.at_
  refine ⟨⟨S.x.upd ?_, S.d.upd ?_, S.r.put, S.k.upd ?_, S.g.upd (Ne.symm S.ne), S.ne⟩, .put S.r rfl⟩
  · intro z; rw [z, hr] at hx; cases hx
  · intro z; rw [z, hr] at hd; cases hd
  · intro z; rw [z, hr] at hk; cases hk
theorem DeskAt.setHours (S : DeskAt CD o σ t D s) (h : Int) : DeskAt CD o (upd σ D.d (.ns (deskNs D s.hand h))) t D { s with hours := h } ∧ Chg (· = t) o σ o (upd σ D.d (.ns (deskNs D s.hand h))) := by
  have hx := S.x.at_; have hd := S.d.at_; have hr := S.r.at_; have hk := S.k.at_; have hg := S.g.at_
  refine ⟨⟨S.x.upd ?_, S.d.put, S.r.upd ?_, S.k.upd ?_, S.g.upd ?_, S.ne⟩, .put S.d rfl⟩
  · intro z; rw [z, hd] at hx; cases hx
  · intro z; rw [z, hd] at hr; cases hr
  · intro z; rw [z, hd] at hk; cases hk
  · intro z; rw [z, hd] at hg; cases hg
theorem put_hours (D : DA) (a h h' : Int) : putA "hours" (.int h') (deskNs D a h) = deskNs D a h' := by simp [deskNs, putA, strQ]
theorem put_gone (D : DA) (a h : Int) (g : Addr) : putA "gone" (.ref g) (deskNs D a h) = deskNs (D.setG g) a h := by simp [deskNs, putA, strQ, DA.setG]
theorem DeskAt.setKnown (S : DeskAt CD o σ t D s) (ks : List Int) : DeskAt CD o (upd σ D.k (.dictI (knownC ks))) t D { s with known := ks } ∧ Chg (· = t) o σ o (upd σ D.k (.dictI (knownC ks))) :=
  ⟨⟨S.x.upd (S.x.ne_kind S.k (by simp)), S.d.upd (S.d.ne_kind S.k (by simp)), S.r.upd (S.r.ne_kind S.k (by simp)), S.k.put, S.g.upd (S.g.ne_kind S.k (by simp)), S.ne⟩, .put S.k rfl⟩
/-- a desk's attribute -/
theorem DeskAt.attr {k : Str} {v : AV} (A : Cls G CD deskAs) (S : DeskAt CD o σ t D s) (ha : k ∈ deskAs) (hl : (deskNs D s.hand s.hours).lookup k = some v) (hv : v.novalue = true) (l1 : ρ.lookup (Str.ofString "self") = some (.ref D.x)) : Ev G n ρ σ (.attr (.nm "self") k) v := ev_attr (ev_nm l1) (d_attr A S.x.at_ S.d.at_ ha hl hv)
theorem desk_new {hand : Int} (M : Mk G "Desk" CD ["self", "hand"] cDesk___init__) (A : Cls G CD deskAs)
    (h : ∀ D o' σ', Chg (fun _ => False) o σ o' σ' → DeskAt CD o' σ' t D ⟨hand, 0, [], [], []⟩ → Φ (.ref D.x) σ') : WC G (n + 2) (.ref CD) [.int hand] σ Φ Ψ :=
  M.bd t rfl fun x d ρ o₁ σ₁ K X L c X1 D1 hd k =>
    have z : x ≠ d := X1.ne_kind D1 (by simp)
    have l1 := L "self" _ rfl
    g_sattr (ev_nm (L "hand" _ rfl)) (ev_nm l1) (set_at A X1 D1 (by decide) (Nat.le_of_ble_eq_true rfl) fun σ₂ e2 c2 _ D2 =>
    g_sattr ev_cst (ev_nm l1) (set_at A (e2 _ _ _ X1 z) D2 (by decide) (Nat.le_of_ble_eq_true rfl) fun σ₃ e3 c3 _ D3 =>
    g_setL t (fun _ => ev_nm l1) fun r o₄ σ₄ _ c4 R4 => have X4 := (e3 _ _ _ (e2 _ _ _ X1 z) z).chg c4 id; have D4 := D3.chg c4 id
    set_at A X4 D4 (by decide) (Nat.le_of_ble_eq_true rfl) fun σ₅ e5 c5 _ D5 =>
    g_setD t (fun _ => ev_nm l1) fun q o₆ σ₆ c6 Q6 => have X6 := (e5 _ _ _ X4 z).chg c6 id; have D6 := D5.chg c6 id; have R6 := (e5 _ _ _ R4 (R4.ne_kind D4 (by simp))).chg c6 id
    set_at A X6 D6 (by decide) (Nat.le_of_ble_eq_true rfl) fun σ₇ e7 c7 _ D7 =>
    g_setL t (fun _ => ev_nm l1) fun g o₈ σ₈ hg c8 G8 => have X8 := (e7 _ _ _ X6 z).chg c8 id; have D8 := D7.chg c8 id
    have R7 := e7 _ _ _ R6 (R6.ne_kind D6 (by simp)); have R8 := R7.chg c8 id
    have Q8 := (e7 _ _ _ Q6 (Q6.ne_kind D6 (by simp))).chg c8 id
    set_at A X8 D8 (by decide) (Nat.le_of_ble_eq_true rfl) fun σ₉ e9 c9 _ D9 =>
    g_nil (k _ _ (h ⟨x, d, r, q, g⟩ o₈ σ₉ (c9 _ _ _ ((c7 _ _ _ ((c5 _ _ _ ((c3 _ _ _ (c2 _ _ _ c hd) hd).trans c4) hd).trans c6) hd).trans c8) hd) ⟨e9 _ _ _ X8 z, D9, e9 _ _ _ R8 (R8.ne_kind D8 (by simp)), e9 _ _ _ Q8 (Q8.ne_kind D8 (by simp)), e9 _ _ _ G8 (G8.ne_kind D8 (by simp)), R7.off hg⟩))))
theorem propose_ok {l : Int} (hn : 10 ≤ n) (M : Mt G CD "propose" ["self", "letter"] cDesk_propose f) (A : Cls G CD deskAs) (tw : G.mg "Twice" = some (.ref Tw)) (xt : ExcOk G "Twice" Tw) (S : DeskAt CD o σ t D s) (hz : s.rows.length < 10000) (hz' : s.known.length < 10000)
    (h1 : l ∉ s.known → ∀ σ', Chg (· = t) o σ o σ' → DeskAt CD o σ' t D (s.propose l) → Φ (mk (s.hours + 1, s.hand)) σ') (h2 : l ∈ s.known → Rz (Ψ (.ref Tw) σ)) : WC G (n + 1) (.ref f) [.ref D.x, .int l] σ Φ Ψ :=
  M.bd rfl fun ρ K X L hr _ hx => by
    have l1 := L "self" _ rfl
    have l2 := L "letter" _ rfl
    have c : ∀ {q}, s.known.contains l = q → Et G n ρ σ (.cmp .In (.nm "letter") (.attr (.nm "self") "known")) q := fun e => et_cmp (ev_nm l2) (S.attr A (by decide) rfl rfl l1) fun P p => in_dictI (G := G) S.k.at_ (by rw [known_any, e]; exact p)
    by_cases q : l ∈ s.known
    · exact g_iteT (c (List.contains_iff_mem.mpr q)) (do_raise tw hn xt (Rz.to (h2 q) (hx _ _ _)))
    · refine g_if0 (c (eq_false_of_ne_true fun z => q (List.contains_iff_mem.mp z))) (g_sitem ev_cst (S.attr A (by decide) rfl rfl l1) (ev_nm l2) (si_dictI S.k.at_ (by rw [knownC, List.length_map]; exact Nat.lt_trans hz' (by decide)) ?_))
      rw [known_put _ _ q]
      obtain ⟨S1, c1⟩ := S.setKnown (s.known ++ [l])
      generalize upd σ D.k (.dictI (knownC (s.known ++ [l]))) = σ₁ at S1 c1
      refine g_sattr (ev_bin (S1.attr A (by decide) rfl rfl l1) ev_cst d_add) (ev_nm l1) (at_set A S1.x.at_ S1.d.at_ (by decide) (Nat.le_of_ble_eq_true rfl) ?_)
      rw [put_hours]
      obtain ⟨S2, c2⟩ := S1.setHours (s.hours + 1)
      have c2 := c1.trans c2
      generalize upd σ₁ D.d (.ns (deskNs D s.hand (s.hours + 1))) = σ₂ at S2 c2
      have hm : Ev G n ρ σ₂ (.tup [(.attr (.nm "self") "hours"), (.attr (.nm "self") "hand")]) (mk (s.hours + 1, s.hand)) := ev_tup (es_cons (S2.attr A (by decide) rfl rfl l1) (es_cons (S2.attr A (by decide) rfl rfl l1) es_nil)) (Nat.le_of_ble_eq_true rfl)
      refine g_app (S2.attr A (by decide) rfl rfl l1) S2.r.at_ (ev_tup (es_cons hm (es_cons (ev_nm l2) (es_cons ev_cst es_nil))) (Nat.le_of_ble_eq_true rfl)) (by rw [List.length_map]; exact Nat.lt_trans hz (by decide)) ?_
      obtain ⟨S3, c3⟩ := S2.setRows (s.rows ++ [((s.hours + 1, s.hand), l, false)])
      rw [List.map_append] at S3 c3
      exact g_ret (ev_tup (es_cons (S3.attr A (by decide) rfl rfl l1) (es_cons (S3.attr A (by decide) rfl rfl l1) es_nil)) (Nat.le_of_ble_eq_true rfl)) (hr _ _ _ (h1 q _ (c2.trans c3) S3))
theorem clock_ok (M : Mt G CD "clock" ["self"] cDesk_clock f) (A : Cls G CD deskAs) (S : DeskAt CD o σ t D s) (h : Φ (.int s.hours) σ) : WC G (n + 1) (.ref f) [.ref D.x] σ Φ Ψ :=
  M.bd rfl fun ρ K X L hr _ hx => g_ret (S.attr A (by decide) rfl rfl (L _ _ rfl)) (hr _ _ _ h)
theorem handed_ok (M : Mt G CD "handed" ["self"] cDesk_handed f) (A : Cls G CD deskAs) (S : DeskAt CD o σ t D s) (hz : s.gone.length < 10000) (h : ∀ a, σ a = none → Ext σ (upd σ a (.list (s.gone.map .int))) → Φ (.ref a) (upd σ a (.list (s.gone.map .int)))) : WC G (n + 1) (.ref f) [.ref D.x] σ Φ Ψ :=
  M.bd rfl fun ρ K X L hr _ hx => g_retL (S.attr A (by decide) rfl rfl (L _ _ rfl)) S.g.lst (by rw [List.length_map]; exact Nat.le_of_lt (Nat.lt_trans hz (by decide))) fun a ha x => hr _ _ _ (h a ha x)
end
end Mine
set_option maxRecDepth 100000
set_option linter.unusedSimpArgs false
set_option linter.unusedVariables false
namespace Mine
open PySem PyProof.Rows

noncomputable def cless : List Sm := [.ite (.cmp .Eq (.sub (.nm "one") (.cst (.int (0)))) (.sub (.nm "other") (.cst (.int (0))))) [.ret (some (.cmp .Lt (.sub (.nm "one") (.cst (.int (1)))) (.sub (.nm "other") (.cst (.int (1))))))] [], .ret (some (.cmp .Lt (.sub (.nm "one") (.cst (.int (0)))) (.sub (.nm "other") (.cst (.int (0))))))]
noncomputable def cgreatest : List Sm := [.asg "found" (.sub (.nm "marks") (.cst (.int (0)))), .for_ "mark" (.nm "marks") [.ite (.call "less" [(.nm "found"), (.nm "mark")]) [.asg "found" (.nm "mark")] []], .ret (some (.nm "found"))]

noncomputable def ltM (p q : Int × Int) : Bool := if p.1 = q.1 then decide (p.2 < q.2) else decide (p.1 < q.1)
noncomputable def step1 (acc m : Int × Int) : Int × Int := if ltM acc m = true then m else acc

section
variable {G : PG} {n : Nat} {ρ : Loc} {σ : Sto} {Φ : PE} {Ψ : PY} {f : Addr}
theorem less_is {p q : Int × Int} (F : Fn1 G "less" ["one", "other"] cless f) : CallIs G (n + 1) f [mk p, mk q] σ (.bool (ltM p q)) := fun Φ Ψ h =>
  F.bd rfl fun ρ K X L hr _ _ => by
    unfold ltM at h
    by_cases e : p.1 = q.1
    · rw [if_pos e] at h
      exact g_ifR (et_cmp (ev_sub (ev_nm (L _ _ rfl)) ev_cst d_0) (ev_sub (ev_nm (L _ _ rfl)) ev_cst d_0) (d_eqT e)) (ev_cmp (ev_sub (ev_nm (L _ _ rfl)) ev_cst d_1) (ev_sub (ev_nm (L _ _ rfl)) ev_cst d_1) d_lt) (hr _ _ _ h)
    · rw [if_neg e] at h
      exact g_if0 (et_cmp (ev_sub (ev_nm (L _ _ rfl)) ev_cst d_0) (ev_sub (ev_nm (L _ _ rfl)) ev_cst d_0) (d_eqF e)) (g_ret (ev_cmp (ev_sub (ev_nm (L _ _ rfl)) ev_cst d_0) (ev_sub (ev_nm (L _ _ rfl)) ev_cst d_0) d_lt) (hr _ _ _ h))
theorem less_b {p q : Int × Int} {b : Bool} (F : Fn1 G "less" ["one", "other"] cless f) (e : ltM p q = b) : CallIs G (n + 1) f [mk p, mk q] σ (.bool b) := e ▸ less_is F
theorem foldl_take {α β : Type} {g : β → α → β} {b : β} {l : List α} {i : Nat} {a : α} (h : l[i]? = some a) : (l.take (i + 1)).foldl g b = g ((l.take i).foldl g b) a := by
  rw [List.take_add_one, h, List.foldl_append]; rfl
theorem greatest_is {g r : Addr} {m0 : Int × Int} {ms : List (Int × Int)} (F : Fn1 G "greatest" ["marks"] cgreatest f) (L : Fn1 G "less" ["one", "other"] cless g) (hr : lstOf σ r = some ((m0 :: ms).map mk)) : CallIs G (n + 2) f [.ref r] σ (mk ((m0 :: ms).foldl step1 m0)) := fun Φ Ψ h =>
  F.bd rfl fun ρ K X l k _ _ => g_asg (ev_sub (ev_nm (l _ _ rfl)) ev_cst (d_lst hr (by decide) (by decide) (idx0 _ _)))
    (g_forL (lk_ne (by decide) (l _ _ rfl)) hr (fun i ρ₂ => ρ₂.lookup (Str.ofString "found") = some (mk (((m0 :: ms).take i).foldl step1 m0))) lk_eq (fun i v K₂ ρ₂ hv h1 k1 _ => by
      rw [List.getElem?_map] at hv
      obtain ⟨m, hm, rfl⟩ := Option.map_eq_some_iff.mp hv
      have k2 := fun ρ₄ => foldl_take hm ▸ k1 ρ₄
      clear k1
      generalize (List.take i (m0 :: ms)).foldl step1 m0 = acc at h1 k2
      by_cases e : ltM acc m = true
      · exact g_iteT (et_call (ev_call L (es_cons (ev_nm (lk_ne (by decide) h1)) (es_cons (ev_nm lk_eq) es_nil)) (less_b L e))) (g_asg (ev_nm lk_eq) (k2 _ (by rw [step1, if_pos e]; exact lk_eq)))
      · exact g_if0 (et_call (ev_call L (es_cons (ev_nm (lk_ne (by decide) h1)) (es_cons (ev_nm lk_eq) es_nil)) (less_b L (eq_false_of_ne_true e)))) (k2 _ (by rw [step1, if_neg e]; exact lk_ne (by decide) h1))) fun ρ₂ h1 => g_ret (ev_nm h1) (k _ _ _ (by rw [List.length_map, List.take_length]; exact h)))
end
end Mine
set_option maxRecDepth 100000
set_option linter.unusedSimpArgs false
set_option linter.unusedVariables false
namespace Mine
open PySem PyProof.Rows

noncomputable def cDesk_open_place : List Sm := [.for_ "place" (.bi "range" [(.bi "len" [(.attr (.nm "self") "rows")])]) [.ite (.and_ [(.cmp .Eq (.sub (.sub (.attr (.nm "self") "rows") (.nm "place")) (.cst (.int (1)))) (.nm "letter")), (.not_ (.sub (.sub (.attr (.nm "self") "rows") (.nm "place")) (.cst (.int (2)))))]) [.ret (some (.nm "place"))] []], .raise "NotOpen" "it has no open mark here"]
noncomputable def cDesk_settle : List Sm := [.asg "place" (.meth (.nm "self") "open_place" [(.nm "letter")]), .ite (.call "less" [(.nm "mark"), (.sub (.sub (.attr (.nm "self") "rows") (.nm "place")) (.cst (.int (0))))]) [.raise "BadMark" "the proposed mark is greater"] [], .sitem (.attr (.nm "self") "rows") (.nm "place") (.tup [(.nm "mark"), (.nm "letter"), (.cst (.bool true))]), .sattr (.nm "self") "hours" (.bi "max" [(.attr (.nm "self") "hours"), (.sub (.nm "mark") (.cst (.int (0))))]), .asg "found" (.list []), .asg "least" (.meth (.nm "self") "least_place" []), .while_ (.and_ [(.cmp .IsNot (.nm "least") (.cst .none)), (.sub (.sub (.attr (.nm "self") "rows") (.nm "least")) (.cst (.int (2))))]) [.expr (.meth (.nm "found") "append" [(.sub (.sub (.attr (.nm "self") "rows") (.nm "least")) (.cst (.int (1))))]), .expr (.meth (.attr (.nm "self") "rows") "pop" [(.nm "least")]), .asg "least" (.meth (.nm "self") "least_place" [])], .sattr (.nm "self") "gone" (.bin .Add (.attr (.nm "self") "gone") (.nm "found")), .ret (some (.nm "found"))]
noncomputable def cDesk_least_place : List Sm := [.ite (.cmp .Eq (.attr (.nm "self") "rows") (.list [])) [.ret (some (.cst .none))] [], .asg "least" (.cst (.int (0))), .for_ "place" (.bi "range" [(.bi "len" [(.attr (.nm "self") "rows")])]) [.ite (.call "less" [(.sub (.sub (.attr (.nm "self") "rows") (.nm "place")) (.cst (.int (0)))), (.sub (.sub (.attr (.nm "self") "rows") (.nm "least")) (.cst (.int (0))))]) [.asg "least" (.nm "place")] []], .ret (some (.nm "least"))]

/-- the first open row of a letter -/
noncomputable def OpenAt (rows : List Row) (l : Int) (i : Nat) : Prop := (∃ m, rows[i]? = some (m, l, false)) ∧ ∀ (j : Nat) (r : Row), j < i → rows[j]? = some r → ¬ (r.2.1 = l ∧ r.2.2 = false)
noncomputable def NoOpen (rows : List Row) (l : Int) : Prop := ∀ (j : Nat) (r : Row), rows[j]? = some r → ¬ (r.2.1 = l ∧ r.2.2 = false)
/-- a least row -/
noncomputable def LeastAt (rows : List Row) (k : Nat) : Prop := ∃ r, rows[k]? = some r ∧ ∀ (j : Nat) (q : Row), rows[j]? = some q → ltM q.1 r.1 = false
/-- the rows that are handed out -/
inductive Del : List Row → List Int → List Row → Prop
  | nil : Del [] [] []
  | stop {rows k r} : LeastAt rows k → rows[k]? = some r → r.2.2 = false → Del rows [] rows
  | go {rows k m l f rest} : LeastAt rows k → rows[k]? = some (m, l, true) → Del (rows.eraseIdx k) f rest → Del rows (l :: f) rest
theorem ltM_irr (p : Int × Int) : ltM p p = false := by simp [ltM]
theorem ltM_trans' {p q r : Int × Int} (h1 : ltM p q = true) (h2 : ltM r q = false) : ltM r p = false := by
  unfold ltM at *
  split at h1 <;> split at h2 <;> split <;> simp at * <;> omega
theorem row_get {rows : List Row} {i : Nat} {r : Row} (h : rows[i]? = some r) : (rows.map rowAV)[i]? = some (rowAV r) := by rw [List.getElem?_map, h]; rfl
section
variable {G : PG} {n : Nat} {ρ : Loc} {σ : Sto} {Φ : PE} {Ψ : PY} {f CD : Addr} {o : Own} {t : Tag} {D : DA} {s : Dk} {ΦP : Bool → Prop}
theorem at_rows (A : Cls G CD deskAs) (S : DeskAt CD o σ t D s) : AttrIs G σ (.ref D.x) "rows" (.ref D.r) := d_attr A S.x.at_ S.d.at_ (by first | decide | simp [deskAs]) (by first | rfl | simp [deskNs, List.lookup, strE]) rfl
theorem sb_row {i : Nat} {r : Row} (S : DeskAt CD o σ t D s) (hz : s.rows.length < 10000) (h : s.rows[i]? = some r) : SubIs σ (.ref D.r) (.int i) (rowAV r) := d_get S.r.lst (by rw [List.length_map]; exact Nat.lt_trans hz (by decide)) (row_get h)
/-- a row of the desk -/
theorem ev_row {i : Nat} {r : Row} {e : Ex} {v : AV} {k : Int} (A : Cls G CD deskAs) (S : DeskAt CD o σ t D s) (hz : s.rows.length < 10000) (h : s.rows[i]? = some r) (l1 : ρ.lookup (Str.ofString "self") = some (.ref D.x)) (he : Ev G n ρ σ e (.int i)) (hk : SubIs σ (rowAV r) (.int k) v) : Ev G n ρ σ (.sub (.sub (.attr (.nm "self") "rows") e) (.cst (.int k))) v :=
  ev_sub (ev_sub (ev_attr (ev_nm l1) (at_rows A S)) he (sb_row S hz h)) ev_cst hk
theorem open_ok {l : Int} {No : Addr} (hn : 10 ≤ n) (M : Mt G CD "open_place" ["self", "letter"] cDesk_open_place f) (A : Cls G CD deskAs) (no : G.mg "NotOpen" = some (.ref No)) (xn : ExcOk G "NotOpen" No) (S : DeskAt CD o σ t D s) (hz : s.rows.length < 10000)
    (h1 : ∀ i, OpenAt s.rows l i → Φ (.int i) σ) (h2 : NoOpen s.rows l → Rz (Ψ (.ref No) σ)) : WC G (n + 1) (.ref f) [.ref D.x, .int l] σ Φ Ψ := by
  refine M.bd rfl fun ρ K X L hr _ hx => ?_
  refine g_forS hn (ev_bi (es_cons (ev_attr (ev_nm (L "self" _ rfl)) (at_rows A S)) es_nil) (d_lenM S.r.lst (Nat.lt_trans hz (by decide)))) (Nat.lt_trans hz (by decide)) (fun i ρ₂ => (ρ₂.lookup (Str.ofString "self") = some (.ref D.x) ∧ ρ₂.lookup (Str.ofString "letter") = some (.int l)) ∧ ∀ j r, j < i → s.rows[j]? = some r → ¬ (r.2.1 = l ∧ r.2.2 = false)) ⟨⟨L "self" _ rfl, L "letter" _ rfl⟩, fun j r z => absurd z (Nat.not_lt_zero _)⟩ ?_ ?_
  · rintro i K₂ ρ₂ hi ⟨ll, h⟩ k1 k2
    have hr' : s.rows[i]? = some s.rows[i] := List.getElem?_eq_getElem hi
    generalize s.rows[i] = r at hr'
    have l1 : (putA "place" (.int i) ρ₂).lookup (Str.ofString "self") = some (.ref D.x) := lk_ne (by decide) ll.1
    have row : ∀ {k v}, SubIs σ (rowAV r) (.int k) v → Ev G n (putA "place" (.int i) ρ₂) σ (.sub (.sub (.attr (.nm "self") "rows") (.nm "place")) (.cst (.int k))) v := ev_row A S hz hr' l1 (ev_nm lk_eq)
    have next : ¬ (r.2.1 = l ∧ r.2.2 = false) → K₂ .next (putA "place" (.int i) ρ₂) σ := fun z => k1 _ ⟨⟨l1, lk_ne (by decide) ll.2⟩, fun j q hj hq => by
      by_cases e : j = i
      · subst e; rw [hr'] at hq; cases hq; exact z
      · exact h j q (Nat.lt_of_le_of_ne (Nat.le_of_lt_succ hj) e) hq⟩
    have c1 : ∀ {q}, (r.2.1 == l) = q → Et G n (putA "place" (.int i) ρ₂) σ (.cmp .Eq (.sub (.sub (.attr (.nm "self") "rows") (.nm "place")) (.cst (.int (1)))) (.nm "letter")) q := fun e => e ▸ et_cmp (row d_1) (ev_nm (lk_ne (by decide) ll.2)) d_eqi
    by_cases e1 : r.2.1 = l
    · by_cases e2 : r.2.2 = false
      · exact g_ifR (et_and (ea_T (c1 (by rw [e1, beq_self_eq_true])) (ea_T (et_notT (et_sub (row (e2 ▸ d_2)))) ea_nil))) (ev_nm lk_eq) (k2 _ _ _ (hr _ _ _ (h1 i ⟨⟨r.1, by rw [hr', ← e1, ← e2]⟩, h⟩)))
      · exact g_if0 (et_and (ea_T (c1 (by rw [e1, beq_self_eq_true])) (ea_F (et_notF (et_sub (row ((eq_true_of_ne_false e2) ▸ d_2))))))) (next fun z => e2 z.2)
    · exact g_if0 (et_and (ea_F (c1 (beq_eq_false_iff_ne.mpr e1)))) (next fun z => e1 z.1)
  · rintro ρ₂ ⟨_, h⟩
    exact do_raise no hn xn (Rz.to (h2 fun j r hr => h j r (List.getElem?_eq_some_iff.mp hr).1 hr) (hx _ _ _))
theorem datum_rows {k : Nat} (rs : List Row) : mapO (datum σ (k + 3)) (rs.map rowAV) = some (rs.map fun r => .tuple [mkD r.1, .int r.2.1, .bool r.2.2]) :=
  mapO_map rowAV (fun r => PyData.tuple [mkD r.1, .int r.2.1, .bool r.2.2]) rs fun r _ => by simp [rowAV, datum, mapO, datum_mk]
theorem rows_nil {b : Addr} (S : DeskAt CD o σ t D s) (hb : lstOf σ b = some []) (p : ΦP (s.rows.isEmpty)) : eqV σ (.ref D.r) (.ref b) ΦP := by
  have e1 := datum_lst S.r.lst (datum_rows (σ := σ) (k := 2) s.rows)
  have e2 : datum σ 6 (.ref b) = some (.list []) := datum_lst hb rfl
  refine eq_refs e1 e2 (canAll _ _ fun r _ => by simp [PyData.canLay0, PyData.canLayAll0, can_mk]) rfl ?_ p
  cases s.rows with
  | nil => rfl
  | cons a r => simp [PyData.eqv, PyData.eqvAll]
theorem least_ok {g : Addr} (hn : 10 ≤ n) (M : Mt G CD "least_place" ["self"] cDesk_least_place f) (L : Fn1 G "less" ["one", "other"] cless g) (A : Cls G CD deskAs) (S : DeskAt CD o σ t D s) (hz : s.rows.length < 10000)
    (h1 : ∀ i σ', Ext σ σ' → LeastAt s.rows i → Φ (.int i) σ') (h2 : ∀ σ', Ext σ σ' → s.rows = [] → Φ .none σ') : WC G (n + 1) (.ref f) [.ref D.x] σ Φ Ψ := by
  refine M.bd rfl fun ρ K X l k _ _ => ?_
  obtain ⟨n, rfl⟩ : ∃ j, n = j + 1 := by first | with_reducible exact Nat.exists_eq_add_of_le' (Nat.le_trans (by decide) hn) | exact ⟨n - 1, (by first | decide | with_reducible exact lv hn | with_reducible exact lv1 hn | with_reducible exact lv2 hn | with_reducible exact Int.natCast_nonneg _ | with_reducible assumption | omega)⟩
  have l1 := l "self" _ rfl
  have hz' := Nat.lt_trans hz (show 10000 < 1000000 by decide)
  refine g_iteN (ev_attr (ev_nm l1) (at_rows A S)) fun b σ₁ hx hb => ?_
  have S' := S.chg (.ext (T := fun _ => False) hx) id
  refine ⟨s.rows.isEmpty, fun P p => rows_nil S' hb p, ?_⟩
  cases hr : s.rows with
  | nil => exact g_ret (r := []) ev_cst (k _ _ _ (h2 _ hx hr))
  | cons r0 rs =>
    refine g_asg ev_cst (g_forS hn (ev_bi (es_cons (ev_attr (ev_nm (lk_ne (by decide) l1)) (at_rows A S')) es_nil) (d_lenM S'.r.lst hz')) hz' (fun i ρ₂ => ρ₂.lookup (Str.ofString "self") = some (.ref D.x) ∧ ∃ k r, ρ₂.lookup (Str.ofString "least") = some (.int (k : Nat)) ∧ s.rows[k]? = some r ∧ ∀ j q, j < i → s.rows[j]? = some q → ltM q.1 r.1 = false) ⟨lk_ne (by decide) l1, 0, r0, lk_eq, by rw [hr]; rfl, fun j r z => absurd z (Nat.not_lt_zero _)⟩ ?_ ?_)
    · rintro i K₂ ρ₂ hi ⟨l1, k, r, l2, hk, h⟩ k1 _
      have hq : s.rows[i]? = some s.rows[i] := List.getElem?_eq_getElem hi
      generalize s.rows[i] = q at hq
      have c : ∀ {b}, ltM q.1 r.1 = b → Et G (n + 1) (putA "place" (.int i) ρ₂) σ₁ (.call "less" [(.sub (.sub (.attr (.nm "self") "rows") (.nm "place")) (.cst (.int (0)))), (.sub (.sub (.attr (.nm "self") "rows") (.nm "least")) (.cst (.int (0))))]) b := fun e =>
        et_call (ev_call L (es_cons (ev_row A S' hz hq (lk_ne (by decide) l1) (ev_nm lk_eq) d_0) (es_cons (ev_row A S' hz hk (lk_ne (by decide) l1) (ev_nm (lk_ne (by decide) l2)) d_0) es_nil)) (less_b L e))
      by_cases e : ltM q.1 r.1 = true
      · refine g_iteT (c e) (g_asg (ev_nm lk_eq) (k1 _ ⟨lk_ne (by decide) (lk_ne (by decide) l1), i, q, lk_eq, hq, fun j p hj hp => ?_⟩))
        by_cases z : j = i
        · subst z; rw [hq] at hp; cases hp; exact ltM_irr _
        · exact ltM_trans' e (h j p (Nat.lt_of_le_of_ne (Nat.le_of_lt_succ hj) z) hp)
      · refine g_if0 (c (eq_false_of_ne_true e)) (k1 _ ⟨lk_ne (by decide) l1, k, r, lk_ne (by decide) l2, hk, fun j p hj hp => ?_⟩)
        by_cases z : j = i
        · subst z; rw [hq] at hp; cases hp; exact eq_false_of_ne_true e
        · exact h j p (Nat.lt_of_le_of_ne (Nat.le_of_lt_succ hj) z) hp
    · rintro ρ₂ ⟨l1, j, r, l2, hk, h⟩
      exact g_ret (ev_nm l2) (k _ _ _ (h1 j _ hx ⟨r, hk, fun j q hq => h j q (List.getElem?_eq_some_iff.mp hq).1 hq⟩))
end
end Mine
set_option maxRecDepth 100000
set_option linter.unusedSimpArgs false
set_option linter.unusedVariables false
namespace Mine
open PySem PyProof.Rows

/-- changes of what T owns, and of one more object -/
structure ChgB (T : Tag → Prop) (b : Addr) (o : Own) (σ : Sto) (o' : Own) (σ' : Sto) : Prop where
  tag : ∀ a c, σ a = some c → o' a = o a
  there : ∀ a c, σ a = some c → ∃ c', σ' a = some c'
  keep : ∀ a c, σ a = some c → ¬ T (o a) → a ≠ b → σ' a = some c
theorem Chg.toB {T : Tag → Prop} {b : Addr} {o o' : Own} {σ σ' : Sto} (x : Chg T o σ o' σ') : ChgB T b o σ o' σ' := ⟨x.tag, x.there, fun a c e n _ => x.keep a c e n⟩
theorem ChgB.trans {T : Tag → Prop} {b : Addr} {o o' o'' : Own} {σ σ' σ'' : Sto} (x : ChgB T b o σ o' σ') (y : ChgB T b o' σ' o'' σ'') : ChgB T b o σ o'' σ'' := by
  refine ⟨fun a c e => ?_, fun a c e => ?_, fun a c e n m => ?_⟩
  · obtain ⟨c', e'⟩ := x.there a c e
    exact (y.tag a c' e').trans (x.tag a c e)
  · obtain ⟨c', e'⟩ := x.there a c e
    exact y.there a c' e'
  · exact y.keep a c (x.keep a c e n m) (by rw [x.tag a c e]; exact n) m
theorem ChgB.put {T : Tag → Prop} {b : Addr} {o : Own} {σ : Sto} {c : Cell} : ChgB T b o σ o (upd σ b c) := by
  refine ⟨fun _ _ _ => rfl, fun a e h => ?_, fun a e h n m => by rw [upd_ne m]; exact h⟩
  by_cases q : a = b
  · exact ⟨c, by rw [q, upd_same]⟩
  · exact ⟨e, by rw [upd_ne q]; exact h⟩
theorem ChgB.chg {T : Tag → Prop} {b : Addr} {o o' : Own} {σ σ' : Sto} (x : ChgB T b o σ o' σ') (h : σ b = none) : Chg T o σ o' σ' := ⟨x.tag, x.there, fun a c e n => x.keep a c e n fun z => by rw [z, h] at e; cases e⟩
theorem eraseIdx_map' {α β : Type} (f : α → β) : ∀ (l : List α) (i : Nat), (l.map f).eraseIdx i = (l.eraseIdx i).map f
  | [], _ => rfl
  | _ :: _, 0 => rfl
  | a :: l, i + 1 => by simp [eraseIdx_map' f l i]
section
variable {G : PG} {n : Nat} {ρ : Loc} {σ : Sto} {Φ : PE} {Ψ : PY} {f CD : Addr} {o : Own} {t tf : Tag} {D : DA} {s : Dk} {ΦP : Bool → Prop}
theorem erase_len {α : Type} {l : List α} {i : Nat} (h : i < l.length) : (l.eraseIdx i).length + 1 = l.length := by rw [List.length_eraseIdx, if_pos h]; omega
/-- what least_place gives -/
noncomputable def LeastIs (rows : List Row) (v : AV) : Prop := (rows = [] ∧ v = .none) ∨ ∃ k : Nat, LeastAt rows k ∧ v = .int k
theorem least_ok' {g : Addr} (hn : 10 ≤ n) (M : Mt G CD "least_place" ["self"] cDesk_least_place f) (L : Fn1 G "less" ["one", "other"] cless g) (A : Cls G CD deskAs) (S : DeskAt CD o σ t D s) (hz : s.rows.length < 10000) (h : ∀ v σ', Ext σ σ' → LeastIs s.rows v → Φ v σ') : WC G (n + 1) (.ref f) [.ref D.x] σ Φ Ψ :=
  least_ok hn M L A S hz (fun i σ' x z => h _ σ' x (.inr ⟨i, z, rfl⟩)) fun σ' x z => h _ σ' x (.inl ⟨z, rfl⟩)
theorem del_len {a r : List Row} {f : List Int} (h : Del a f r) : f.length ≤ a.length := by
  induction h with
  | nil => exact Nat.le_refl _
  | stop _ _ _ => exact Nat.zero_le _
  | go h1 h2 _ ih =>
    have := (List.getElem?_eq_some_iff.mp h2).1
    rw [← erase_len this]; exact Nat.succ_le_succ ih
/-- the loop that hands out -/
theorem hand_out {g fl b : Addr} {r : List Sm} {Φ : PS} {Ψ : PX} (hn : 11 ≤ n) (LP : Mt G CD "least_place" ["self"] cDesk_least_place fl) (L : Fn1 G "less" ["one", "other"] cless g) (A : Cls G CD deskAs) (S : DeskAt CD o σ t D s) (hz : s.rows.length < 10000) (htf : tf ≠ t)
    (B : At o σ tf b (.list [])) (l1 : ρ.lookup (Str.ofString "self") = some (.ref D.x)) (l2 : ρ.lookup (Str.ofString "found") = some (.ref b))
    (l3 : ∃ v, ρ.lookup (Str.ofString "least") = some v ∧ LeastIs s.rows v)
    (k : ∀ fs rows' ρ' σ', Del s.rows fs rows' → ChgB (· = t) b o σ o σ' → DeskAt CD o σ' t D { s with rows := rows' } → At o σ' tf b (.list (fs.map .int)) → ρ'.lookup (Str.ofString "self") = some (.ref D.x) → ρ'.lookup (Str.ofString "found") = some (.ref b) → tss G n r ρ' σ' Φ Ψ) :
    tss G n (.while_ (.and_ [(.cmp .IsNot (.nm "least") (.cst .none)), (.sub (.sub (.attr (.nm "self") "rows") (.nm "least")) (.cst (.int (2))))]) [.expr (.meth (.nm "found") "append" [(.sub (.sub (.attr (.nm "self") "rows") (.nm "least")) (.cst (.int (1))))]), .expr (.meth (.attr (.nm "self") "rows") "pop" [(.nm "least")]), .asg "least" (.meth (.nm "self") "least_place" [])] :: r) ρ σ Φ Ψ := by
  obtain ⟨n, rfl⟩ : ∃ j, n = j + 1 := by first | with_reducible exact Nat.exists_eq_add_of_le' (Nat.le_trans (by decide) hn) | exact ⟨n - 1, (by first | decide | with_reducible exact lv hn | with_reducible exact lv1 hn | with_reducible exact lv2 hn | with_reducible exact Int.natCast_nonneg _ | with_reducible assumption | omega)⟩
  refine g_while (fun k ρ₂ σ₂ => ∃ rows fs, rows.length = k ∧ rows.length + fs.length = s.rows.length ∧ DeskAt CD o σ₂ t D { s with rows := rows } ∧ ChgB (· = t) b o σ o σ₂ ∧ At o σ₂ tf b (.list (fs.map .int)) ∧ (ρ₂.lookup (Str.ofString "self") = some (.ref D.x) ∧ ρ₂.lookup (Str.ofString "found") = some (.ref b)) ∧
      (∃ v, ρ₂.lookup (Str.ofString "least") = some v ∧ LeastIs rows v) ∧ ∀ f' r', Del rows f' r' → Del s.rows (fs ++ f') r') s.rows.length ⟨s.rows, [], rfl, rfl, S, Chg.refl.toB, B, ⟨l1, l2⟩, l3, fun f' r' z => z⟩ ?_
  rintro kk ρ₂ σ₂ K ⟨rows, fs, rfl, hlen, S₂, c₂, B₂, ⟨l1, l2⟩, ⟨v, l3, hv⟩, hD⟩ kJ
  have hz₂ : rows.length < 10000 := Nat.lt_of_le_of_lt (hlen ▸ Nat.le_add_right _ _) hz
  rcases hv with ⟨rfl, rfl⟩ | ⟨j, hj, rfl⟩
  · refine .inl ⟨et_and (ea_F (et_cmp (ev_nm l3) ev_cst (d_some rfl))), k fs [] ρ₂ σ₂ ?_ c₂ S₂ B₂ l1 l2⟩
    have := hD [] [] .nil
    rw [List.append_nil] at this; exact this
  · obtain ⟨⟨m, l, b2⟩, hrow, hle⟩ := id hj
    have hjl := (List.getElem?_eq_some_iff.mp hrow).1
    cases b2 with
    | false =>
      refine .inl ⟨et_and (ea_T (et_cmp (ev_nm l3) ev_cst (d_some rfl)) (ea_F (et_sub (ev_row A S₂ hz₂ hrow l1 (ev_nm l3) d_2)))), k fs rows ρ₂ σ₂ ?_ c₂ S₂ B₂ l1 l2⟩
      have := hD [] rows (.stop hj hrow rfl)
      rw [List.append_nil] at this; exact this
    | true =>
      refine .inr ⟨et_and (ea_T (et_cmp (ev_nm l3) ev_cst (d_some rfl)) (ea_T (et_sub (ev_row A S₂ hz₂ hrow l1 (ev_nm l3) d_2)) ea_nil)), g_app (ev_nm l2) B₂.at_ (ev_row A S₂ hz₂ hrow l1 (ev_nm l3) d_1) ?_ ?_⟩
      · rw [List.length_map]; unfold sizeLine; omega
      have c3 : Chg (· = tf) o σ₂ o (upd σ₂ b (.list (fs.map .int ++ [.int l]))) := .put B₂ rfl
      have B₃ : At o (upd σ₂ b (.list (fs.map .int ++ [.int l]))) tf b (.list (fs.map .int ++ [.int l])) := B₂.put
      have S₃ := S₂.chg c3 (Ne.symm htf)
      have c₃ : ChgB (· = t) b o σ o (upd σ₂ b (.list (fs.map .int ++ [.int l]))) := c₂.trans .put
      clear c3
      generalize upd σ₂ b (.list (fs.map .int ++ [.int l])) = σ₃ at S₃ c₃ B₃
      refine g_pop (S₃.attr A (by decide) rfl rfl l1) S₃.r.at_ (ev_nm l3) (by rw [List.length_map]; exact Nat.lt_trans hz₂ (by decide)) (row_get hrow) ?_
      rw [eraseIdx_map']
      obtain ⟨S₄, c4⟩ := S₃.setRows (rows.eraseIdx j)
      have B₄ := B₃.chg c4 htf
      have c₄ := c₃.trans c4.toB
      clear c4
      generalize upd σ₃ D.r (.list ((rows.eraseIdx j).map rowAV)) = σ₄ at S₄ c₄ B₄
      have hle : (rows.eraseIdx j).length + 1 = rows.length := erase_len hjl
      refine g_asgM LP (ev_nm l1) S₄.x.at_ S₄.d.at_ rfl es_nil (least_ok' (n := n) (Nat.le_of_succ_le_succ hn) LP L A S₄ (show (rows.eraseIdx j).length < 10000 by omega) fun v σ₅ hx hv => g_nil (kJ (rows.eraseIdx j).length _ _ (by first | decide | with_reducible exact lv hn | with_reducible exact lv1 hn | with_reducible exact lv2 hn | with_reducible exact Int.natCast_nonneg _ | omega) ⟨rows.eraseIdx j, fs ++ [l], rfl, ?_, S₄.chg (.ext (T := fun _ => False) hx) id, c₄.trans (Chg.toB (.ext hx)), ?_, ⟨lk_ne (by decide) l1, lk_ne (by decide) l2⟩, ⟨v, lk_eq, hv⟩, fun f' r' z => ?_⟩))
      · rw [List.length_append, ← hlen, ← hle, Nat.add_right_comm]; rfl
      · rw [List.map_append]; exact B₄.ext hx
      · have := hD (l :: f') r' (.go hj hrow z)
        rw [List.append_assoc]; exact this
theorem settle_ok {l : Int} {m : Int × Int} {g fl fp No Bm : Addr} (hn : 12 ≤ n) (M : Mt G CD "settle" ["self", "letter", "mark"] cDesk_settle f) (LP : Mt G CD "least_place" ["self"] cDesk_least_place fl) (OP : Mt G CD "open_place" ["self", "letter"] cDesk_open_place fp) (L : Fn1 G "less" ["one", "other"] cless g)
    (A : Cls G CD deskAs) (no : G.mg "NotOpen" = some (.ref No)) (xn : ExcOk G "NotOpen" No) (bm : G.mg "BadMark" = some (.ref Bm)) (xb : ExcOk G "BadMark" Bm) (tf : Tag) (S : DeskAt CD o σ t D s) (hz : s.rows.length < 10000) (hz' : s.gone.length < 10000) (htf : tf ≠ t)
    (h1 : ∀ i m0 fs rows' b g' o' σ', OpenAt s.rows l i → s.rows[i]? = some (m0, l, false) → ltM m m0 = false → Del (s.rows.set i (m, l, true)) fs rows' → Chg (· = t) o σ o' σ' → DeskAt CD o' σ' t (D.setG g') ⟨s.hand, max s.hours m.1, rows', s.known, s.gone ++ fs⟩ → σ b = none → At o' σ' tf b (.list (fs.map .int)) → Φ (.ref b) σ')
    (h2 : NoOpen s.rows l → Rz (Ψ (.ref No) σ)) (h3 : ∀ i m0, OpenAt s.rows l i → s.rows[i]? = some (m0, l, false) → ltM m m0 = true → Rz (Ψ (.ref Bm) σ)) : WC G (n + 1) (.ref f) [.ref D.x, .int l, mk m] σ Φ Ψ := by
  obtain ⟨n, rfl⟩ : ∃ j, n = j + 1 := by first | with_reducible exact Nat.exists_eq_add_of_le' (Nat.le_trans (by decide) hn) | exact ⟨n - 1, (by first | decide | with_reducible exact lv hn | with_reducible exact lv1 hn | with_reducible exact lv2 hn | with_reducible exact Int.natCast_nonneg _ | with_reducible assumption | omega)⟩
  refine M.bd rfl fun ρ K X l' hr' _ hx => ?_
  have l1 := l' "self" _ rfl
  have l2 := l' "letter" _ rfl
  have l3 := l' "mark" _ rfl
  clear l'
  refine g_asgM OP (ev_nm l1) S.x.at_ S.d.at_ rfl (es_cons (ev_nm l2) es_nil) (open_ok (n := n) (lv1 hn) OP A no xn S hz (fun i hi => ?_) fun z => Rz.to (h2 z) (hx _ _ _))
  obtain ⟨m0, hrow⟩ := hi.1
  have hil := (List.getElem?_eq_some_iff.mp hrow).1
  have l1 := lk_ne (x := Str.ofString "place") (a := .int i) (by decide) l1
  have l2 := lk_ne (x := Str.ofString "place") (a := .int i) (by decide) l2
  have l3 := lk_ne (x := Str.ofString "place") (a := .int i) (by decide) l3
  have l4 := lk_eq (x := Str.ofString "place") (a := .int i) (ρ := ρ)
  generalize putA (Str.ofString "place") (.int i) ρ = ρ₁ at l1 l2 l3 l4
  have c : ∀ {b}, ltM m m0 = b → Et G (n + 1) ρ₁ σ (.call "less" [(.nm "mark"), (.sub (.sub (.attr (.nm "self") "rows") (.nm "place")) (.cst (.int (0))))]) b := fun e => et_call (ev_call L (es_cons (ev_nm l3) (es_cons (ev_row A S hz hrow l1 (ev_nm l4) d_0) es_nil)) (less_b L e))
  cases e : ltM m m0 with
  | true => exact g_iteT (c e) (do_raise bm (lv hn) xb (Rz.to (h3 i m0 hi hrow e) (hx _ _ _)))
  | false =>
    refine g_if0 (c e) (g_sitem (ev_tup (es_cons (ev_nm l3) (es_cons (ev_nm l2) (es_cons ev_cst es_nil))) (Nat.le_of_ble_eq_true rfl)) (S.attr A (by decide) rfl rfl l1) (ev_nm l4) (si_nat S.r.at_ (by rw [List.length_map]; exact hil) (by rw [List.length_map]; exact Nat.lt_trans hz (by decide)) ?_))
    have er : (s.rows.map rowAV).set i (.tup [mk m, .int l, .bool true]) = (s.rows.set i (m, l, true)).map rowAV := by rw [List.map_set]; rfl
    rw [er]
    obtain ⟨S₁, c1⟩ := S.setRows (s.rows.set i (m, l, true))
    generalize upd σ D.r (.list ((s.rows.set i (m, l, true)).map rowAV)) = σ₁ at S₁ c1
    refine g_sattr (ev_bi (es_cons (S₁.attr A (by decide) rfl rfl l1) (es_cons (ev_sub (ev_nm l3) ev_cst d_0) es_nil)) fun P p => bi_max2 (lv hn) p) (ev_nm l1) (at_set A S₁.x.at_ S₁.d.at_ (by decide) (Nat.le_of_ble_eq_true rfl) ?_)
    rw [put_hours]
    obtain ⟨S₂, c2⟩ := S₁.setHours (max s.hours m.1)
    have c₂ := c1.trans c2
    clear c1 c2
    generalize upd σ₁ D.d (.ns (deskNs D s.hand (max s.hours m.1))) = σ₂ at S₂ c₂
    refine g_asgL (o := o) tf fun b o₃ σ₃ hb cb B₃ => ?_
    have hσb : σ b = none := c₂.none hb
    have S₃ := S₂.chg cb id
    have c₃ := c₂.trans (cb.mono fun _ z => z.elim)
    have hz₃ : (s.rows.set i (m, l, true)).length < 10000 := by rw [List.length_set]; exact hz
    refine g_asgM LP (ev_nm (lk_ne (by decide) l1)) S₃.x.at_ S₃.d.at_ rfl es_nil (least_ok' (n := n) (lv1 hn) LP L A S₃ hz₃ fun v σ₄ hx hv => ?_)
    have S₄ := S₃.chg (.ext (T := fun _ => False) hx) id
    have c₄ := c₃.trans (.ext hx)
    refine hand_out (tf := tf) (lv hn) LP L A S₄ hz₃ htf (B₃.ext hx) (lk_ne (by decide) (lk_ne (by decide) l1)) (lk_ne (by decide) lk_eq) ⟨v, lk_eq, hv⟩ fun fs rows' ρ' σ₅ hD c5 S₅ B₅ l1 l2 => ?_
    have hfl := del_len hD
    refine g_addL (o := o₃) t (ev_nm l1) (S₅.attr A (by decide) rfl rfl l1) (ev_nm l2) S₅.g.lst B₅.lst ?_ fun g' o₆ σ₆ hg' cg G₆ => ?_
    · rw [List.length_append, List.length_map, List.length_map]; unfold sizeLine; simp only [] at hfl hz₃ ⊢; omega
    rw [← List.map_append] at G₆
    have S₆ := S₅.chg cg id
    have B₆ := B₅.chg cg id
    have hge := S₅.r.off hg'
    have c₆ := c5.trans (cg.mono (T' := (· = t)) fun _ z => z.elim).toB
    refine at_set A S₆.x.at_ S₆.d.at_ (by decide) (Nat.le_of_ble_eq_true rfl) ?_
    rw [put_gone]
    have c7 : Chg (· = t) o₆ σ₆ o₆ (upd σ₆ D.d (.ns (deskNs (D.setG g') s.hand (max s.hours m.1)))) := .put S₆.d rfl
    exact g_ret (ev_nm l2) (hr' _ _ _ (h1 i m0 fs rows' b g' o₆ _ hi hrow e hD ((c₄.toB.trans (c₆.trans c7.toB)).chg hσb) ⟨S₆.x.upd (S₆.x.ne_kind S₆.d (by simp)), S₆.d.put, S₆.r.upd (S₆.r.ne_kind S₆.d (by simp)), S₆.k.upd (S₆.k.ne_kind S₆.d (by simp)), G₆.upd (G₆.ne_kind S₆.d (by simp)), hge⟩ hσb (B₆.chg c7 htf)))
end
end Mine
set_option maxRecDepth 100000
set_option linter.unusedSimpArgs false
set_option linter.unusedVariables false
namespace Mine
open PySem PyProof.Rows

noncomputable def cHouse___init__ : List Sm := [.ite (.or_ [(.not_ (.call "is_place" [(.nm "many"), (.bin .Add (.gl "MOST_HANDS") (.cst (.int (1))))])), (.cmp .Eq (.nm "many") (.cst (.int (0))))]) [.raise "BadCount" "a house has 1 to 40 hands"] [], .sattr (.nm "self") "desks" (.comp (.call "Desk" [(.nm "hand")]) "hand" (.bi "range" [(.nm "many")]) []), .sattr (.nm "self") "road" (.list []), .sattr (.nm "self") "owners" (.list []), .sattr (.nm "self") "wrote" (.list []), .sattr (.nm "self") "told" (.list []), .sattr (.nm "self") "finals" (.list [])]
noncomputable def cHouse_need_hand : List Sm := [.ite (.not_ (.call "is_place" [(.nm "hand"), (.bi "len" [(.attr (.nm "self") "desks")])])) [.raise "NoHand" "no hand of the house"] []]
noncomputable def cHouse_need_letter : List Sm := [.ite (.not_ (.call "is_place" [(.nm "letter"), (.bi "len" [(.attr (.nm "self") "owners")])])) [.raise "NoLetter" "no letter that was sent"] []]
noncomputable def cHouse_to_others : List Sm := [.asg "owner" (.sub (.attr (.nm "self") "owners") (.nm "letter")), .for_ "hand" (.bi "range" [(.bi "len" [(.attr (.nm "self") "desks")])]) [.ite (.cmp .NotEq (.nm "hand") (.nm "owner")) [.expr (.meth (.attr (.nm "self") "road") "append" [(.tup [(.nm "word"), (.nm "letter"), (.nm "owner"), (.nm "hand"), (.nm "mark")])])] []]]
noncomputable def cHouse_send : List Sm := [.expr (.meth (.nm "self") "need_hand" [(.nm "hand")]), .asg "letter" (.bi "len" [(.attr (.nm "self") "owners")]), .expr (.meth (.attr (.nm "self") "owners") "append" [(.nm "hand")]), .expr (.meth (.attr (.nm "self") "wrote") "append" [(.nm "text")]), .expr (.meth (.attr (.nm "self") "told") "append" [(.list [(.meth (.sub (.attr (.nm "self") "desks") (.nm "hand")) "propose" [(.nm "letter")])])]), .expr (.meth (.attr (.nm "self") "finals") "append" [(.cst .none)]), .expr (.meth (.nm "self") "to_others" [(.cst (.str "letter")), (.nm "letter"), (.cst .none)]), .expr (.meth (.nm "self") "close" [(.nm "letter")]), .ret (some (.nm "letter"))]
noncomputable def cHouse_close : List Sm := [.ite (.cmp .Lt (.bi "len" [(.sub (.attr (.nm "self") "told") (.nm "letter"))]) (.bi "len" [(.attr (.nm "self") "desks")])) [.ret none] [], .asg "mark" (.call "greatest" [(.sub (.attr (.nm "self") "told") (.nm "letter"))]), .sitem (.attr (.nm "self") "finals") (.nm "letter") (.nm "mark"), .expr (.meth (.sub (.attr (.nm "self") "desks") (.sub (.attr (.nm "self") "owners") (.nm "letter"))) "settle" [(.nm "letter"), (.nm "mark")]), .expr (.meth (.nm "self") "to_others" [(.cst (.str "mark")), (.nm "letter"), (.nm "mark")])]
noncomputable def cHouse_mails : List Sm := [.ret (some (.bi "list" [(.attr (.nm "self") "road")]))]
noncomputable def cHouse_bring : List Sm := [.ite (.not_ (.call "is_place" [(.nm "place"), (.bi "len" [(.attr (.nm "self") "road")])])) [.raise "NoMail" "no mail stands there"] [], .asg "mail" (.meth (.attr (.nm "self") "road") "pop" [(.nm "place")]), .asg "letter" (.sub (.nm "mail") (.cst (.int (1)))), .asg "hand" (.sub (.nm "mail") (.cst (.int (3)))), .ite (.cmp .Eq (.sub (.nm "mail") (.cst (.int (0)))) (.cst (.str "letter"))) [.asg "mark" (.meth (.sub (.attr (.nm "self") "desks") (.nm "hand")) "propose" [(.nm "letter")]), .expr (.meth (.attr (.nm "self") "road") "append" [(.tup [(.cst (.str "number")), (.nm "letter"), (.nm "hand"), (.sub (.nm "mail") (.cst (.int (2)))), (.nm "mark")])])] [.ite (.cmp .Eq (.sub (.nm "mail") (.cst (.int (0)))) (.cst (.str "number"))) [.expr (.meth (.sub (.attr (.nm "self") "told") (.nm "letter")) "append" [(.sub (.nm "mail") (.cst (.int (4))))]), .expr (.meth (.nm "self") "close" [(.nm "letter")])] [.expr (.meth (.sub (.attr (.nm "self") "desks") (.nm "hand")) "settle" [(.nm "letter"), (.sub (.nm "mail") (.cst (.int (4))))])]], .ret (some (.nm "mail"))]
noncomputable def cHouse_letters : List Sm := [.ret (some (.bi "len" [(.attr (.nm "self") "owners")]))]
noncomputable def cHouse_sender : List Sm := [.expr (.meth (.nm "self") "need_letter" [(.nm "letter")]), .ret (some (.sub (.attr (.nm "self") "owners") (.nm "letter")))]
noncomputable def cHouse_text : List Sm := [.expr (.meth (.nm "self") "need_letter" [(.nm "letter")]), .ret (some (.sub (.attr (.nm "self") "wrote") (.nm "letter")))]
noncomputable def cHouse_mark : List Sm := [.expr (.meth (.nm "self") "need_letter" [(.nm "letter")]), .ret (some (.sub (.attr (.nm "self") "finals") (.nm "letter")))]
noncomputable def cHouse_handed : List Sm := [.expr (.meth (.nm "self") "need_hand" [(.nm "hand")]), .ret (some (.meth (.sub (.attr (.nm "self") "desks") (.nm "hand")) "handed" []))]
noncomputable def cHouse_clock : List Sm := [.expr (.meth (.nm "self") "need_hand" [(.nm "hand")]), .ret (some (.meth (.sub (.attr (.nm "self") "desks") (.nm "hand")) "clock" []))]
noncomputable def cis_place : List Sm := [.ret (some (.and_ [(.bi "isinstance" [(.nm "thing"), (.gl "int")]), (.not_ (.bi "isinstance" [(.nm "thing"), (.gl "bool")])), (.cmp2 .LtE .Lt (.cst (.int (0))) (.nm "thing") (.nm "many"))]))]

set_option genInjectivity false in
structure HA where
  x : Addr
  d : Addr
  ds : Addr
  rd : Addr
  ow : Addr
  wr : Addr
  td : Addr
  fn : Addr
  D : List DA
  T : List Addr
abbrev Mark := Int × Int
abbrev Mail := Str × Int × Int × Int × Option Mark
noncomputable def mailAV (m : Mail) : AV := mail m.1 m.2.1 m.2.2.1 m.2.2.2.1 m.2.2.2.2
noncomputable def finAV : Option Mark → AV
  | none => .none
  | some p => mk p
set_option genInjectivity false in
structure Hs where
  desks : List Dk
  road : List Mail
  owners : List Int
  wrote : List Str
  told : List (List Mark)
  finals : List (Option Mark)
noncomputable def houseNs (A : HA) : List (Str × AV) := [("desks", .ref A.ds), ("road", .ref A.rd), ("owners", .ref A.ow), ("wrote", .ref A.wr), ("told", .ref A.td), ("finals", .ref A.fn)]
noncomputable def houseAs : List Str := ["desks", "road", "owners", "wrote", "told", "finals"]
structure HouseAt (CH CD : Addr) (o : Own) (σ : Sto) (b : Nat) (A : HA) (H : Hs) : Prop where
  x : At o σ (b, 0) A.x (.inst CH A.d)
  d : At o σ (b, 0) A.d (.ns (houseNs A))
  ds : At o σ (b, 1) A.ds (.list (A.D.map fun D => .ref D.x))
  rd : At o σ (b, 2) A.rd (.list (H.road.map mailAV))
  ow : At o σ (b, 3) A.ow (.list (H.owners.map .int))
  wr : At o σ (b, 4) A.wr (.list (H.wrote.map .str))
  td : At o σ (b, 5) A.td (.list (A.T.map .ref))
  fn : At o σ (b, 6) A.fn (.list (H.finals.map finAV))
  len : A.D.length = H.desks.length
  lenT : A.T.length = H.told.length
  desk : ∀ i D s, A.D[i]? = some D → H.desks[i]? = some s → DeskAt CD o σ (b, 10 + 2 * i) D s
  told : ∀ i a ms, A.T[i]? = some a → H.told[i]? = some ms → At o σ (b, 11 + 2 * i) a (.list (ms.map mk))
theorem tg_e {a i : Nat} (h : a < 10) : a ≠ 10 + 2 * i := by omega
theorem tg_o {a i : Nat} (h : a < 11) : a ≠ 11 + 2 * i := by omega
theorem tg_eo (i j : Nat) : 10 + 2 * i ≠ 11 + 2 * j := by omega
theorem tg_oe (i j : Nat) : 11 + 2 * i ≠ 10 + 2 * j := by omega
theorem tg_ge (a i : Nat) (h : a < 10) : 10 + 2 * i ≠ a := by omega
theorem tg_go (a i : Nat) (h : a < 10) : 11 + 2 * i ≠ a := by omega
theorem tg_ee {i j : Nat} (h : i ≠ j) : 10 + 2 * i ≠ 10 + 2 * j := by omega
theorem tg_oo {i j : Nat} (h : i ≠ j) : 11 + 2 * i ≠ 11 + 2 * j := by omega
section
variable {CH CD : Addr} {o o' : Own} {σ σ' : Sto} {b : Nat} {A : HA} {H : Hs} {T : Tag → Prop}
theorem HouseAt.chg (x : HouseAt CH CD o σ b A H) (c : Chg T o σ o' σ') (n : ∀ j, ¬ T (b, j)) : HouseAt CH CD o' σ' b A H :=
  ⟨x.x.chg c (n _), x.d.chg c (n _), x.ds.chg c (n _), x.rd.chg c (n _), x.ow.chg c (n _), x.wr.chg c (n _), x.td.chg c (n _), x.fn.chg c (n _), x.len, x.lenT, fun i D s h1 h2 => (x.desk i D s h1 h2).chg c (n _), fun i a ms h1 h2 => (x.told i a ms h1 h2).chg c (n _)⟩
theorem HouseAt.ext (x : HouseAt CH CD o σ b A H) (e : Ext σ σ') : HouseAt CH CD o σ' b A H := x.chg (.ext (T := fun _ => False) e) fun _ => id
theorem HouseAt.road (x : HouseAt CH CD o σ b A H) (r : List Mail) : HouseAt CH CD o (upd σ A.rd (.list (r.map mailAV))) b A { H with road := r } ∧ Chg (·.1 = b) o σ o (upd σ A.rd (.list (r.map mailAV))) := by
  have c : Chg (· = (b, 2)) o σ o (upd σ A.rd (.list (r.map mailAV))) := .put x.rd rfl
  have n : ∀ j, j ≠ 2 → ¬ ((b, j) = (b, 2)) := fun j h z => h (by simpa using z)
  exact ⟨⟨x.x.chg c (n _ (by first | decide | exact tg_e (by decide) | exact tg_o (by decide) | exact tg_eo _ _ | exact tg_oe _ _ | exact tg_ge _ _ (by decide) | exact tg_go _ _ (by decide) | exact tg_ee (by assumption) | exact tg_oo (by assumption) | omega)), x.d.chg c (n _ (by first | decide | exact tg_e (by decide) | exact tg_o (by decide) | exact tg_eo _ _ | exact tg_oe _ _ | exact tg_ge _ _ (by decide) | exact tg_go _ _ (by decide) | exact tg_ee (by assumption) | exact tg_oo (by assumption) | omega)), x.ds.chg c (n _ (by first | decide | exact tg_e (by decide) | exact tg_o (by decide) | exact tg_eo _ _ | exact tg_oe _ _ | exact tg_ge _ _ (by decide) | exact tg_go _ _ (by decide) | exact tg_ee (by assumption) | exact tg_oo (by assumption) | omega)), x.rd.put, x.ow.chg c (n _ (by first | decide | exact tg_e (by decide) | exact tg_o (by decide) | exact tg_eo _ _ | exact tg_oe _ _ | exact tg_ge _ _ (by decide) | exact tg_go _ _ (by decide) | exact tg_ee (by assumption) | exact tg_oo (by assumption) | omega)), x.wr.chg c (n _ (by first | decide | exact tg_e (by decide) | exact tg_o (by decide) | exact tg_eo _ _ | exact tg_oe _ _ | exact tg_ge _ _ (by decide) | exact tg_go _ _ (by decide) | exact tg_ee (by assumption) | exact tg_oo (by assumption) | omega)), x.td.chg c (n _ (by first | decide | exact tg_e (by decide) | exact tg_o (by decide) | exact tg_eo _ _ | exact tg_oe _ _ | exact tg_ge _ _ (by decide) | exact tg_go _ _ (by decide) | exact tg_ee (by assumption) | exact tg_oo (by assumption) | omega)), x.fn.chg c (n _ (by first | decide | exact tg_e (by decide) | exact tg_o (by decide) | exact tg_eo _ _ | exact tg_oe _ _ | exact tg_ge _ _ (by decide) | exact tg_go _ _ (by decide) | exact tg_ee (by assumption) | exact tg_oo (by assumption) | omega)), x.len, x.lenT, fun i D s h1 h2 => (x.desk i D s h1 h2).chg c (n _ (by first | decide | exact tg_e (by decide) | exact tg_o (by decide) | exact tg_eo _ _ | exact tg_oe _ _ | exact tg_ge _ _ (by decide) | exact tg_go _ _ (by decide) | exact tg_ee (by assumption) | exact tg_oo (by assumption) | omega)), fun i a ms h1 h2 => (x.told i a ms h1 h2).chg c (n _ (by first | decide | exact tg_e (by decide) | exact tg_o (by decide) | exact tg_eo _ _ | exact tg_oe _ _ | exact tg_ge _ _ (by decide) | exact tg_go _ _ (by decide) | exact tg_ee (by assumption) | exact tg_oo (by assumption) | omega))⟩, c.mono fun _ z => by rw [z]⟩
theorem HouseAt.owners (x : HouseAt CH CD o σ b A H) (r : List Int) : HouseAt CH CD o (upd σ A.ow (.list (r.map .int))) b A { H with owners := r } ∧ Chg (·.1 = b) o σ o (upd σ A.ow (.list (r.map .int))) := by
  have c : Chg (· = (b, 3)) o σ o (upd σ A.ow (.list (r.map .int))) := .put x.ow rfl
  have n : ∀ j, j ≠ 3 → ¬ ((b, j) = (b, 3)) := fun j h z => h (by simpa using z)
  exact ⟨⟨x.x.chg c (n _ (by first | decide | exact tg_e (by decide) | exact tg_o (by decide) | exact tg_eo _ _ | exact tg_oe _ _ | exact tg_ge _ _ (by decide) | exact tg_go _ _ (by decide) | exact tg_ee (by assumption) | exact tg_oo (by assumption) | omega)), x.d.chg c (n _ (by first | decide | exact tg_e (by decide) | exact tg_o (by decide) | exact tg_eo _ _ | exact tg_oe _ _ | exact tg_ge _ _ (by decide) | exact tg_go _ _ (by decide) | exact tg_ee (by assumption) | exact tg_oo (by assumption) | omega)), x.ds.chg c (n _ (by first | decide | exact tg_e (by decide) | exact tg_o (by decide) | exact tg_eo _ _ | exact tg_oe _ _ | exact tg_ge _ _ (by decide) | exact tg_go _ _ (by decide) | exact tg_ee (by assumption) | exact tg_oo (by assumption) | omega)), x.rd.chg c (n _ (by first | decide | exact tg_e (by decide) | exact tg_o (by decide) | exact tg_eo _ _ | exact tg_oe _ _ | exact tg_ge _ _ (by decide) | exact tg_go _ _ (by decide) | exact tg_ee (by assumption) | exact tg_oo (by assumption) | omega)), x.ow.put, x.wr.chg c (n _ (by first | decide | exact tg_e (by decide) | exact tg_o (by decide) | exact tg_eo _ _ | exact tg_oe _ _ | exact tg_ge _ _ (by decide) | exact tg_go _ _ (by decide) | exact tg_ee (by assumption) | exact tg_oo (by assumption) | omega)), x.td.chg c (n _ (by first | decide | exact tg_e (by decide) | exact tg_o (by decide) | exact tg_eo _ _ | exact tg_oe _ _ | exact tg_ge _ _ (by decide) | exact tg_go _ _ (by decide) | exact tg_ee (by assumption) | exact tg_oo (by assumption) | omega)), x.fn.chg c (n _ (by first | decide | exact tg_e (by decide) | exact tg_o (by decide) | exact tg_eo _ _ | exact tg_oe _ _ | exact tg_ge _ _ (by decide) | exact tg_go _ _ (by decide) | exact tg_ee (by assumption) | exact tg_oo (by assumption) | omega)), x.len, x.lenT, fun i D s h1 h2 => (x.desk i D s h1 h2).chg c (n _ (by first | decide | exact tg_e (by decide) | exact tg_o (by decide) | exact tg_eo _ _ | exact tg_oe _ _ | exact tg_ge _ _ (by decide) | exact tg_go _ _ (by decide) | exact tg_ee (by assumption) | exact tg_oo (by assumption) | omega)), fun i a ms h1 h2 => (x.told i a ms h1 h2).chg c (n _ (by first | decide | exact tg_e (by decide) | exact tg_o (by decide) | exact tg_eo _ _ | exact tg_oe _ _ | exact tg_ge _ _ (by decide) | exact tg_go _ _ (by decide) | exact tg_ee (by assumption) | exact tg_oo (by assumption) | omega))⟩, c.mono fun _ z => by rw [z]⟩
theorem HouseAt.wrote (x : HouseAt CH CD o σ b A H) (r : List Str) : HouseAt CH CD o (upd σ A.wr (.list (r.map .str))) b A { H with wrote := r } ∧ Chg (·.1 = b) o σ o (upd σ A.wr (.list (r.map .str))) := by
  have c : Chg (· = (b, 4)) o σ o (upd σ A.wr (.list (r.map .str))) := .put x.wr rfl
  have n : ∀ j, j ≠ 4 → ¬ ((b, j) = (b, 4)) := fun j h z => h (by simpa using z)
  exact ⟨⟨x.x.chg c (n _ (by first | decide | exact tg_e (by decide) | exact tg_o (by decide) | exact tg_eo _ _ | exact tg_oe _ _ | exact tg_ge _ _ (by decide) | exact tg_go _ _ (by decide) | exact tg_ee (by assumption) | exact tg_oo (by assumption) | omega)), x.d.chg c (n _ (by first | decide | exact tg_e (by decide) | exact tg_o (by decide) | exact tg_eo _ _ | exact tg_oe _ _ | exact tg_ge _ _ (by decide) | exact tg_go _ _ (by decide) | exact tg_ee (by assumption) | exact tg_oo (by assumption) | omega)), x.ds.chg c (n _ (by first | decide | exact tg_e (by decide) | exact tg_o (by decide) | exact tg_eo _ _ | exact tg_oe _ _ | exact tg_ge _ _ (by decide) | exact tg_go _ _ (by decide) | exact tg_ee (by assumption) | exact tg_oo (by assumption) | omega)), x.rd.chg c (n _ (by first | decide | exact tg_e (by decide) | exact tg_o (by decide) | exact tg_eo _ _ | exact tg_oe _ _ | exact tg_ge _ _ (by decide) | exact tg_go _ _ (by decide) | exact tg_ee (by assumption) | exact tg_oo (by assumption) | omega)), x.ow.chg c (n _ (by first | decide | exact tg_e (by decide) | exact tg_o (by decide) | exact tg_eo _ _ | exact tg_oe _ _ | exact tg_ge _ _ (by decide) | exact tg_go _ _ (by decide) | exact tg_ee (by assumption) | exact tg_oo (by assumption) | omega)), x.wr.put, x.td.chg c (n _ (by first | decide | exact tg_e (by decide) | exact tg_o (by decide) | exact tg_eo _ _ | exact tg_oe _ _ | exact tg_ge _ _ (by decide) | exact tg_go _ _ (by decide) | exact tg_ee (by assumption) | exact tg_oo (by assumption) | omega)), x.fn.chg c (n _ (by first | decide | exact tg_e (by decide) | exact tg_o (by decide) | exact tg_eo _ _ | exact tg_oe _ _ | exact tg_ge _ _ (by decide) | exact tg_go _ _ (by decide) | exact tg_ee (by assumption) | exact tg_oo (by assumption) | omega)), x.len, x.lenT, fun i D s h1 h2 => (x.desk i D s h1 h2).chg c (n _ (by first | decide | exact tg_e (by decide) | exact tg_o (by decide) | exact tg_eo _ _ | exact tg_oe _ _ | exact tg_ge _ _ (by decide) | exact tg_go _ _ (by decide) | exact tg_ee (by assumption) | exact tg_oo (by assumption) | omega)), fun i a ms h1 h2 => (x.told i a ms h1 h2).chg c (n _ (by first | decide | exact tg_e (by decide) | exact tg_o (by decide) | exact tg_eo _ _ | exact tg_oe _ _ | exact tg_ge _ _ (by decide) | exact tg_go _ _ (by decide) | exact tg_ee (by assumption) | exact tg_oo (by assumption) | omega))⟩, c.mono fun _ z => by rw [z]⟩
theorem HouseAt.finals (x : HouseAt CH CD o σ b A H) (r : List (Option Mark)) : HouseAt CH CD o (upd σ A.fn (.list (r.map finAV))) b A { H with finals := r } ∧ Chg (·.1 = b) o σ o (upd σ A.fn (.list (r.map finAV))) := by
  have c : Chg (· = (b, 6)) o σ o (upd σ A.fn (.list (r.map finAV))) := .put x.fn rfl
  have n : ∀ j, j ≠ 6 → ¬ ((b, j) = (b, 6)) := fun j h z => h (by simpa using z)
  exact ⟨⟨x.x.chg c (n _ (by first | decide | exact tg_e (by decide) | exact tg_o (by decide) | exact tg_eo _ _ | exact tg_oe _ _ | exact tg_ge _ _ (by decide) | exact tg_go _ _ (by decide) | exact tg_ee (by assumption) | exact tg_oo (by assumption) | omega)), x.d.chg c (n _ (by first | decide | exact tg_e (by decide) | exact tg_o (by decide) | exact tg_eo _ _ | exact tg_oe _ _ | exact tg_ge _ _ (by decide) | exact tg_go _ _ (by decide) | exact tg_ee (by assumption) | exact tg_oo (by assumption) | omega)), x.ds.chg c (n _ (by first | decide | exact tg_e (by decide) | exact tg_o (by decide) | exact tg_eo _ _ | exact tg_oe _ _ | exact tg_ge _ _ (by decide) | exact tg_go _ _ (by decide) | exact tg_ee (by assumption) | exact tg_oo (by assumption) | omega)), x.rd.chg c (n _ (by first | decide | exact tg_e (by decide) | exact tg_o (by decide) | exact tg_eo _ _ | exact tg_oe _ _ | exact tg_ge _ _ (by decide) | exact tg_go _ _ (by decide) | exact tg_ee (by assumption) | exact tg_oo (by assumption) | omega)), x.ow.chg c (n _ (by first | decide | exact tg_e (by decide) | exact tg_o (by decide) | exact tg_eo _ _ | exact tg_oe _ _ | exact tg_ge _ _ (by decide) | exact tg_go _ _ (by decide) | exact tg_ee (by assumption) | exact tg_oo (by assumption) | omega)), x.wr.chg c (n _ (by first | decide | exact tg_e (by decide) | exact tg_o (by decide) | exact tg_eo _ _ | exact tg_oe _ _ | exact tg_ge _ _ (by decide) | exact tg_go _ _ (by decide) | exact tg_ee (by assumption) | exact tg_oo (by assumption) | omega)), x.td.chg c (n _ (by first | decide | exact tg_e (by decide) | exact tg_o (by decide) | exact tg_eo _ _ | exact tg_oe _ _ | exact tg_ge _ _ (by decide) | exact tg_go _ _ (by decide) | exact tg_ee (by assumption) | exact tg_oo (by assumption) | omega)), x.fn.put, x.len, x.lenT, fun i D s h1 h2 => (x.desk i D s h1 h2).chg c (n _ (by first | decide | exact tg_e (by decide) | exact tg_o (by decide) | exact tg_eo _ _ | exact tg_oe _ _ | exact tg_ge _ _ (by decide) | exact tg_go _ _ (by decide) | exact tg_ee (by assumption) | exact tg_oo (by assumption) | omega)), fun i a ms h1 h2 => (x.told i a ms h1 h2).chg c (n _ (by first | decide | exact tg_e (by decide) | exact tg_o (by decide) | exact tg_eo _ _ | exact tg_oe _ _ | exact tg_ge _ _ (by decide) | exact tg_go _ _ (by decide) | exact tg_ee (by assumption) | exact tg_oo (by assumption) | omega))⟩, c.mono fun _ z => by rw [z]⟩
theorem app_get {α : Type} {l : List α} {a b : α} {i : Nat} (h : (l ++ [a])[i]? = some b) : (i < l.length ∧ l[i]? = some b) ∨ (i = l.length ∧ b = a) := by
  by_cases q : i < l.length
  · rw [List.getElem?_append_left q] at h; exact .inl ⟨q, h⟩
  · have hi := (List.getElem?_eq_some_iff.mp h).1
    simp at hi
    have : i = l.length := by omega
    subst this
    simp at h
    exact .inr ⟨rfl, h.symm⟩
/-- a letter is sent -/
theorem set_get {α : Type} {l : List α} {i j : Nat} {v w : α} (h : (l.set i v)[j]? = some w) : (j = i ∧ w = v ∧ i < l.length) ∨ (j ≠ i ∧ l[j]? = some w) := by
  rw [List.getElem?_set] at h
  by_cases e : i = j
  · rw [if_pos e] at h
    split at h
    · rename_i hl; cases h; exact .inl ⟨e.symm, rfl, hl⟩
    · cases h
  · rw [if_neg e] at h; exact .inr ⟨fun z => e z.symm, h⟩
/-- a desk has turned -/
theorem HouseAt.setDesk {i : Nat} {D : DA} {s : Dk} (x : HouseAt CH CD o σ b A H) (c : Chg (· = (b, 10 + 2 * i)) o σ o' σ') (hi : i < H.desks.length) (hx : ∀ D', A.D[i]? = some D' → D'.x = D.x) (S : DeskAt CD o' σ' (b, 10 + 2 * i) D s) :
    HouseAt CH CD o' σ' b { A with D := A.D.set i D } { H with desks := H.desks.set i s } := by
  have n : ∀ j, j ≠ 10 + 2 * i → ¬ ((b, j) = (b, 10 + 2 * i)) := fun j h z => h (by simpa using z)
  have e : (A.D.set i D).map (fun D => AV.ref D.x) = A.D.map fun D => .ref D.x := by
    rw [List.map_set]
    have hl : i < A.D.length := by rw [x.len]; exact hi
    refine List.ext_getElem? fun j => ?_
    rw [List.getElem?_set]
    split
    · rename_i q; subst q
      rw [if_pos (by simpa using hl), List.getElem?_map, List.getElem?_eq_getElem hl]
      simp [hx _ (List.getElem?_eq_getElem hl)]
    · rfl
  refine ⟨x.x.chg c (n _ (by first | decide | exact tg_e (by decide) | exact tg_o (by decide) | exact tg_eo _ _ | exact tg_oe _ _ | exact tg_ge _ _ (by decide) | exact tg_go _ _ (by decide) | exact tg_ee (by assumption) | exact tg_oo (by assumption) | omega)), x.d.chg c (n _ (by first | decide | exact tg_e (by decide) | exact tg_o (by decide) | exact tg_eo _ _ | exact tg_oe _ _ | exact tg_ge _ _ (by decide) | exact tg_go _ _ (by decide) | exact tg_ee (by assumption) | exact tg_oo (by assumption) | omega)), ?_, x.rd.chg c (n _ (by first | decide | exact tg_e (by decide) | exact tg_o (by decide) | exact tg_eo _ _ | exact tg_oe _ _ | exact tg_ge _ _ (by decide) | exact tg_go _ _ (by decide) | exact tg_ee (by assumption) | exact tg_oo (by assumption) | omega)), x.ow.chg c (n _ (by first | decide | exact tg_e (by decide) | exact tg_o (by decide) | exact tg_eo _ _ | exact tg_oe _ _ | exact tg_ge _ _ (by decide) | exact tg_go _ _ (by decide) | exact tg_ee (by assumption) | exact tg_oo (by assumption) | omega)), x.wr.chg c (n _ (by first | decide | exact tg_e (by decide) | exact tg_o (by decide) | exact tg_eo _ _ | exact tg_oe _ _ | exact tg_ge _ _ (by decide) | exact tg_go _ _ (by decide) | exact tg_ee (by assumption) | exact tg_oo (by assumption) | omega)), x.td.chg c (n _ (by first | decide | exact tg_e (by decide) | exact tg_o (by decide) | exact tg_eo _ _ | exact tg_oe _ _ | exact tg_ge _ _ (by decide) | exact tg_go _ _ (by decide) | exact tg_ee (by assumption) | exact tg_oo (by assumption) | omega)), x.fn.chg c (n _ (by first | decide | exact tg_e (by decide) | exact tg_o (by decide) | exact tg_eo _ _ | exact tg_oe _ _ | exact tg_ge _ _ (by decide) | exact tg_go _ _ (by decide) | exact tg_ee (by assumption) | exact tg_oo (by assumption) | omega)), by simp [x.len], x.lenT, fun j D' s' h1 h2 => ?_, fun j a ms h1 h2 => (x.told j a ms h1 h2).chg c (n _ (by first | decide | exact tg_e (by decide) | exact tg_o (by decide) | exact tg_eo _ _ | exact tg_oe _ _ | exact tg_ge _ _ (by decide) | exact tg_go _ _ (by decide) | exact tg_ee (by assumption) | exact tg_oo (by assumption) | omega))⟩
  · show At o' σ' (b, 1) A.ds (.list ((A.D.set i D).map fun D => .ref D.x))
    rw [e]; exact x.ds.chg c (n _ (by first | decide | exact tg_e (by decide) | exact tg_o (by decide) | exact tg_eo _ _ | exact tg_oe _ _ | exact tg_ge _ _ (by decide) | exact tg_go _ _ (by decide) | exact tg_ee (by assumption) | exact tg_oo (by assumption) | omega))
  · rcases set_get h1 with ⟨rfl, rfl, _⟩ | ⟨q, h1⟩
    · rcases set_get h2 with ⟨_, rfl, _⟩ | ⟨q, _⟩
      · exact S
      · exact absurd rfl q
    · rcases set_get h2 with ⟨z, _⟩ | ⟨_, h2⟩
      · exact absurd z q
      · exact (x.desk j D' s' h1 h2).chg c (n _ (by first | decide | exact tg_e (by decide) | exact tg_o (by decide) | exact tg_eo _ _ | exact tg_oe _ _ | exact tg_ge _ _ (by decide) | exact tg_go _ _ (by decide) | exact tg_ee (by assumption) | exact tg_oo (by assumption) | omega))
/-- a new told list -/
theorem HouseAt.addTold {a : Addr} {ms : List Mark} (x : HouseAt CH CD o σ b A H) (X : At o σ (b, 11 + 2 * H.told.length) a (.list (ms.map Mine.mk))) : HouseAt CH CD o (upd σ A.td (.list ((A.T ++ [a]).map .ref))) b { A with T := A.T ++ [a] } { H with told := H.told ++ [ms] } ∧ Chg (·.1 = b) o σ o (upd σ A.td (.list ((A.T ++ [a]).map .ref))) := by
  have c : Chg (· = (b, 5)) o σ o (upd σ A.td (.list ((A.T ++ [a]).map .ref))) := .put x.td rfl
  have n : ∀ j, j ≠ 5 → ¬ ((b, j) = (b, 5)) := fun j h z => h (by simpa using z)
  refine ⟨⟨x.x.chg c (n _ (by first | decide | exact tg_e (by decide) | exact tg_o (by decide) | exact tg_eo _ _ | exact tg_oe _ _ | exact tg_ge _ _ (by decide) | exact tg_go _ _ (by decide) | exact tg_ee (by assumption) | exact tg_oo (by assumption) | omega)), x.d.chg c (n _ (by first | decide | exact tg_e (by decide) | exact tg_o (by decide) | exact tg_eo _ _ | exact tg_oe _ _ | exact tg_ge _ _ (by decide) | exact tg_go _ _ (by decide) | exact tg_ee (by assumption) | exact tg_oo (by assumption) | omega)), x.ds.chg c (n _ (by first | decide | exact tg_e (by decide) | exact tg_o (by decide) | exact tg_eo _ _ | exact tg_oe _ _ | exact tg_ge _ _ (by decide) | exact tg_go _ _ (by decide) | exact tg_ee (by assumption) | exact tg_oo (by assumption) | omega)), x.rd.chg c (n _ (by first | decide | exact tg_e (by decide) | exact tg_o (by decide) | exact tg_eo _ _ | exact tg_oe _ _ | exact tg_ge _ _ (by decide) | exact tg_go _ _ (by decide) | exact tg_ee (by assumption) | exact tg_oo (by assumption) | omega)), x.ow.chg c (n _ (by first | decide | exact tg_e (by decide) | exact tg_o (by decide) | exact tg_eo _ _ | exact tg_oe _ _ | exact tg_ge _ _ (by decide) | exact tg_go _ _ (by decide) | exact tg_ee (by assumption) | exact tg_oo (by assumption) | omega)), x.wr.chg c (n _ (by first | decide | exact tg_e (by decide) | exact tg_o (by decide) | exact tg_eo _ _ | exact tg_oe _ _ | exact tg_ge _ _ (by decide) | exact tg_go _ _ (by decide) | exact tg_ee (by assumption) | exact tg_oo (by assumption) | omega)), x.td.put, x.fn.chg c (n _ (by first | decide | exact tg_e (by decide) | exact tg_o (by decide) | exact tg_eo _ _ | exact tg_oe _ _ | exact tg_ge _ _ (by decide) | exact tg_go _ _ (by decide) | exact tg_ee (by assumption) | exact tg_oo (by assumption) | omega)), x.len, by simp [x.lenT], fun j D s h1 h2 => (x.desk j D s h1 h2).chg c (n _ (by first | decide | exact tg_e (by decide) | exact tg_o (by decide) | exact tg_eo _ _ | exact tg_oe _ _ | exact tg_ge _ _ (by decide) | exact tg_go _ _ (by decide) | exact tg_ee (by assumption) | exact tg_oo (by assumption) | omega)), fun j a' ms' h1 h2 => ?_⟩, c.mono fun _ z => by rw [z]⟩
  by_cases q : j < H.told.length
  · rw [List.getElem?_append_left (by rw [x.lenT]; exact q)] at h1
    rw [List.getElem?_append_left q] at h2
    exact (x.told j a' ms' h1 h2).chg c (n _ (by first | decide | exact tg_e (by decide) | exact tg_o (by decide) | exact tg_eo _ _ | exact tg_oe _ _ | exact tg_ge _ _ (by decide) | exact tg_go _ _ (by decide) | exact tg_ee (by assumption) | exact tg_oo (by assumption) | omega))
  · have hj : j = H.told.length := by
      have := (List.getElem?_eq_some_iff.mp h2).1
      simp at this; omega
    subst hj
    rw [List.getElem?_append_right (by rw [x.lenT]; omega)] at h1
    rw [List.getElem?_append_right (by first | decide | with_reducible exact lv hn | with_reducible exact lv1 hn | with_reducible exact lv2 hn | with_reducible exact Int.natCast_nonneg _ | omega)] at h2
    simp [x.lenT] at h1 h2
    subst h1; subst h2
    exact X.chg c (n _ (by first | decide | exact tg_e (by decide) | exact tg_o (by decide) | exact tg_eo _ _ | exact tg_oe _ _ | exact tg_ge _ _ (by decide) | exact tg_go _ _ (by decide) | exact tg_ee (by assumption) | exact tg_oo (by assumption) | omega))
end
end Mine
set_option maxRecDepth 100000
set_option linter.unusedSimpArgs false
set_option linter.unusedVariables false
namespace Mine
open PySem PyProof.Rows

/-- what the methods of a house reach -/
structure HF (G : PG) (CH CD : Addr) : Prop where
  cls : Cls G CH houseAs
  dcl : Cls G CD deskAs
  place : ∃ f, Fn1 G "is_place" ["thing", "many"] cis_place f
  less : ∃ f, Fn1 G "less" ["one", "other"] cless f
  great : ∃ f, Fn1 G "greatest" ["marks"] cgreatest f
  prop : ∃ f, Mt G CD "propose" ["self", "letter"] cDesk_propose f
  opn : ∃ f, Mt G CD "open_place" ["self", "letter"] cDesk_open_place f
  sett : ∃ f, Mt G CD "settle" ["self", "letter", "mark"] cDesk_settle f
  least : ∃ f, Mt G CD "least_place" ["self"] cDesk_least_place f
  dhand : ∃ f, Mt G CD "handed" ["self"] cDesk_handed f
  dclock : ∃ f, Mt G CD "clock" ["self"] cDesk_clock f
  needh : ∃ f, Mt G CH "need_hand" ["self", "hand"] cHouse_need_hand f
  needl : ∃ f, Mt G CH "need_letter" ["self", "letter"] cHouse_need_letter f
  toO : ∃ f, Mt G CH "to_others" ["self", "word", "letter", "mark"] cHouse_to_others f
  close : ∃ f, Mt G CH "close" ["self", "letter"] cHouse_close f
  tw : ∃ C, G.mg "Twice" = some (.ref C) ∧ ExcOk G "Twice" C
  no : ∃ C, G.mg "NotOpen" = some (.ref C) ∧ ExcOk G "NotOpen" C
  bm : ∃ C, G.mg "BadMark" = some (.ref C) ∧ ExcOk G "BadMark" C
section
variable {G : PG} {n : Nat} {ρ : Loc} {σ : Sto} {Φ : PE} {Ψ : PY} {f CH CD : Addr} {o : Own} {b : Nat} {A : HA} {H : Hs}
theorem place_is {i m : Int} (F : Fn1 G "is_place" ["thing", "many"] cis_place f) : CallIs G (n + 1) f [.int i, .int m] σ (.bool (decide (0 ≤ i) && decide (i < m))) := fun Φ Ψ h =>
  F.bd rfl fun ρ K X L hr _ _ => by
    refine g_ret (ev_andT (ev_bi (es_cons (ev_nm (L _ _ rfl)) (es_cons (ev_gl d_int) es_nil)) (d_isi rfl rfl)) (ev_andT (ev_notT (ev_bi (es_cons (ev_nm (L _ _ rfl)) (es_cons (ev_gl d_bool) es_nil)) (d_isi rfl rfl))) (ev_and1 (v := .bool (decide (0 ≤ i) && decide (i < m))) ?_))) (hr _ _ _ h)
    by_cases q : 0 ≤ i
    · rw [decide_eq_true q]; exact ev_cmp2T ev_cst (ev_nm (L _ _ rfl)) (ev_nm (L _ _ rfl)) (d_leT q) d_lt
    · rw [decide_eq_false q]; exact ev_cmp2F ev_cst (ev_nm (L _ _ rfl)) (d_leF q)
theorem place_T {i m : Int} (F : Fn1 G "is_place" ["thing", "many"] cis_place f) (h0 : 0 ≤ i) (h1 : i < m) : CallIs G (n + 1) f [.int i, .int m] σ (.bool true) := by
  have := place_is (i := i) (m := m) (n := n) (σ := σ) F
  rw [decide_eq_true h0, decide_eq_true h1] at this; exact this
variable (X : HouseAt CH CD o σ b A H)
include X
/-- a house's attribute -/
theorem HouseAt.attr {k : Str} {v : AV} (Z : HF G CH CD) (ha : k ∈ houseAs) (hl : (houseNs A).lookup k = some v) (hv : v.novalue = true) (l1 : ρ.lookup (Str.ofString "self") = some (.ref A.x)) : Ev G n ρ σ (.attr (.nm "self") k) v := ev_attr (ev_nm l1) (d_attr Z.cls X.x.at_ X.d.at_ ha hl hv)
theorem ev_desk {i : Int} {D : DA} {e : Ex} (Z : HF G CH CD) (h0 : 0 ≤ i) (hz : H.desks.length < 10000) (h : A.D[i.toNat]? = some D) (l1 : ρ.lookup (Str.ofString "self") = some (.ref A.x)) (he : Ev G n ρ σ e (.int i)) : Ev G n ρ σ (.sub (.attr (.nm "self") "desks") e) (.ref D.x) :=
  ev_sub (X.attr Z (by decide) rfl rfl l1) he (d_at X.ds.lst (by rw [List.length_map, X.len]; exact Nat.lt_trans hz (by decide)) h0 (by rw [List.getElem?_map, h]; rfl))
theorem ev_owner {i w : Int} {e : Ex} (Z : HF G CH CD) (h0 : 0 ≤ i) (hz : H.owners.length < 10000) (h : H.owners[i.toNat]? = some w) (l1 : ρ.lookup (Str.ofString "self") = some (.ref A.x)) (he : Ev G n ρ σ e (.int i)) : Ev G n ρ σ (.sub (.attr (.nm "self") "owners") e) (.int w) :=
  ev_sub (X.attr Z (by decide) rfl rfl l1) he (d_at X.ow.lst (by rw [List.length_map]; exact Nat.lt_trans hz (by decide)) h0 (by rw [List.getElem?_map, h]; rfl))
theorem ev_told {i : Int} {a : Addr} {e : Ex} (Z : HF G CH CD) (h0 : 0 ≤ i) (hz : H.told.length < 10000) (h : A.T[i.toNat]? = some a) (l1 : ρ.lookup (Str.ofString "self") = some (.ref A.x)) (he : Ev G n ρ σ e (.int i)) : Ev G n ρ σ (.sub (.attr (.nm "self") "told") e) (.ref a) :=
  ev_sub (X.attr Z (by decide) rfl rfl l1) he (d_at X.td.lst (by rw [List.length_map, X.lenT]; exact Nat.lt_trans hz (by decide)) h0 (by rw [List.getElem?_map, h]; rfl))
theorem ev_hands (Z : HF G CH CD) (hz : H.desks.length < 10000) (l1 : ρ.lookup (Str.ofString "self") = some (.ref A.x)) : Ev G n ρ σ (.bi "len" [(.attr (.nm "self") "desks")]) (.int H.desks.length) := by
  rw [← X.len]
  exact ev_bi (es_cons (X.attr Z (by decide) rfl rfl l1) es_nil) (d_lenM X.ds.lst (by rw [X.len]; exact Nat.lt_trans hz (by decide)))
theorem ev_letters (Z : HF G CH CD) (hz : H.owners.length < 10000) (l1 : ρ.lookup (Str.ofString "self") = some (.ref A.x)) : Ev G n ρ σ (.bi "len" [(.attr (.nm "self") "owners")]) (.int H.owners.length) := ev_bi (es_cons (X.attr Z (by decide) rfl rfl l1) es_nil) (d_lenM X.ow.lst (Nat.lt_trans hz (by decide)))
theorem ev_mails (Z : HF G CH CD) (hz : H.road.length < 100000) (l1 : ρ.lookup (Str.ofString "self") = some (.ref A.x)) : Ev G n ρ σ (.bi "len" [(.attr (.nm "self") "road")]) (.int H.road.length) := ev_bi (es_cons (X.attr Z (by decide) rfl rfl l1) es_nil) (d_lenM X.rd.lst (Nat.lt_trans hz (by decide)))
theorem need_hand_ok {i : Int} (Z : HF G CH CD) (M : Mt G CH "need_hand" ["self", "hand"] cHouse_need_hand f) (hz : H.desks.length < 10000) (h0 : 0 ≤ i) (h1 : i < H.desks.length) (h : Φ .none σ) : WC G (n + 2) (.ref f) [.ref A.x, .int i] σ Φ Ψ :=
  M.bd rfl fun ρ K _ L hr hn _ => Z.place.elim fun fp P => g_if0 (et_notF (et_call (ev_call P (es_cons (ev_nm (L _ _ rfl)) (es_cons (ev_hands X Z hz (L _ _ rfl)) es_nil)) (place_T P h0 h1)))) (g_nil (hn _ _ h))
theorem need_letter_ok {i : Int} (Z : HF G CH CD) (M : Mt G CH "need_letter" ["self", "letter"] cHouse_need_letter f) (hz : H.owners.length < 10000) (h0 : 0 ≤ i) (h1 : i < H.owners.length) (h : Φ .none σ) : WC G (n + 2) (.ref f) [.ref A.x, .int i] σ Φ Ψ :=
  M.bd rfl fun ρ K _ L hr hn _ => Z.place.elim fun fp P => g_if0 (et_notF (et_call (ev_call P (es_cons (ev_nm (L _ _ rfl)) (es_cons (ev_letters X Z hz (L _ _ rfl)) es_nil)) (place_T P h0 h1)))) (g_nil (hn _ _ h))
theorem letters_ok (Z : HF G CH CD) (M : Mt G CH "letters" ["self"] cHouse_letters f) (hz : H.owners.length < 10000) (h : Φ (.int H.owners.length) σ) : WC G (n + 1) (.ref f) [.ref A.x] σ Φ Ψ :=
  M.bd rfl fun ρ K _ L hr hn _ => g_ret (ev_letters X Z hz (L _ _ rfl)) (hr _ _ _ h)
theorem mails_ok (Z : HF G CH CD) (M : Mt G CH "mails" ["self"] cHouse_mails f) (hz : H.road.length < 100000) (h : ∀ a, σ a = none → Ext σ (upd σ a (.list (H.road.map mailAV))) → Φ (.ref a) (upd σ a (.list (H.road.map mailAV)))) : WC G (n + 1) (.ref f) [.ref A.x] σ Φ Ψ :=
  M.bd rfl fun ρ K _ L hr hn _ => g_retL (X.attr Z (by decide) rfl rfl (L _ _ rfl)) X.rd.lst (by rw [List.length_map]; exact Nat.le_of_lt (Nat.lt_trans hz (by decide))) fun a ha x => hr _ _ _ (h a ha x)
theorem mark_of_ok {i : Int} {m : Option Mark} (Z : HF G CH CD) (M : Mt G CH "mark" ["self", "letter"] cHouse_mark f) (hz : H.owners.length < 10000) (h0 : 0 ≤ i) (h1 : i < H.owners.length) (hf : H.finals.length < 10000) (hm : H.finals[i.toNat]? = some m) (h : Φ (finAV m) σ) : WC G (n + 3) (.ref f) [.ref A.x, .int i] σ Φ Ψ :=
  M.bd rfl fun ρ K _ L hr hn _ => Z.needl.elim fun fl N => g_exprM N (ev_nm (L _ _ rfl)) X.x.at_ X.d.at_ rfl (es_cons (ev_nm (L _ _ rfl)) es_nil) (need_letter_ok X Z N hz h0 h1
    (g_ret (ev_sub (X.attr Z (by decide) rfl rfl (L _ _ rfl)) (ev_nm (L _ _ rfl)) (d_at X.fn.lst (by rw [List.length_map]; exact Nat.lt_trans hf (by decide)) h0 (by rw [List.getElem?_map, hm]; rfl))) (hr _ _ _ h)))
theorem house_handed_ok {i : Int} {s : Dk} (Z : HF G CH CD) (M : Mt G CH "handed" ["self", "hand"] cHouse_handed f) (hz : H.desks.length < 10000) (h0 : 0 ≤ i) (hs : H.desks[i.toNat]? = some s) (hg : s.gone.length < 10000) (h : ∀ a, σ a = none → Ext σ (upd σ a (.list (s.gone.map .int))) → Φ (.ref a) (upd σ a (.list (s.gone.map .int)))) : WC G (n + 3) (.ref f) [.ref A.x, .int i] σ Φ Ψ := by
  have hl := (List.getElem?_eq_some_iff.mp hs).1
  have hD : A.D[i.toNat]? = some (A.D[i.toNat]'(by rw [X.len]; exact hl)) := List.getElem?_eq_getElem _
  exact M.bd rfl fun ρ K _ L hr hn _ => Z.needh.elim fun fl N => g_exprM N (ev_nm (L _ _ rfl)) X.x.at_ X.d.at_ rfl (es_cons (ev_nm (L _ _ rfl)) es_nil) (need_hand_ok X Z N hz h0 (by first | decide | with_reducible exact lv hn | with_reducible exact lv1 hn | with_reducible exact lv2 hn | with_reducible exact Int.natCast_nonneg _ | omega)
    (Z.dhand.elim fun fd Dh => g_retM Dh (ev_desk X Z h0 hz hD (L _ _ rfl) (ev_nm (L _ _ rfl))) (X.desk _ _ _ hD hs).x.at_ (X.desk _ _ _ hD hs).d.at_ rfl es_nil (handed_ok Dh Z.dcl (X.desk _ _ _ hD hs) hg fun a ha x => hr _ _ _ (h a ha x))))
omit X
/-- the mails to the others -/
noncomputable def others (n : Nat) (ow : Int) (w : Str) (l : Int) (m : Option Mark) : List Mail := ((List.range n).filter fun (h : Nat) => (h : Int) != ow).map fun (h : Nat) => (w, l, ow, (h : Int), m)
theorem others_succ (i : Nat) (ow : Int) (w : Str) (l : Int) (m : Option Mark) : others (i + 1) ow w l m = others i ow w l m ++ (if (i : Int) = ow then [] else [(w, l, ow, (i : Int), m)]) := by
  unfold others
  rw [List.range_succ, List.filter_append, List.map_append]
  congr 1
  by_cases q : (i : Int) = ow
  · simp [q]
  · simp [q, List.filter_cons]
theorem others_len (n : Nat) (ow : Int) (w : Str) (l : Int) (m : Option Mark) : (others n ow w l m).length ≤ n := by
  unfold others
  rw [List.length_map]
  exact Nat.le_trans (List.length_filter_le _ _) (by simp)
theorem to_others_ok {w : Str} {l : Int} {m : Option Mark} {ow : Int} (hn : 10 ≤ n) (Z : HF G CH CD) (M : Mt G CH "to_others" ["self", "word", "letter", "mark"] cHouse_to_others f) (X : HouseAt CH CD o σ b A H) (h0 : 0 ≤ l) (hw : H.owners[l.toNat]? = some ow) (z1 : H.desks.length < 1000) (z2 : H.owners.length < 10000) (z3 : H.road.length < 100000)
    (k : ∀ σ', Chg (·.1 = b) o σ o σ' → HouseAt CH CD o σ' b A { H with road := H.road ++ others H.desks.length ow w l m } → Φ .none σ') : WC G (n + 1) (.ref f) [.ref A.x, .str w, .int l, finAV m] σ Φ Ψ := by
  refine M.bd rfl fun ρ K _ L hr hn' _ => ?_
  have l1 := L "self" _ rfl
  refine g_asg (ev_owner X Z h0 z2 hw l1 (ev_nm (L "letter" _ rfl))) ?_
  have z1' := Nat.lt_trans z1 (show 1000 < 10000 by decide)
  refine g_forN hn (ev_hands X Z z1' (lk_ne (by decide) l1)) (Nat.lt_trans z1 (by decide)) (fun i ρ₂ σ₂ => Chg (·.1 = b) o σ o σ₂ ∧ HouseAt CH CD o σ₂ b A { H with road := H.road ++ others i ow w l m } ∧ (ρ₂.lookup (Str.ofString "self") = some (.ref A.x) ∧ ρ₂.lookup (Str.ofString "word") = some (.str w) ∧ ρ₂.lookup (Str.ofString "letter") = some (.int l) ∧ ρ₂.lookup (Str.ofString "owner") = some (.int ow) ∧ ρ₂.lookup (Str.ofString "mark") = some (finAV m)))
    ⟨.refl, ?_, lk_ne (by decide) l1, lk_ne (by decide) (L "word" _ rfl), lk_ne (by decide) (L "letter" _ rfl), lk_eq, lk_ne (by decide) (L "mark" _ rfl)⟩ (fun i K₂ ρ₂ σ₂ hi hI k1 _ => ?_) fun ρ₂ σ₂ hI => g_nil (hn' _ _ (k σ₂ hI.1 hI.2.1))
  · show HouseAt CH CD o σ b A { H with road := H.road ++ [] }
    rw [List.append_nil]; exact X
  have X₂ := hI.2.1
  have ll := hI.2.2
  have go : ∀ σ₃, Chg (·.1 = b) o σ o σ₃ → HouseAt CH CD o σ₃ b A { H with road := H.road ++ others (i + 1) ow w l m } → K₂ .next (putA "hand" (.int i) ρ₂) σ₃ := fun σ₃ c₃ X₃ => k1 _ _ ⟨c₃, X₃, lk_ne (by decide) ll.1, lk_ne (by decide) ll.2.1, lk_ne (by decide) ll.2.2.1, lk_ne (by decide) ll.2.2.2.1, lk_ne (by decide) ll.2.2.2.2⟩
  by_cases q : (i : Int) = ow
  · refine g_if0 (et_cmp (ev_nm lk_eq) (ev_nm (lk_ne (by decide) ll.2.2.2.1)) (d_neF q)) (go σ₂ hI.1 ?_)
    rw [others_succ, if_pos q, List.append_nil]; exact X₂
  · have e : mailAV (w, l, ow, (i : Int), m) = .tup [.str w, .int l, .int ow, .int i, finAV m] := by cases m <;> rfl
    refine g_iteT (et_cmp (ev_nm lk_eq) (ev_nm (lk_ne (by decide) ll.2.2.2.1)) (d_neT q)) (g_app (X₂.attr Z (by decide) rfl rfl (lk_ne (by decide) ll.1)) X₂.rd.at_ (ev_tup (es_cons (ev_nm (lk_ne (by decide) ll.2.1)) (es_cons (ev_nm (lk_ne (by decide) ll.2.2.1)) (es_cons (ev_nm (lk_ne (by decide) ll.2.2.2.1)) (es_cons (ev_nm lk_eq) (es_cons (ev_nm (lk_ne (by decide) ll.2.2.2.2)) es_nil))))) (Nat.le_of_ble_eq_true rfl)) ?_ ?_)
    · have hol := others_len i ow w l m
      rw [List.length_map, List.length_append]; unfold sizeLine; omega
    · obtain ⟨X₃, c3⟩ := X₂.road ((H.road ++ others i ow w l m) ++ [(w, l, ow, (i : Int), m)])
      rw [List.map_append (l₂ := [_]), List.map_singleton, e] at X₃ c3
      refine go _ (hI.1.trans c3) ?_
      rw [others_succ, if_neg q, ← List.append_assoc]; exact X₃
end
end Mine
set_option maxRecDepth 100000
set_option linter.unusedSimpArgs false
set_option linter.unusedVariables false
namespace Mine
open PySem PyProof.Rows

noncomputable def big : List Mark → Mark
  | [] => (0, 0)
  | m :: ms => (m :: ms).foldl step1 m
/-- a letter is settled at a desk -/
noncomputable def Settles (s : Dk) (l : Int) (m : Mark) (s' : Dk) : Prop := ∃ i m0 fs rows', OpenAt s.rows l i ∧ s.rows[i]? = some (m0, l, false) ∧ ltM m m0 = false ∧ Del (s.rows.set i (m, l, true)) fs rows' ∧ s' = ⟨s.hand, max s.hours m.1, rows', s.known, s.gone ++ fs⟩
noncomputable def CanSettle (s : Dk) (l : Int) (m : Mark) : Prop := ¬ NoOpen s.rows l ∧ ∀ i m0, OpenAt s.rows l i → s.rows[i]? = some (m0, l, false) → ltM m m0 = false
noncomputable def Hs.toOthers (H : Hs) (w : Str) (l : Int) (ow : Int) (m : Option Mark) : Hs := { H with road := H.road ++ others H.desks.length ow w l m }
/-- a letter whose numbers are all told is closed -/
noncomputable def Closes (H : Hs) (l : Nat) (H' : Hs) : Prop := ∃ ms, H.told[l]? = some ms ∧ ((ms.length < H.desks.length ∧ H' = H) ∨
  (¬ ms.length < H.desks.length ∧ ∃ ow s s', H.owners[l]? = some ow ∧ H.desks[ow.toNat]? = some s ∧ Settles s l (big ms) s' ∧ H' = Hs.toOthers { H with finals := H.finals.set l (some (big ms)), desks := H.desks.set ow.toNat s' } "mark" l ow (some (big ms))))
structure CanClose (H : Hs) (l : Nat) (ow : Int) (ms : List Mark) (s : Dk) : Prop where
  told : H.told[l]? = some ms
  own : H.owners[l]? = some ow
  ow0 : 0 ≤ ow
  desk : H.desks[ow.toNat]? = some s
  fin : l < H.finals.length
  ne : ms ≠ []
  can : ¬ ms.length < H.desks.length → CanSettle s l (big ms)
/-- bounds -/
structure Small (H : Hs) : Prop where
  desks : H.desks.length < 1000
  road : H.road.length < 90000
  owners : H.owners.length < 9000
  told : H.told.length < 9000
  wrote : H.wrote.length < 9000
  finals : H.finals.length < 9000
  desk : ∀ s ∈ H.desks, s.rows.length < 9000 ∧ s.gone.length < 9000 ∧ s.known.length < 9000
  tolds : ∀ ms ∈ H.told, ms.length ≤ H.desks.length
section
variable {G : PG} {n : Nat} {ρ : Loc} {σ : Sto} {Φ : PE} {Ψ : PY} {f CH CD : Addr} {o : Own} {b : Nat} {A : HA} {H : Hs}
theorem big_is {fg r : Addr} {ms : List Mark} (F : Fn1 G "greatest" ["marks"] cgreatest f) (L : Fn1 G "less" ["one", "other"] cless fg) (hr : lstOf σ r = some (ms.map mk)) (hne : ms ≠ []) : CallIs G (n + 2) f [.ref r] σ (mk (big ms)) := by
  cases ms with
  | nil => exact absurd rfl hne
  | cons m ms => exact greatest_is F L hr
/-- a desk of the house settles -/
theorem desk_settle {i : Nat} {l : Int} {m : Mark} {D : DA} {s : Dk} (hn : 12 ≤ n) (Z : HF G CH CD) (X : HouseAt CH CD o σ b A H) (B : Small H) (hD : A.D[i]? = some D) (hs : H.desks[i]? = some s) (hc : CanSettle s l m)
    (k : ∀ v A' s' o' σ', Settles s l m s' → A'.x = A.x → Chg (·.1 = b) o σ o' σ' → HouseAt CH CD o' σ' b A' { H with desks := H.desks.set i s' } → Φ v σ') : ∃ fs, Mt G CD "settle" ["self", "letter", "mark"] cDesk_settle fs ∧ WC G (n + 1) (.ref fs) [.ref D.x, .int l, mk m] σ Φ Ψ := by
  obtain ⟨fs, St⟩ := Z.sett
  obtain ⟨fl, Le⟩ := Z.least
  obtain ⟨fo, Op⟩ := Z.opn
  obtain ⟨fg, Ls⟩ := Z.less
  obtain ⟨No, no, xn⟩ := Z.no
  obtain ⟨Bm, bm, xb⟩ := Z.bm
  have S := X.desk i D s hD hs
  obtain ⟨b1, b2, b3⟩ := B.desk s (List.mem_of_getElem? hs)
  refine ⟨fs, St, settle_ok hn St Le Op Ls Z.dcl no xn bm xb (b, 7) S (by first | decide | with_reducible exact lv hn | with_reducible exact lv1 hn | with_reducible exact lv2 hn | with_reducible exact Int.natCast_nonneg _ | omega) (by first | decide | with_reducible exact lv hn | with_reducible exact lv1 hn | with_reducible exact lv2 hn | with_reducible exact Int.natCast_nonneg _ | omega) (by simp; (first | with_reducible assumption | with_reducible exact Nat.lt_of_lt_of_le (by assumption) (by decide) | omega)) (fun j m0 f rows' a g' o' σ' h1 h2 h3 h4 c S' _ _ => ?_) (fun z => absurd z hc.1) fun j m0 h1 h2 h3 => ?_⟩
  · refine k _ { A with D := A.D.set i (D.setG g') } _ o' σ' ⟨j, m0, f, rows', h1, h2, h3, h4, rfl⟩ rfl (c.mono fun _ z => by rw [z]) (X.setDesk c ((List.getElem?_eq_some_iff.mp hs).1) (fun D' e => ?_) S')
    rw [hD] at e; cases e; rfl
  · rw [hc.2 j m0 h1 h2] at h3; cases h3
theorem close_ok {l : Nat} {ow : Int} {ms : List Mark} {s : Dk} (hn : 13 ≤ n) (Z : HF G CH CD) (M : Mt G CH "close" ["self", "letter"] cHouse_close f) (X : HouseAt CH CD o σ b A H) (B : Small H) (C : CanClose H l ow ms s)
    (k : ∀ A' H' o' σ', Closes H l H' → A'.x = A.x → Chg (·.1 = b) o σ o' σ' → HouseAt CH CD o' σ' b A' H' → Φ .none σ') : WC G (n + 1) (.ref f) [.ref A.x, .int l] σ Φ Ψ := by
  obtain ⟨n, rfl⟩ : ∃ j, n = j + 2 := by first | with_reducible exact Nat.exists_eq_add_of_le' (Nat.le_trans (by decide) hn) | exact ⟨n - 2, (by first | decide | with_reducible exact lv hn | with_reducible exact lv1 hn | with_reducible exact lv2 hn | with_reducible exact Int.natCast_nonneg _ | with_reducible assumption | omega)⟩
  refine M.bd rfl fun ρ K X' L hr hn' hx => ?_
  have l1 := L "self" _ rfl
  have l2 := L "letter" _ rfl
  obtain ⟨fg, Ls⟩ := Z.less
  obtain ⟨fG, Gr⟩ := Z.great
  obtain ⟨fT, To⟩ := Z.toO
  have hT : A.T[l]? = some (A.T[l]'(by rw [X.lenT]; exact (List.getElem?_eq_some_iff.mp C.told).1)) := List.getElem?_eq_getElem _
  have TT := X.told l _ ms hT C.told
  have hD : A.D[ow.toNat]? = some (A.D[ow.toNat]'(by rw [X.len]; exact (List.getElem?_eq_some_iff.mp C.desk).1)) := List.getElem?_eq_getElem _
  have b1 := Nat.lt_trans B.desks (show 1000 < 10000 by decide)
  have b3 := Nat.lt_trans B.owners (show 9000 < 10000 by decide)
  have td : ∀ {ρ : Loc}, ρ.lookup (Str.ofString "self") = some (.ref A.x) → ρ.lookup (Str.ofString "letter") = some (.int l) → Ev G (n + 2) ρ σ (.sub (.attr (.nm "self") "told") (.nm "letter")) _ := fun l1 l2 => ev_told X Z (Int.natCast_nonneg _) (Nat.lt_trans B.told (by decide)) (by rw [Int.toNat_natCast]; exact hT) l1 (ev_nm l2)
  have ct := ev_bi (es_cons (td l1 l2) es_nil) (d_lenM (G := G) (n := n + 2) TT.lst (Nat.lt_of_le_of_lt (B.tolds ms (List.mem_of_getElem? C.told)) (Nat.lt_trans b1 (by decide))))
  by_cases q : ms.length < H.desks.length
  · exact g_iteT (et_cmp ct (ev_hands X Z b1 l1) (d_ltT (Int.ofNat_lt.mpr q))) (g_ret0 (hr _ _ _ (k A H o σ ⟨ms, C.told, .inl ⟨q, rfl⟩⟩ rfl .refl X)))
  · refine g_if0 (et_cmp ct (ev_hands X Z b1 l1) (d_ltF fun z => q (Int.ofNat_lt.mp z))) (g_asg (ev_call Gr (es_cons (td l1 l2) es_nil) (big_is Gr Ls TT.lst C.ne)) ?_)
    have l1 := lk_ne (x := Str.ofString "mark") (a := mk (big ms)) (by decide) l1
    have l2 := lk_ne (x := Str.ofString "mark") (a := mk (big ms)) (by decide) l2
    have l3 := lk_eq (x := Str.ofString "mark") (a := mk (big ms)) (ρ := ρ)
    generalize putA (Str.ofString "mark") (mk (big ms)) ρ = ρ₁ at l1 l2 l3
    refine g_sitem (ev_nm l3) (X.attr Z (by decide) rfl rfl l1) (ev_nm l2) (si_nat X.fn.at_ (by rw [List.length_map]; exact C.fin) (by rw [List.length_map]; exact Nat.lt_trans B.finals (by decide)) ?_)
    have ef : (H.finals.map finAV).set l (mk (big ms)) = (H.finals.set l (some (big ms))).map finAV := by rw [List.map_set]; rfl
    rw [ef]
    obtain ⟨X₁, c1⟩ := X.finals (H.finals.set l (some (big ms)))
    generalize upd σ A.fn (.list ((H.finals.set l (some (big ms))).map finAV)) = σ₁ at X₁ c1
    have B₁ : Small { H with finals := H.finals.set l (some (big ms)) } := ⟨B.desks, B.road, B.owners, B.told, B.wrote, by simp only [List.length_set]; exact B.finals, B.desk, B.tolds⟩
    obtain ⟨fs, St, wc⟩ := desk_settle (n := n + 1) (l := l) (m := big ms) (Φ := fun _ σ₂ => tss G (n + 2) [.expr (.meth (.nm "self") "to_others" [(.cst (.str "mark")), (.nm "letter"), (.nm "mark")])] ρ₁ σ₂ K X') (Ψ := fun c σ₂ => X' c ρ₁ σ₂) (Nat.le_of_succ_le_succ hn) Z X₁ B₁ hD C.desk (C.can q) fun v A₂ s' o₂ σ₂ hS hx c2 X₂ => by
      rw [← hx] at l1
      refine g_exprM To (ev_nm l1) X₂.x.at_ X₂.d.at_ rfl (es_cons ev_cst (es_cons (ev_nm l2) (es_cons (ev_nm l3) es_nil))) (to_others_ok (m := some (big ms)) (ow := ow) (lv1 hn) Z To X₂ (Int.natCast_nonneg _) (by rw [Int.toNat_natCast]; exact C.own) (by simp only [List.length_set]; exact B.desks) b3 (Nat.lt_trans B.road (by decide)) fun σ₃ c3 X₃ => g_nil (hn' _ _ (k A₂ _ o₂ σ₃ ⟨ms, C.told, .inr ⟨q, ow, s, s', C.own, C.desk, hS, rfl⟩⟩ hx ((c1.trans c2).trans c3) X₃)))
    have S := X₁.desk _ _ _ hD C.desk
    exact g_exprM St (ev_desk X₁ Z C.ow0 b1 hD l1 (ev_owner X₁ Z (Int.natCast_nonneg _) b3 (by rw [Int.toNat_natCast]; exact C.own) l1 (ev_nm l2))) S.x.at_ S.d.at_ rfl (es_cons (ev_nm l2) (es_cons (ev_nm l3) es_nil)) wc
/-- a letter is sent -/
noncomputable def Hs.sent (H : Hs) (i : Nat) (s : Dk) (text : Str) : Hs :=
  Hs.toOthers { desks := H.desks.set i (s.propose H.owners.length), road := H.road, owners := H.owners ++ [(i : Int)], wrote := H.wrote ++ [text], told := H.told ++ [[(s.hours + 1, s.hand)]], finals := H.finals ++ [none] } "letter" H.owners.length i none
theorem send_ok {i : Nat} {s s₁ : Dk} {text : Str} {ow : Int} {ms : List Mark} (hn : 15 ≤ n) (Z : HF G CH CD) (M : Mt G CH "send" ["self", "hand", "text"] cHouse_send f) (X : HouseAt CH CD o σ b A H) (B : Small H) (hs : H.desks[i]? = some s) (hk : (H.owners.length : Int) ∉ s.known)
    (e1 : H.told.length = H.owners.length) (B' : Small (H.sent i s text)) (C : CanClose (H.sent i s text) H.owners.length ow ms s₁)
    (k : ∀ A' H' o' σ', Closes (H.sent i s text) H.owners.length H' → A'.x = A.x → Chg (·.1 = b) o σ o' σ' → HouseAt CH CD o' σ' b A' H' → Φ (.int H.owners.length) σ') : WC G (n + 1) (.ref f) [.ref A.x, .int i, .str text] σ Φ Ψ := by
  obtain ⟨n, rfl⟩ : ∃ j, n = j + 2 := by first | with_reducible exact Nat.exists_eq_add_of_le' (Nat.le_trans (by decide) hn) | exact ⟨n - 2, (by first | decide | with_reducible exact lv hn | with_reducible exact lv1 hn | with_reducible exact lv2 hn | with_reducible exact Int.natCast_nonneg _ | with_reducible assumption | omega)⟩
  refine M.bd rfl fun ρ K X' L hr hn' hx => ?_
  have l1 := L "self" _ rfl
  have l2 := L "hand" _ rfl
  have l3 := L "text" _ rfl
  obtain ⟨fN, Nh⟩ := Z.needh
  obtain ⟨fT, To⟩ := Z.toO
  obtain ⟨fC, Cl⟩ := Z.close
  obtain ⟨fP, Pr⟩ := Z.prop
  obtain ⟨Tw, tw, xt⟩ := Z.tw
  have d := B.desk s (List.mem_of_getElem? hs)
  have b1 := Nat.lt_trans B.desks (show 1000 < 10000 by decide)
  have b3 := Nat.lt_trans B.owners (show 9000 < 10000 by decide)
  have hl := (List.getElem?_eq_some_iff.mp hs).1
  have hlD : i < A.D.length := by rw [X.len]; exact hl
  have hD : A.D[i]? = some A.D[i] := List.getElem?_eq_getElem hlD
  refine g_exprM Nh (ev_nm l1) X.x.at_ X.d.at_ rfl (es_cons (ev_nm l2) es_nil) (need_hand_ok (n := n) X Z Nh b1 (Int.natCast_nonneg _) (Int.ofNat_lt.mpr hl) ?_)
  refine g_asg (ev_letters X Z b3 l1) ?_
  have l1 := lk_ne (x := Str.ofString "letter") (a := .int H.owners.length) (by decide) l1
  have l2 := lk_ne (x := Str.ofString "letter") (a := .int H.owners.length) (by decide) l2
  have l3 := lk_ne (x := Str.ofString "letter") (a := .int H.owners.length) (by decide) l3
  have l4 := lk_eq (x := Str.ofString "letter") (a := .int H.owners.length) (ρ := ρ)
  generalize putA (Str.ofString "letter") (.int H.owners.length) ρ = ρ₁ at l1 l2 l3 l4
  clear L
  refine g_app (X.attr Z (by decide) rfl rfl l1) X.ow.at_ (ev_nm l2) (by rw [List.length_map]; exact Nat.lt_trans B.owners (by decide)) ?_
  obtain ⟨X₁, c1⟩ := X.owners (H.owners ++ [(i : Int)])
  rw [List.map_append (l₂ := [_]), List.map_singleton] at X₁ c1
  generalize upd σ A.ow (.list (H.owners.map AV.int ++ [.int (i : Int)])) = σ₁ at X₁ c1
  refine g_app (X₁.attr Z (by decide) rfl rfl l1) X₁.wr.at_ (ev_nm l3) (by rw [List.length_map]; exact Nat.lt_trans B.wrote (by decide)) ?_
  obtain ⟨X₂, c2⟩ := X₁.wrote (H.wrote ++ [text])
  rw [List.map_append (l₂ := [_]), List.map_singleton] at X₂ c2
  have c₂ := c1.trans c2
  clear c1 c2
  generalize upd σ₁ A.wr (.list (H.wrote.map AV.str ++ [.str text])) = σ₂ at X₂ c₂
  have S := X₂.desk i _ s hD hs
  refine g_appL (X₂.attr Z (by decide) rfl rfl l1) X₂.td.at_ fun P hP => ev_meth Pr (ev_desk X₂ Z (Int.natCast_nonneg _) b1 (by rw [Int.toNat_natCast]; exact hD) l1 (ev_nm l2)) S.x.at_ S.d.at_ rfl (es_cons (ev_nm l4) es_nil) (propose_ok (n := n + 1) (lv1 hn) Pr Z.dcl tw xt S (Nat.lt_trans d.1 (by decide)) (Nat.lt_trans d.2.2 (by decide)) (fun _ σ₃ c3 S₃ => hP _ _ fun a ha => ?_) fun z => absurd z hk)
  have X₃ := X₂.setDesk c3 hl (D := A.D[i]) (fun D' e => by rw [hD] at e; cases e; rfl) S₃
  have c₃ := c₂.trans (c3.mono fun _ z => by rw [z])
  rw [List.set_getElem_self hlD] at X₃
  have c4 : Chg (fun _ => False) o σ₃ (setO o a (b, 11 + 2 * H.told.length)) (upd σ₃ a (.list [mk (s.hours + 1, s.hand)])) := .new ha
  have A₄ : At (setO o a (b, 11 + 2 * H.told.length)) (upd σ₃ a (.list [mk (s.hours + 1, s.hand)])) (b, 11 + 2 * H.told.length) a (.list [mk (s.hours + 1, s.hand)]) := .new
  have X₄ := X₃.chg c4 fun _ => id
  have c₄ := c₃.trans (c4.mono fun _ z => z.elim)
  clear c4 c3 c₃ c₂ X₃ S₃ X₂ S X₁
  generalize upd σ₃ a (.list [mk (s.hours + 1, s.hand)]) = σ₄ at X₄ c₄ A₄
  generalize setO o a (b, 11 + 2 * H.told.length) = o₄ at X₄ c₄ A₄
  refine ⟨_, X₄.td.at_, by rw [List.length_map, X.lenT]; exact Nat.lt_trans B.told (by decide), ?_⟩
  obtain ⟨X₅, c5⟩ := X₄.addTold (ms := [(s.hours + 1, s.hand)]) A₄
  rw [List.map_append (l₂ := [_]), List.map_singleton] at X₅ c5
  have c₅ := c₄.trans c5
  clear c5 c₄
  generalize upd σ₄ A.td (.list (A.T.map AV.ref ++ [.ref a])) = σ₅ at X₅ c₅
  obtain ⟨A₅, hx5, X₅⟩ : ∃ A₅ : HA, A₅.x = A.x ∧ HouseAt CH CD o₄ σ₅ b A₅ { desks := H.desks.set i (s.propose H.owners.length), road := H.road, owners := H.owners ++ [(i : Int)], wrote := H.wrote ++ [text], told := H.told ++ [[(s.hours + 1, s.hand)]], finals := H.finals } := ⟨{ A with T := A.T ++ [a] }, rfl, X₅⟩
  rw [← hx5] at l1
  refine g_app (X₅.attr Z (by decide) rfl rfl l1) X₅.fn.at_ ev_cst (by rw [List.length_map]; exact Nat.lt_trans B.finals (by decide)) ?_
  obtain ⟨X₆, c6⟩ := X₅.finals (H.finals ++ [none])
  rw [List.map_append (l₂ := [_]), List.map_singleton] at X₆ c6
  have c₆ := c₅.trans c6
  clear c6 c₅
  have X₆' : HouseAt CH CD o₄ (upd σ₅ A₅.fn (.list (H.finals.map finAV ++ [.none]))) b A₅ { desks := H.desks.set i (s.propose H.owners.length), road := H.road, owners := H.owners ++ [(i : Int)], wrote := H.wrote ++ [text], told := H.told ++ [[(s.hours + 1, s.hand)]], finals := H.finals ++ [none] } := X₆
  have c₆' : Chg (·.1 = b) o σ o₄ (upd σ₅ A₅.fn (.list (H.finals.map finAV ++ [.none]))) := c₆
  clear X₆ c₆
  generalize upd σ₅ A₅.fn (.list (H.finals.map finAV ++ [.none])) = σ₆ at X₆' c₆'
  refine g_exprM To (ev_nm l1) X₆'.x.at_ X₆'.d.at_ rfl (es_cons ev_cst (es_cons (ev_nm l4) (es_cons ev_cst es_nil))) (to_others_ok (n := n + 1) (m := none) (ow := (i : Int)) (lv1 hn) Z To X₆' (Int.natCast_nonneg _) (by rw [Int.toNat_natCast]; exact List.getElem?_concat_length) (by simp only [List.length_set]; exact B.desks) (by simp only [List.length_append, List.length_singleton]; exact Nat.succ_lt_succ (Nat.lt_trans B.owners (by decide))) (Nat.lt_trans B.road (by decide)) fun σ₇ c7 X₇ => ?_)
  refine g_exprM Cl (ev_nm l1) X₇.x.at_ X₇.d.at_ rfl (es_cons (ev_nm l4) es_nil) (close_ok (H := H.sent i s text) (n := n + 1) (Nat.le_of_succ_le_succ (Nat.le_trans (by decide) hn)) Z Cl X₇ B' C fun A' H' o' σ' hC hx c8 X₈ => g_ret (ev_nm l4) (hr _ _ _ (k A' H' o' σ' hC (hx.trans hx5) ((c₆'.trans c7).trans c8) X₈)))
end
end Mine
set_option maxRecDepth 100000
set_option linter.unusedSimpArgs false
set_option linter.unusedVariables false
namespace Mine
open PySem PyProof.Rows

noncomputable def emptyHouse (n : Nat) : Hs := ⟨(List.range n).map fun (i : Nat) => ⟨(i : Int), 0, [], [], []⟩, [], [], [], [], []⟩
theorem empty_desk {n i : Nat} {s : Dk} (h : (emptyHouse n).desks[i]? = some s) : i < n ∧ s = ⟨(i : Int), 0, [], [], []⟩ := by
  have hi : i < n := by
    have := (List.getElem?_eq_some_iff.mp h).1
    simpa [emptyHouse] using this
  simp [emptyHouse, List.getElem?_range hi] at h
  exact ⟨hi, h.symm⟩
theorem empty_len (n : Nat) : (emptyHouse n).desks.length = n := by simp [emptyHouse]
section
variable {G : PG} {n : Nat} {ρ : Loc} {σ : Sto} {Φ : PE} {Ψ : PY} {f CH CD : Addr} {o : Own} {b : Nat} {A : HA} {H : Hs} {ΦP : Bool → Prop}
/-- a new house -/
theorem house_new {many : Nat} {f : Addr} {t : Tok} (hn : 12 ≤ n) (M : Mk G "House" CH ["self", "many"] cHouse___init__) (MD : Mk G "Desk" CD ["self", "hand"] cDesk___init__) (Z : HF G CH CD) (most : G.mg "MOST_HANDS" = some (.int 40 t)) (h1 : 1 ≤ many) (h40 : many ≤ 40)
    (k : ∀ A o' σ', Chg (·.1 = b) o σ o' σ' → HouseAt CH CD o' σ' b A (emptyHouse many) → Φ (.ref A.x) σ') : WC G (n + 2) (.ref CH) [.int many] σ Φ Ψ := by
  obtain ⟨n, rfl⟩ : ∃ j, n = j + 2 := by first | with_reducible exact Nat.exists_eq_add_of_le' (Nat.le_trans (by decide) hn) | exact ⟨n - 2, (by first | decide | with_reducible exact lv hn | with_reducible exact lv1 hn | with_reducible exact lv2 hn | with_reducible exact Int.natCast_nonneg _ | with_reducible assumption | omega)⟩
  obtain ⟨fp, P⟩ := Z.place
  refine M.bd (o := o) (b, 0) rfl fun x d ρ o₀ σ₀ K X' L c0 X0 D0 hd k' => ?_
  have l1 := L "self" _ rfl
  have l2 := L "many" _ rfl
  refine g_if0 (et_or (eo_F (et_notF (et_call (ev_call P (es_cons (ev_nm l2) (es_cons (ev_bin (ev_gl (v := .int 40) fun Φ p => by rw [glob_val most]; exact p) ev_cst d_add) es_nil)) (place_T P (Int.natCast_nonneg _) (by first | decide | with_reducible exact lv hn | with_reducible exact lv1 hn | with_reducible exact lv2 hn | with_reducible exact Int.natCast_nonneg _ | omega))))) (eo_F (et_cmp (ev_nm l2) ev_cst (d_eqF (by first | decide | with_reducible exact lv hn | with_reducible exact lv1 hn | with_reducible exact lv2 hn | with_reducible exact Int.natCast_nonneg _ | omega))) eo_nil))) ?_
  rw [bl_sattr, tv_compR]
  refine es_cons (ev_nm l2) es_nil _ _ ⟨lv hn, (by first | decide | with_reducible exact lv hn | with_reducible exact lv1 hn | with_reducible exact lv2 hn | with_reducible exact Int.natCast_nonneg _ | omega), (by first | decide | with_reducible exact lv hn | with_reducible exact lv1 hn | with_reducible exact lv2 hn | with_reducible exact Int.natCast_nonneg _ | with_reducible assumption | omega), ?_⟩
  rw [range0]
  refine CompOk.ix (vs := (List.range many).map fun (i : Nat) => AV.int i) (by rw [List.length_map, List.length_range]; exact Nat.lt_of_le_of_lt h40 (by decide)) (fun i acc σ₂ => ∃ o₂ Ds, Ds.length = i ∧ acc = Ds.map (fun D : DA => AV.ref D.x) ∧ Chg (fun _ => False) o₀ σ₀ o₂ σ₂ ∧ ∀ (j : Nat) D, Ds[j]? = some D → DeskAt CD o₂ σ₂ (b, 10 + 2 * j) D ⟨(j : Int), 0, [], [], []⟩)
    ⟨o₀, [], rfl, rfl, .refl, fun j D h => by cases h⟩ ?_ ?_ ?_
  · rintro i acc σ₂ ⟨o₂, Ds, h1, rfl, _⟩
    rw [List.length_map, h1]; exact Nat.le_refl _
  · rintro i v J J' acc σ₂ hi hv ⟨o₂, Ds, hl, rfl, c₂, hD⟩ kJ _
    rw [List.length_map, List.length_range] at hi
    rw [List.getElem?_map, List.getElem?_range hi] at hv
    cases hv
    refine ea_nil _ _ (mk_call MD (es_cons (ev_nm lk_eq) es_nil _ _ (desk_new (n := n) (o := o₂) (t := (b, 10 + 2 * i)) MD Z.dcl fun D o₃ σ₃ c3 S₃ => kJ _ _ ⟨o₃, Ds ++ [D], by rw [List.length_append, hl]; rfl, by rw [List.map_append]; rfl, c₂.trans c3, fun j D' hj => ?_⟩)))
    rcases app_get hj with ⟨_, hj⟩ | ⟨e, rfl⟩
    · exact (hD j D' hj).chg c3 id
    · rw [hl] at e; subst e; exact S₃
  · rintro acc σ₂ ⟨o₂, Ds, hl, rfl, c₂, hD⟩ a ha
    rw [List.length_map, List.length_range] at hl
    have c3 : Chg (fun _ => False) o₂ σ₂ (setO o₂ a (b, 1)) (upd σ₂ a (.list (Ds.map fun D => AV.ref D.x))) := .new ha
    have A3 : At (setO o₂ a (b, 1)) (upd σ₂ a (.list (Ds.map fun D => AV.ref D.x))) (b, 1) a (.list (Ds.map fun D => AV.ref D.x)) := .new
    have c₃ := c₂.trans c3
    have hD3 := fun (j : Nat) D (h : Ds[j]? = some D) => (hD j D h).chg c3 id
    clear c3 hD
    generalize upd σ₂ a (.list (Ds.map fun D => AV.ref D.x)) = σ₃ at A3 c₃ hD3
    generalize setO o₂ a (b, 1) = o₃ at A3 c₃ hD3
    have ne : ∀ j, ¬ ((b, j + 1) = ((b, 0) : Tag)) := fun j z => Nat.noConfusion (Prod.mk.inj z).2
    refine ev_nm l1 _ _ (set_at Z.cls (X0.chg c₃ id) (D0.chg c₃ id) (by decide) (Nat.le_of_ble_eq_true rfl) fun σ₄ e4 c4 d4 D4 => ?_)
    refine set_new (t' := (b, 2)) Z.cls (e4 _ _ _ (X0.chg c₃ id) (X0.ne_kind D0 (by simp))) D4 l1 (by decide) (Nat.le_of_ble_eq_true rfl) fun r2 o₅ σ₅ X5 D5 R5 c5 f5 => ?_
    refine set_new (t' := (b, 3)) Z.cls X5 D5 l1 (by decide) (Nat.le_of_ble_eq_true rfl) fun r3 o₆ σ₆ X6 D6 R6 c6 f6 => ?_
    refine set_new (t' := (b, 4)) Z.cls X6 D6 l1 (by decide) (Nat.le_of_ble_eq_true rfl) fun r4 o₇ σ₇ X7 D7 R7 c7 f7 => ?_
    refine set_new (t' := (b, 5)) Z.cls X7 D7 l1 (by decide) (Nat.le_of_ble_eq_true rfl) fun r5 o₈ σ₈ X8 D8 R8 c8 f8 => ?_
    refine set_new (t' := (b, 6)) Z.cls X8 D8 l1 (by decide) (Nat.le_of_ble_eq_true rfl) fun r6 o₉ σ₉ X9 D9 R9 c9 f9 => ?_
    have q8 := c8.trans c9
    have q7 := c7.trans q8
    have q6 := c6.trans q7
    have q5 := ((d4 (· = (b, 0)) rfl).trans c5).trans q6
    exact g_nil (k' _ _ (k ⟨x, d, a, r2, r3, r4, r5, r6, Ds, []⟩ o₉ σ₉ ((f9 _ _ _ (f8 _ _ _ (f7 _ _ _ (f6 _ _ _ (f5 _ _ _ (c4 _ _ _ (c0.trans c₃) hd) hd) hd) hd) hd) hd).mono fun _ z => z.elim) ⟨X9, D9, A3.chg q5 (ne 0), R5.chg q6 (ne 1), R6.chg q7 (ne 2), R7.chg q8 (ne 3), R8.chg c9 (ne 4), R9, by rw [hl]; exact (empty_len many).symm, rfl, fun i D s e1 e2 => (empty_desk e2).2 ▸ (hD3 i D e1).chg q5 (fun z => by simp at z), fun i a ms e1 => by cases e1⟩))
end
end Mine
set_option maxRecDepth 100000
set_option linter.unusedSimpArgs false
set_option linter.unusedVariables false
namespace Mine
open PySem PyProof.Rows

/-! ### rules for the laws of a house -/
section
variable {G : PG} {n : Nat} {ρ : Loc} {σ : Sto} {Φ : PE} {Ψ : PY} {ΦB : Bool → Sto → Prop} {CH CD x l f : Addr} {o : Own} {b many : Nat} {H : Hs} {a e c : Ex} {as es : List Ex} {op : Operator} {u v : AV} {us vs : List AV} {t : Tag} {ns : List Int}
theorem x_bin (ha : Ev G n ρ σ a u) (p : (tr G n e).v ρ σ (fun w σ₂ => binV op u w σ₂ Φ) Ψ) : (tr G n (.bin op a e)).v ρ σ Φ Ψ := ha _ _ p
theorem x_subL (p : (tr G n a).v ρ σ (fun u σ₁ => (tr G n e).v ρ σ₁ (fun k σ₂ => subV u k σ₂ Φ) Ψ) Ψ) : (tr G n (.sub a e)).v ρ σ Φ Ψ := p
/-- a display of what is known -/
theorem x_list (t : Tag) (hs : Es G n ρ σ es us) (hz : us.length < 1000000) (p : ∀ a o' σ', Chg (fun _ => False) o σ o' σ' → At o' σ' t a (.list us) → Φ (.ref a) σ') : (tr G n (.list es)).v ρ σ Φ Ψ := by
  rw [tv_list]
  exact hs _ _ (new_own t (Nat.le_of_lt (Nat.lt_trans hz (by decide))) p)
theorem d_fmod {i j : Int} (h : j ≠ 0) : BinIs σ .Mod (.int i) (.int j) (.int (Int.fmod i j)) := fun _ p => ⟨h, p⟩
theorem d_fdiv {i j : Int} (h : j ≠ 0) (h' : j.natAbs < 2 ^ 200) : BinIs σ .FloorDiv (.int i) (.int j) (.int (Int.fdiv i j)) := fun _ p => ⟨h, h', p⟩
theorem lst_r {a : Addr} {vs : List AV} (x : At o σ t a (.rlist vs)) : lstOf σ a = some vs := by unfold lstOf; rw [x.at_]
theorem d_ints {i : Nat} (B : At o σ t l (.rlist (ns.map .int))) (hz : ns.length ≤ 63) (h : i < ns.length) : SubIs σ (.ref l) (.int i) (.int ns[i]) := d_get (lst_r B) (by rw [List.length_map]; exact Nat.lt_of_le_of_lt hz (by decide)) (by rw [List.getElem?_map, List.getElem?_eq_getElem h]; rfl)
/-- the script's cell -/
theorem ev_cell (C : Fn1 G "_law_cell_at" ["_law_script", "_law_k"] c_law_cell_at f) (B : At o σ t l (.rlist (ns.map .int))) (hz : ns.length ≤ 63) (l1 : ρ.lookup (Str.ofString "_law_script") = some (.ref l)) : ∃ v : Int, Ev G (n + 1) ρ σ (.call "_law_cell_at" [(.nm "_law_script"), (.cst (.int (0)))]) (.int v) := by
  have h : ∃ v : Int, CallIs G (n + 1) f [.ref l, .int 0] σ (.int v) := by
    cases hn : ns with
    | nil => exact ⟨0, fun Φ Ψ p => C.bd rfl fun ρ K X L hr _ _ => g_if0 (et_cmp (ev_nm (L _ _ rfl)) (ev_bi (es_cons (ev_nm (L _ _ rfl)) es_nil) (d_lenM (lst_r B) (by rw [hn]; decide))) (d_ltF (by rw [hn]; decide))) (g_ret ev_cst (hr _ _ _ p))⟩
    | cons v r =>
      have h0 : 0 < ns.length := by rw [hn]; exact Nat.succ_pos _
      exact ⟨_, fun Φ Ψ p => C.bd rfl fun ρ K X L hr _ _ => g_ifR (et_cmp (ev_nm (L _ _ rfl)) (ev_bi (es_cons (ev_nm (L _ _ rfl)) es_nil) (d_lenM (lst_r B) (Nat.lt_of_le_of_lt hz (by decide)))) (d_ltT (Int.ofNat_lt.mpr h0))) (ev_sub (ev_nm (L _ _ rfl)) (ev_nm (L _ _ rfl)) (d_ints B hz h0)) (hr _ _ _ p)⟩
  exact h.elim fun v h => ⟨v, ev_call C (es_cons (ev_nm l1) (es_cons ev_cst es_nil)) h⟩
/-- one of a display's whole numbers -/
theorem x_pick {P : Int → Prop} {is : List Int} (t : Tag) (hs : Es G n ρ σ es (is.map .int)) (hz : is.length ≤ 1000) (he : ∀ o' σ', Chg (fun _ => False) o σ o' σ' → ∃ i : Int, 0 ≤ i ∧ i < is.length ∧ Ev G n ρ σ' e (.int i)) (hP : ∀ i ∈ is, P i) (p : ∀ N o' σ', Chg (fun _ => False) o σ o' σ' → P N → Φ (.int N) σ') : (tr G n (.sub (.list es) e)).v ρ σ Φ Ψ := by
  refine x_subL (x_list (o := o) t hs (by rw [List.length_map]; exact Nat.lt_of_le_of_lt hz (by decide)) fun a o' σ' c A => ?_)
  obtain ⟨i, h0, h1, he⟩ := he o' σ' c
  refine he _ _ (sb_any (P := fun v => ∃ N, v = .int N ∧ P N) A.lst h0 (by rw [List.length_map]; exact h1) (by rw [List.length_map]; exact hz) (fun v hv => ?_) fun v hv => ?_)
  · obtain ⟨N, hN, rfl⟩ := List.mem_map.mp hv
    exact ⟨N, rfl, hP N hN⟩
  · obtain ⟨N, rfl, hN⟩ := hv
    exact p N o' σ' c hN
end
section
variable {G : PG} {n : Nat} {ρ : Loc} {σ : Sto} {Φ : PS} {Ψ : PX} {CH CD x l f : Addr} {o : Own} {b many : Nat} {H : Hs} {a e c : Ex} {as es : List Ex} {us vs : List AV} {r body : List Sm} {y : Str}
theorem g_forR (hn : 10 ≤ n) (hs : Es G n ρ σ as us) (hr : ∀ P : List AV → Prop, P vs → rangeV us P) (I : Nat → Loc → Sto → Prop) (i0 : I 0 ρ σ)
    (turn : ∀ (i : Nat) (v : AV) (K : PS) ρ₂ σ₂, i < vs.length → vs[i]? = some v → I i ρ₂ σ₂ → (∀ ρ₄ σ₄, I (i + 1) ρ₄ σ₄ → K .next ρ₄ σ₄) → (∀ v ρ₄ σ₄, Φ (.ret v) ρ₄ σ₄ → K (.ret v) ρ₄ σ₄) → tss G n body (putA y v ρ₂) σ₂ K Ψ)
    (fin : ∀ ρ₂ σ₂, I vs.length ρ₂ σ₂ → tss G n r ρ₂ σ₂ Φ Ψ) : tss G n (.for_ y (.bi "range" as) body :: r) ρ σ Φ Ψ := by
  rw [bl_for, ti_range]
  exact hs _ _ ⟨hn, hr _ ⟨rfl, loop_ix (vs := vs) I i0 (fun _ _ _ _ => rfl) (fun i v J ρ₂ σ₂ hi hv hI k => ⟨_, rfl, turn i v _ ρ₂ σ₂ hi hv hI k fun v ρ₄ σ₄ p => p⟩) fin⟩⟩
end
end Mine
set_option maxRecDepth 100000
set_option linter.unusedSimpArgs false
set_option linter.unusedVariables false
namespace Mine
open PySem PyProof.Rows

/-- the mails that are due behind these letters -/
noncomputable def due (many : Nat) (ts : List (Int × Str)) : List Mail := ts.zipIdx.flatMap fun p => others many p.1.1 "letter" p.2 none
noncomputable def cntS (ts : List (Int × Str)) (i : Int) : Nat := (ts.filter fun p => p.1 == i).length
theorem due_snoc (many : Nat) (ts : List (Int × Str)) (p : Int × Str) : due many (ts ++ [p]) = due many ts ++ others many p.1 "letter" ts.length none := by
  unfold due
  rw [List.zipIdx_append, List.flatMap_append]
  simp
theorem cntS_snoc (ts : List (Int × Str)) (p : Int × Str) (i : Int) : cntS (ts ++ [p]) i = cntS ts i + (if p.1 = i then 1 else 0) := by
  unfold cntS
  rw [List.filter_append, List.length_append]
  by_cases h : p.1 = i
  · simp [h]
  · simp [h]
theorem filter_len1 (n k : Nat) (h : k < n) : ((List.range n).filter fun (j : Nat) => (j : Int) != (k : Int)).length = n - 1 := by
  induction n with
  | zero => omega
  | succ n ih =>
    rw [List.range_succ, List.filter_append, List.length_append]
    by_cases e : k = n
    · subst e
      have : ((List.range k).filter fun (j : Nat) => (j : Int) != (k : Int)) = List.range k := by
        rw [List.filter_eq_self]
        intro a ha
        have := List.mem_range.mp ha
        simp; omega
      rw [this]; simp
    · rw [ih (by first | decide | with_reducible exact lv hn | with_reducible exact lv1 hn | with_reducible exact lv2 hn | with_reducible exact Int.natCast_nonneg _ | omega)]
      have : ((n : Nat) : Int) ≠ (k : Int) := by omega
      simp [this]; omega
theorem others_len1 {n : Nat} {ow : Int} (h0 : 0 ≤ ow) (h1 : ow < n) (w : Str) (l : Int) (m : Option Mark) : (others n ow w l m).length = n - 1 := by
  obtain ⟨k, rfl⟩ := Int.eq_ofNat_of_zero_le h0
  unfold others
  rw [List.length_map]
  exact filter_len1 n k (by first | decide | with_reducible exact lv hn | with_reducible exact lv1 hn | with_reducible exact lv2 hn | with_reducible exact Int.natCast_nonneg _ | omega)
/-- a house behind letters that were sent, and no more -/
structure S6 (many : Nat) (H : Hs) (ts : List (Int × Str)) : Prop where
  dl : H.desks.length = many
  own : H.owners = ts.map (·.1)
  wr : H.wrote = ts.map (·.2)
  tl : H.told.length = ts.length
  fl : H.finals.length = ts.length
  rd : H.road = due many ts
  hands : ∀ p ∈ ts, 0 ≤ p.1 ∧ p.1 < many
  hand : ∀ (i : Nat) s, H.desks[i]? = some s → s.hand = i
  hours : ∀ (i : Nat) s, H.desks[i]? = some s → s.hours = cntS ts i
  gone : ∀ (i : Nat) s, H.desks[i]? = some s → s.gone = (if many = 1 then (List.range ts.length).map fun (j : Nat) => (j : Int) else [])
  rows : ∀ (i : Nat) s, H.desks[i]? = some s → s.rows.length ≤ ts.length ∧ (many = 1 → s.rows = [])
  known : ∀ (i : Nat) s, H.desks[i]? = some s → s.known.length ≤ ts.length ∧ ∀ k ∈ s.known, k < ts.length
  fin : ∀ l, l < ts.length → H.finals[l]? = some (if many = 1 then some ((l : Int) + 1, 0) else none)
  tolds : ∀ ms ∈ H.told, ms.length ≤ many
variable {many : Nat} {H H' : Hs} {ts : List (Int × Str)}
theorem due_len (h : ∀ p ∈ ts, 0 ≤ p.1 ∧ p.1 < many) : (due many ts).length = ts.length * (many - 1) := by
  have key : ∀ (l : List (Int × Str)) (k : Nat), (∀ p ∈ l, 0 ≤ p.1 ∧ p.1 < many) → ((l.zipIdx k).flatMap fun p => others many p.1.1 "letter" p.2 none).length = l.length * (many - 1) := fun l => by
    induction l with
    | nil => intro k _; simp
    | cons p l ih =>
      intro k hp
      rw [List.zipIdx_cons, List.flatMap_cons, List.length_append, ih (k + 1) fun q hq => hp q (.tail _ hq), others_len1 (hp p (.head _)).1 (hp p (.head _)).2, List.length_cons, Nat.add_mul, Nat.one_mul, Nat.add_comm]
  exact key ts 0 h
theorem S6.small (S : S6 many H ts) (m1 : 1 ≤ many) (m40 : many ≤ 40) (ht : ts.length ≤ 50) : Small H := by
  have hr : H.road.length = ts.length * (many - 1) := by rw [S.rd, due_len S.hands]
  have : ts.length * (many - 1) ≤ 50 * 39 := Nat.mul_le_mul ht (by first | decide | with_reducible exact lv hn | with_reducible exact lv1 hn | with_reducible exact lv2 hn | with_reducible exact Int.natCast_nonneg _ | omega)
  refine ⟨by rw [S.dl]; omega, (by first | decide | with_reducible exact lv hn | with_reducible exact lv1 hn | with_reducible exact lv2 hn | with_reducible exact Int.natCast_nonneg _ | omega), by rw [S.own, List.length_map]; omega, by rw [S.tl]; omega, by rw [S.wr, List.length_map]; omega, by rw [S.fl]; omega, fun s hs => ?_, fun ms hms => by rw [S.dl]; exact S.tolds ms hms⟩
  obtain ⟨i, hi⟩ := List.getElem?_of_mem hs
  have h1 := (S.rows i s hi).1
  have h2 := S.gone i s hi
  have h3 := (S.known i s hi).1
  refine ⟨(by first | decide | with_reducible exact lv hn | with_reducible exact lv1 hn | with_reducible exact lv2 hn | with_reducible exact Int.natCast_nonneg _ | omega), ?_, (by first | decide | with_reducible exact lv hn | with_reducible exact lv1 hn | with_reducible exact lv2 hn | with_reducible exact Int.natCast_nonneg _ | with_reducible assumption | omega)⟩
  rw [h2]
  split
  · simp; omega
  · simp
theorem del_one {m : Mark} {l : Int} {fs : List Int} {r : List Row} (h : Del [(m, l, true)] fs r) : fs = [l] ∧ r = [] := by
  have one : ∀ {k q}, ([(m, l, true)] : List Row)[k]? = some q → k = 0 ∧ q = (m, l, true) := fun {k q} e => by
    cases k with
    | zero => cases e; exact ⟨rfl, rfl⟩
    | succ k => simp at e
  cases h with
  | stop h1 h2 h3 => obtain ⟨_, rfl⟩ := one h2; cases h3
  | go h1 h2 h3 =>
    obtain ⟨rfl, e⟩ := one h2
    cases e
    replace h3 : Del [] _ r := h3
    cases h3 with
    | nil => exact ⟨rfl, rfl⟩
    | stop h1 h2 _ => simp at h2
    | go h1 h2 _ => simp at h2
theorem at_one {m m0 : Mark} {l : Int} {i : Nat} (h : ([(m, l, false)] : List Row)[i]? = some (m0, l, false)) : i = 0 ∧ m0 = m := by
  cases i with
  | zero => cases h; exact ⟨rfl, rfl⟩
  | succ k => simp at h
end Mine
set_option maxRecDepth 100000
set_option linter.unusedSimpArgs false
set_option linter.unusedVariables false
namespace Mine
open PySem PyProof.Rows
variable {many : Nat} {H H' : Hs} {ts : List (Int × Str)}
theorem S6.step (S : S6 many H ts) (m1 : 1 ≤ many) {i : Nat} {s s' : Dk} {p : Mark} {F : List (Option Mark)} (hs : H.desks[i]? = some s) (text : Str) (h1 : s'.hand = s.hand) (h2 : s'.hours = s.hours + 1)
    (h3 : s'.gone = (if many = 1 then (List.range (ts.length + 1)).map fun (j : Nat) => (j : Int) else [])) (h4 : s'.rows.length ≤ ts.length + 1 ∧ (many = 1 → s'.rows = [])) (h5 : s'.known = s.known ++ [(ts.length : Int)])
    (h6 : F.length = ts.length + 1) (h7 : ∀ l, l < ts.length + 1 → F[l]? = some (if many = 1 then some ((l : Int) + 1, 0) else none)) :
    S6 many ⟨H.desks.set i s', H.road ++ others many i "letter" ts.length none, H.owners ++ [(i : Int)], H.wrote ++ [text], H.told ++ [[p]], F⟩ (ts ++ [((i : Int), text)]) := by
  have hi := (List.getElem?_eq_some_iff.mp hs).1
  rw [S.dl] at hi
  have ln : (ts ++ [((i : Int), text)]).length = ts.length + 1 := by simp
  have nb : ∀ {j : Nat} {q : Dk}, j ≠ i → H.desks[j]? = some q → many ≠ 1 := fun {j q} hj hq => by
    have := (List.getElem?_eq_some_iff.mp hq).1
    rw [S.dl] at this
    omega
  refine ⟨by simp only [List.length_set]; exact S.dl, by simp only [S.own, List.map_append, List.map_cons, List.map_nil], by simp only [S.wr, List.map_append, List.map_cons, List.map_nil], by rw [ln]; simp [S.tl], by rw [ln]; exact h6, by rw [due_snoc]; simp only [S.rd], fun q hq => ?_, fun j q hq => ?_, fun j q hq => ?_, fun j q hq => ?_, fun j q hq => ?_, fun j q hq => ?_, fun l hl => ?_, fun ms hms => ?_⟩
  · rcases List.mem_append.mp hq with hq | hq
    · exact S.hands q hq
    · cases List.mem_singleton.mp hq; exact ⟨Int.natCast_nonneg _, Int.ofNat_lt.mpr hi⟩
  · rcases set_get hq with ⟨rfl, rfl, _⟩ | ⟨z, hq⟩
    · rw [h1]; exact S.hand _ _ hs
    · exact S.hand _ _ hq
  · rcases set_get hq with ⟨rfl, rfl, _⟩ | ⟨z, hq⟩
    · rw [h2, S.hours _ _ hs, cntS_snoc, if_pos rfl]; simp
    · rw [S.hours _ _ hq, cntS_snoc, if_neg (by simp; (first | with_reducible assumption | with_reducible exact Nat.lt_of_lt_of_le (by assumption) (by decide) | omega))]; simp
  · rw [ln]
    rcases set_get hq with ⟨rfl, rfl, _⟩ | ⟨z, hq⟩
    · exact h3
    · rw [S.gone _ _ hq, if_neg (nb (by first | decide | with_reducible exact lv hn | with_reducible exact lv1 hn | with_reducible exact lv2 hn | with_reducible exact Int.natCast_nonneg _ | omega) hq), if_neg (nb (by first | decide | with_reducible exact lv hn | with_reducible exact lv1 hn | with_reducible exact lv2 hn | with_reducible exact Int.natCast_nonneg _ | omega) hq)]
  · rw [ln]
    rcases set_get hq with ⟨rfl, rfl, _⟩ | ⟨z, hq⟩
    · exact h4
    · exact ⟨Nat.le_succ_of_le (S.rows _ _ hq).1, (S.rows _ _ hq).2⟩
  · rw [ln]
    rcases set_get hq with ⟨rfl, rfl, _⟩ | ⟨z, hq⟩
    · rw [h5]
      refine ⟨by have := (S.known _ _ hs).1; simp; omega, fun k hk => ?_⟩
      rcases List.mem_append.mp hk with hk | hk
      · have := (S.known _ _ hs).2 k hk; omega
      · cases List.mem_singleton.mp hk; omega
    · refine ⟨Nat.le_succ_of_le (S.known _ _ hq).1, fun k hk => ?_⟩
      have := (S.known _ _ hq).2 k hk; omega
  · rw [ln] at hl; exact h7 l hl
  · rcases List.mem_append.mp hms with hms | hms
    · exact S.tolds ms hms
    · cases List.mem_singleton.mp hms; exact m1
theorem S6.nones (S : S6 many H ts) (h : many ≠ 1) : ∀ l, l < ts.length + 1 → (H.finals ++ [Option.none])[l]? = some (if many = 1 then some ((l : Int) + 1, 0) else none) := fun l hl => by
  rw [if_neg h]
  by_cases q : l < ts.length
  · rw [List.getElem?_append_left (by rw [S.fl]; exact q), S.fin l q, if_neg h]
  · have : l = H.finals.length := by rw [S.fl]; omega
    rw [this, List.getElem?_concat_length]
theorem S6.send (S : S6 many H ts) (m1 : 1 ≤ many) (m40 : many ≤ 40) (ht : ts.length ≤ 40) {i : Nat} {s : Dk} (hs : H.desks[i]? = some s) (text : Str) :
    (H.owners.length : Int) ∉ s.known ∧ Small (H.sent i s text) ∧ CanClose (H.sent i s text) H.owners.length i [(s.hours + 1, s.hand)] (s.propose H.owners.length) ∧ ∀ H', Closes (H.sent i s text) H.owners.length H' → S6 many H' (ts ++ [((i : Int), text)]) := by
  have hi := (List.getElem?_eq_some_iff.mp hs).1
  have hol : H.owners.length = ts.length := by rw [S.own, List.length_map]
  have hdl : (H.desks.set i (s.propose ts.length)).length = many := by rw [List.length_set]; exact S.dl
  have hse : H.sent i s text = ⟨H.desks.set i (s.propose ts.length), H.road ++ others many i "letter" ts.length none, H.owners ++ [(i : Int)], H.wrote ++ [text], H.told ++ [[(s.hours + 1, s.hand)]], H.finals ++ [Option.none]⟩ := by
    unfold Hs.sent Hs.toOthers
    simp only [hol, hdl]
  have told : (H.told ++ [[(s.hours + 1, s.hand)]])[ts.length]? = some [(s.hours + 1, s.hand)] := by rw [← S.tl]; exact List.getElem?_concat_length
  have own : (H.owners ++ [(i : Int)])[ts.length]? = some (i : Int) := by rw [← hol]; exact List.getElem?_concat_length
  have desk : (H.desks.set i (s.propose ts.length))[((i : Int)).toNat]? = some (s.propose ts.length) := by rw [Int.toNat_natCast]; exact List.getElem?_set_self hi
  have bg : big [(s.hours + 1, s.hand)] = (s.hours + 1, s.hand) := by simp [big, step1, ltM_irr]
  have hpr : many = 1 → (s.propose ts.length).rows = [((s.hours + 1, s.hand), (ts.length : Int), false)] := fun h => by simp [Dk.propose, (S.rows _ _ hs).2 h]
  rw [hse, hol]
  refine ⟨fun z => by have := (S.known _ _ hs).2 _ z; omega, ?_, ⟨told, own, Int.natCast_nonneg _, desk, by simp [S.fl], by simp, fun h => ?_⟩, fun H' hC => ?_⟩
  · by_cases h : many = 1
    · -- bounds alone
      have B := S.small m1 m40 (by first | decide | with_reducible exact lv hn | with_reducible exact lv1 hn | with_reducible exact lv2 hn | with_reducible exact Int.natCast_nonneg _ | omega)
      have hr : (H.road ++ others many i "letter" ts.length none).length ≤ H.road.length + 40 := by
        rw [List.length_append]
        have := others_len many (i : Int) "letter" (ts.length : Int) none
        omega
      have hr' : H.road.length = ts.length * (many - 1) := by rw [S.rd, due_len S.hands]
      have : ts.length * (many - 1) = 0 := by rw [h]; simp
      refine ⟨by rw [hdl]; omega, by show (H.road ++ _).length < 90000; (first | with_reducible assumption | with_reducible exact Nat.lt_of_lt_of_le (by assumption) (by decide) | omega), by simp [hol]; omega, by simp [S.tl]; omega, by simp [S.wr]; omega, by simp [S.fl]; omega, fun q hq => ?_, fun ms hms => ?_⟩
      · rcases List.mem_or_eq_of_mem_set hq with hq | rfl
        · exact B.desk q hq
        · have := B.desk s (List.mem_of_getElem? hs)
          have h1 := (S.rows _ _ hs).1
          have h3 := (S.known _ _ hs).1
          refine ⟨by simp [Dk.propose]; omega, this.2.1, by simp [Dk.propose]; omega⟩
      · show ms.length ≤ (H.desks.set i (s.propose ts.length)).length
        rw [hdl]
        rcases List.mem_append.mp hms with hms | hms
        · exact S.tolds ms hms
        · cases List.mem_singleton.mp hms; exact m1
    · refine (S.step (p := (s.hours + 1, s.hand)) m1 hs text (s' := s.propose ts.length) rfl rfl ?_ ⟨?_, fun z => absurd z h⟩ rfl (by simp [S.fl]) (S.nones h)).small m1 m40 (by simp; (first | with_reducible assumption | with_reducible exact Nat.lt_of_lt_of_le (by assumption) (by decide) | omega))
      · show s.gone = _
        rw [S.gone _ _ hs, if_neg h, if_neg h]
      · have := (S.rows _ _ hs).1; simp [Dk.propose]; omega
  · have h1 : many = 1 := by
      replace h : ¬ 1 < (H.desks.set i (s.propose ts.length)).length := h
      rw [hdl] at h; omega
    rw [bg]
    refine ⟨fun z => z 0 _ (by rw [hpr h1]; rfl) ⟨rfl, rfl⟩, fun j m0 _ hm => ?_⟩
    rw [hpr h1] at hm
    rw [(at_one hm).2]; exact ltM_irr _
  · obtain ⟨ms, e1, hC⟩ := hC
    replace e1 : (H.told ++ [[(s.hours + 1, s.hand)]])[ts.length]? = some ms := e1
    rw [told] at e1; cases e1
    rcases hC with ⟨hlt, rfl⟩ | ⟨hge, ow, q, q', e2, e3, ⟨j, m0, fs, rows', hO, hr, hl, hD, rfl⟩, rfl⟩
    · replace hlt : 1 < (H.desks.set i (s.propose ts.length)).length := hlt
      rw [hdl] at hlt
      have h : many ≠ 1 := by omega
      refine S.step (s' := s.propose ts.length) m1 hs text rfl rfl ?_ ⟨?_, fun z => absurd z h⟩ rfl (by simp [S.fl]) (S.nones h)
      · show s.gone = _
        rw [S.gone _ _ hs, if_neg h, if_neg h]
      · have := (S.rows _ _ hs).1; simp [Dk.propose]; omega
    · replace hge : ¬ 1 < (H.desks.set i (s.propose ts.length)).length := hge
      rw [hdl] at hge
      have h : many = 1 := by omega
      replace e2 : (H.owners ++ [(i : Int)])[ts.length]? = some ow := e2
      rw [own] at e2; cases e2
      replace e3 : (H.desks.set i (s.propose ts.length))[((i : Int)).toNat]? = some q := e3
      rw [desk] at e3; cases e3
      rw [bg] at hl hD
      rw [hpr h] at hO hr hD
      obtain ⟨rfl, rfl⟩ := at_one hr
      obtain ⟨rfl, rfl⟩ := del_one hD
      have i0 : i = 0 := by rw [S.dl] at hi; omega
      have hh : s.hand = 0 := by rw [S.hand _ _ hs, i0]; rfl
      have hc : (s.hours : Int) = ts.length := by
        rw [S.hours _ _ hs]
        have : ∀ l : List (Int × Str), (∀ p ∈ l, 0 ≤ p.1 ∧ p.1 < (many : Int)) → cntS l (i : Int) = l.length := fun l hl => by
          unfold cntS
          rw [List.filter_eq_self.mpr]
          intro p hp
          have := hl p hp
          simp; omega
        rw [this ts S.hands]
      have key := S.step (p := (s.hours + 1, s.hand)) (s' := ⟨s.hand, max (s.hours + 1) (s.hours + 1), [], s.known ++ [(ts.length : Int)], s.gone ++ [(ts.length : Int)]⟩) (F := (H.finals ++ [Option.none]).set ts.length (some (s.hours + 1, s.hand))) m1 hs text rfl (by simp) ?_ ⟨Nat.zero_le _, fun _ => rfl⟩ rfl (by simp [S.fl]) fun l hl => ?_
      · unfold Hs.toOthers
        have hd2 : (List.set (List.set H.desks i (s.propose ts.length)) ((i : Int)).toNat ⟨(s.propose ts.length).hand, max (s.propose ts.length).hours (s.hours + 1), [], (s.propose ts.length).known, (s.propose ts.length).gone ++ [(ts.length : Int)]⟩).length = many := by rw [List.length_set]; exact hdl
        have ho : others many (i : Int) "mark" (ts.length : Int) (some (big [(s.hours + 1, s.hand)])) = [] := List.eq_nil_of_length_eq_zero (by rw [others_len1 (Int.natCast_nonneg _) (Int.ofNat_lt.mpr (by rw [← S.dl]; exact hi)), h])
        simp only [bg] at hd2 ho ⊢
        rw [hd2, ho, List.append_nil, Int.toNat_natCast, List.set_set]
        exact key
      · rw [S.gone _ _ hs, if_pos h, if_pos h, List.range_succ, List.map_append]; rfl
      · rw [if_pos h]
        by_cases q : l = ts.length
        · subst q
          rw [List.getElem?_set_self (by simp [S.fl]), hc, hh]
        · rw [List.getElem?_set_ne (by first | decide | with_reducible exact lv hn | with_reducible exact lv1 hn | with_reducible exact lv2 hn | with_reducible exact Int.natCast_nonneg _ | omega), List.getElem?_append_left (by rw [S.fl]; omega), S.fin l (by first | decide | with_reducible exact lv hn | with_reducible exact lv1 hn | with_reducible exact lv2 hn | with_reducible exact Int.natCast_nonneg _ | omega), if_pos h]
end Mine
set_option maxRecDepth 100000
set_option linter.unusedSimpArgs false
set_option linter.unusedVariables false
namespace Mine
open PySem PyProof.Rows

/-- what is no place below a bound -/
inductive Alien (σ : Sto) (m : Int) : AV → Prop
  | bool (b : Bool) : Alien σ m (.bool b)
  | none : Alien σ m .none
  | str (x : Str) : Alien σ m (.str x)
  | tup (vs : List AV) : Alien σ m (.tup vs)
  | lst {a : Addr} {vs : List AV} : lstOf σ a = some vs → Alien σ m (.ref a)
  | dict {a : Addr} {kvs : List (Int × AV)} : σ a = some (.dictI kvs) → Alien σ m (.ref a)
  | int {i : Int} : ¬ (0 ≤ i ∧ i < m) → Alien σ m (.int i)
theorem Alien.ext {σ σ' : Sto} {m : Int} {v : AV} (h : Alien σ m v) (x : Ext σ σ') : Alien σ' m v := by
  cases h with
  | bool b => exact .bool b
  | none => exact .none
  | str s => exact .str s
  | tup vs => exact .tup vs
  | lst h => exact .lst (x.lst h)
  | dict h => exact .dict (x _ _ h)
  | int h => exact .int h
section
variable {G : PG} {n : Nat} {ρ : Loc} {σ : Sto} {Φ : PE} {Ψ : PY} {f CH CD : Addr} {o : Own} {b : Nat} {A : HA} {H : Hs} {v : AV}
theorem place_no {m : Int} (F : Fn1 G "is_place" ["thing", "many"] cis_place f) (h : Alien σ m v) : CallIs G (n + 1) f [v, .int m] σ (.bool false) := by
  have other : ∀ {t : Value}, kindV σ v = some t → W.kitOne G.K t (.type "int") = some false → v.exnK G.K → CallIs G (n + 1) f [v, .int m] σ (.bool false) := fun h1 h2 h3 Φ Ψ p =>
    F.bd rfl fun ρ K X L hr _ _ => g_ret (ev_andF (ev_bi (es_cons (ev_nm (L _ _ rfl)) (es_cons (ev_gl d_int) es_nil)) (d_isi h1 h2 h3))) (hr _ _ _ p)
  cases h with
  | bool b => exact fun Φ Ψ p => F.bd rfl fun ρ K X L hr _ _ => g_ret (ev_andT (ev_bi (es_cons (ev_nm (L _ _ rfl)) (es_cons (ev_gl d_int) es_nil)) (d_isi rfl rfl)) (ev_andF (ev_notF (ev_bi (es_cons (ev_nm (L _ _ rfl)) (es_cons (ev_gl d_bool) es_nil)) (d_isi rfl rfl))))) (hr _ _ _ p)
  | none => exact other rfl rfl trivial
  | str x => exact other rfl rfl trivial
  | tup vs => exact other rfl rfl trivial
  | @lst a vs h => exact other (t := .type "list") (by simp only [kindV, h]) rfl trivial
  | @dict a kvs h => exact other (t := .type "dict") (by simp only [kindV, show lstOf σ a = none by unfold lstOf; rw [h], h]) rfl trivial
  | @int i h =>
    have := place_is (i := i) (m := m) (n := n) (σ := σ) F
    rw [show (decide (0 ≤ i) && decide (i < m)) = false from by rw [← Bool.decide_and]; exact decide_eq_false h] at this
    exact this
variable (X : HouseAt CH CD o σ b A H)
include X
theorem need_hand_no {C : Addr} (hn : 10 ≤ n + 1) (Z : HF G CH CD) (M : Mt G CH "need_hand" ["self", "hand"] cHouse_need_hand f) (mg : G.mg "NoHand" = some (.ref C)) (xc : ExcOk G "NoHand" C) (hz : H.desks.length < 10000) (h : Alien σ H.desks.length v) (r : Rz (Ψ (.ref C) σ)) : WC G (n + 2) (.ref f) [.ref A.x, v] σ Φ Ψ :=
  M.bd rfl fun ρ K _ L hr _ hx => Z.place.elim fun fp P => g_iteT (et_notT (et_call (ev_call P (es_cons (ev_nm (L _ _ rfl)) (es_cons (ev_hands X Z hz (L _ _ rfl)) es_nil)) (place_no P h)))) (do_raise mg hn xc (Rz.to r (hx _ _ _)))
theorem need_letter_no {C : Addr} (hn : 10 ≤ n + 1) (Z : HF G CH CD) (M : Mt G CH "need_letter" ["self", "letter"] cHouse_need_letter f) (mg : G.mg "NoLetter" = some (.ref C)) (xc : ExcOk G "NoLetter" C) (hz : H.owners.length < 10000) (h : Alien σ H.owners.length v) (r : Rz (Ψ (.ref C) σ)) : WC G (n + 2) (.ref f) [.ref A.x, v] σ Φ Ψ :=
  M.bd rfl fun ρ K _ L hr _ hx => Z.place.elim fun fp P => g_iteT (et_notT (et_call (ev_call P (es_cons (ev_nm (L _ _ rfl)) (es_cons (ev_letters X Z hz (L _ _ rfl)) es_nil)) (place_no P h)))) (do_raise mg hn xc (Rz.to r (hx _ _ _)))
theorem bring_no {C : Addr} (hn : 10 ≤ n + 1) (Z : HF G CH CD) (M : Mt G CH "bring" ["self", "place"] cHouse_bring f) (mg : G.mg "NoMail" = some (.ref C)) (xc : ExcOk G "NoMail" C) (hz : H.road.length < 100000) (h : Alien σ H.road.length v) (r : Rz (Ψ (.ref C) σ)) : WC G (n + 2) (.ref f) [.ref A.x, v] σ Φ Ψ :=
  M.bd rfl fun ρ K _ L hr _ hx => Z.place.elim fun fp P => g_iteT (et_notT (et_call (ev_call P (es_cons (ev_nm (L _ _ rfl)) (es_cons (ev_mails X Z hz (L _ _ rfl)) es_nil)) (place_no P h)))) (do_raise mg hn xc (Rz.to r (hx _ _ _)))
/-- methods that ask for a hand, for a letter, first -/
theorem hand_no {C : Addr} {m : Str} {ps : List Str} {r : List Sm} {args : List AV} (hn : 10 ≤ n + 1) (Z : HF G CH CD) (M : Mt G CH m ("self" :: "hand" :: ps) (.expr (.meth (.nm "self") "need_hand" [(.nm "hand")]) :: r) f) (hl : args.length = ps.length) (mg : G.mg "NoHand" = some (.ref C)) (xc : ExcOk G "NoHand" C) (hz : H.desks.length < 10000) (h : Alien σ H.desks.length v) (q : Rz (Ψ (.ref C) σ)) : WC G (n + 3) (.ref f) (.ref A.x :: v :: args) σ Φ Ψ :=
  M.bd (by rw [List.length_cons, List.length_cons, List.length_cons, List.length_cons, hl]) fun ρ K _ L hr _ hx => Z.needh.elim fun fp N => g_exprM N (ev_nm (L _ _ rfl)) X.x.at_ X.d.at_ rfl (es_cons (ev_nm (L _ _ rfl)) es_nil) (need_hand_no X hn Z N mg xc hz h (Rz.to q (hx _ _ _)))
theorem letter_no {C : Addr} {m : Str} {ps : List Str} {r : List Sm} {args : List AV} (hn : 10 ≤ n + 1) (Z : HF G CH CD) (M : Mt G CH m ("self" :: "letter" :: ps) (.expr (.meth (.nm "self") "need_letter" [(.nm "letter")]) :: r) f) (hl : args.length = ps.length) (mg : G.mg "NoLetter" = some (.ref C)) (xc : ExcOk G "NoLetter" C) (hz : H.owners.length < 10000) (h : Alien σ H.owners.length v) (q : Rz (Ψ (.ref C) σ)) : WC G (n + 3) (.ref f) (.ref A.x :: v :: args) σ Φ Ψ :=
  M.bd (by rw [List.length_cons, List.length_cons, List.length_cons, List.length_cons, hl]) fun ρ K _ L hr _ hx => Z.needl.elim fun fp N => g_exprM N (ev_nm (L _ _ rfl)) X.x.at_ X.d.at_ rfl (es_cons (ev_nm (L _ _ rfl)) es_nil) (need_letter_no X hn Z N mg xc hz h (Rz.to q (hx _ _ _)))
/-- the other methods -/
theorem sender_ok {i w : Int} (Z : HF G CH CD) (M : Mt G CH "sender" ["self", "letter"] cHouse_sender f) (hz : H.owners.length < 10000) (h0 : 0 ≤ i) (hw : H.owners[i.toNat]? = some w) (h : Φ (.int w) σ) : WC G (n + 3) (.ref f) [.ref A.x, .int i] σ Φ Ψ :=
  have hl := (List.getElem?_eq_some_iff.mp hw).1
  M.bd rfl fun ρ K _ L hr hn _ => Z.needl.elim fun fl N => g_exprM N (ev_nm (L _ _ rfl)) X.x.at_ X.d.at_ rfl (es_cons (ev_nm (L _ _ rfl)) es_nil) (need_letter_ok X Z N hz h0 (by first | decide | with_reducible exact lv hn | with_reducible exact lv1 hn | with_reducible exact lv2 hn | with_reducible exact Int.natCast_nonneg _ | omega) (g_ret (ev_owner X Z h0 hz hw (L _ _ rfl) (ev_nm (L _ _ rfl))) (hr _ _ _ h)))
theorem text_ok {i : Int} {x : Str} (Z : HF G CH CD) (M : Mt G CH "text" ["self", "letter"] cHouse_text f) (hz : H.owners.length < 10000) (h0 : 0 ≤ i) (h1 : i < H.owners.length) (hf : H.wrote.length < 10000) (hw : H.wrote[i.toNat]? = some x) (h : Φ (.str x) σ) : WC G (n + 3) (.ref f) [.ref A.x, .int i] σ Φ Ψ :=
  M.bd rfl fun ρ K _ L hr hn _ => Z.needl.elim fun fl N => g_exprM N (ev_nm (L _ _ rfl)) X.x.at_ X.d.at_ rfl (es_cons (ev_nm (L _ _ rfl)) es_nil) (need_letter_ok X Z N hz h0 h1
    (g_ret (ev_sub (X.attr Z (by decide) rfl rfl (L _ _ rfl)) (ev_nm (L _ _ rfl)) (d_at X.wr.lst (by rw [List.length_map]; exact Nat.lt_trans hf (by decide)) h0 (by rw [List.getElem?_map, hw]; rfl))) (hr _ _ _ h)))
theorem house_clock_ok {i : Int} {s : Dk} (Z : HF G CH CD) (M : Mt G CH "clock" ["self", "hand"] cHouse_clock f) (hz : H.desks.length < 10000) (h0 : 0 ≤ i) (hs : H.desks[i.toNat]? = some s) (h : Φ (.int s.hours) σ) : WC G (n + 3) (.ref f) [.ref A.x, .int i] σ Φ Ψ := by
  have hl := (List.getElem?_eq_some_iff.mp hs).1
  have hD : A.D[i.toNat]? = some (A.D[i.toNat]'(by rw [X.len]; exact hl)) := List.getElem?_eq_getElem _
  exact M.bd rfl fun ρ K _ L hr hn _ => Z.needh.elim fun fl N => g_exprM N (ev_nm (L _ _ rfl)) X.x.at_ X.d.at_ rfl (es_cons (ev_nm (L _ _ rfl)) es_nil) (need_hand_ok X Z N hz h0 (by first | decide | with_reducible exact lv hn | with_reducible exact lv1 hn | with_reducible exact lv2 hn | with_reducible exact Int.natCast_nonneg _ | omega)
    (Z.dclock.elim fun fd Dh => g_retM Dh (ev_desk X Z h0 hz hD (L _ _ rfl) (ev_nm (L _ _ rfl))) (X.desk _ _ _ hD hs).x.at_ (X.desk _ _ _ hD hs).d.at_ rfl es_nil (clock_ok Dh Z.dcl (X.desk _ _ _ hD hs) (hr _ _ _ h))))
omit X
/-- no house of such a count -/
theorem house_no {C : Addr} {tk : Tok} (hn : 10 ≤ n + 1) (M : Mk G "House" CH ["self", "many"] cHouse___init__) (Z : HF G CH CD) (most : G.mg "MOST_HANDS" = some (.int 40 tk)) (mg : G.mg "BadCount" = some (.ref C)) (xc : ExcOk G "BadCount" C) (h : Alien σ 41 v ∨ v = .int 0) (r : ∀ σ', Ext σ σ' → Rz (Ψ (.ref C) σ')) : WC G (n + 3) (.ref CH) [v] σ Φ Ψ := by
  obtain ⟨fp, P⟩ := Z.place
  refine M.wc rfl fun x d hx hd hne => ?_
  have ex : Ext σ (upd (upd σ d (.ns [])) x (.inst CH d)) := (Ext.new hd).trans (Ext.new (by rw [upd_ne (Ne.symm hne)]; exact hx))
  have l2 : List.lookup (Str.ofString "many") ([Str.ofString "self", Str.ofString "many"].zip [.ref x, v]) = some v := rfl
  generalize upd (upd σ d (.ns [])) x (.inst CH d) = σ₁ at ex
  generalize [Str.ofString "self", Str.ofString "many"].zip [.ref x, v] = ρ at l2
  have em : Ev G (n + 1) ρ σ₁ (.bin .Add (.gl "MOST_HANDS") (.cst (.int (1)))) (.int 41) := ev_bin (ev_gl (v := .int 40) fun Φ p => by rw [glob_val most]; exact p) ev_cst d_add
  refine g_iteT (et_or ?_) (do_raise mg hn xc (r _ ex))
  rcases h with h | rfl
  · exact eo_T (et_notT (et_call (ev_call P (es_cons (ev_nm l2) (es_cons em es_nil)) (place_no P (h.ext ex)))))
  · exact eo_F (et_notF (et_call (ev_call P (es_cons (ev_nm l2) (es_cons em es_nil)) (place_T P (by decide) (by decide))))) (eo_T (et_cmp (ev_nm l2) ev_cst (d_eqT rfl)))
end
end Mine
set_option maxRecDepth 100000
set_option linter.unusedSimpArgs false
set_option linter.unusedVariables false
namespace Mine
open PySem PyProof.Rows

noncomputable def c_law_sign : List Sm := [.asg "_law_some" (.cst (.str " !\"#$&'()*+,-./0123456789:;<=>?@ABCDEFGHIJKLMNOPQRSTUVWXYZ[\\]^_`")), .asg "_law_some" (.bin .Add (.nm "_law_some") (.cst (.str "abcdefghijklmnopqrstuvwxyz{|}~"))), .ret (some (.sub (.nm "_law_some") (.bin .Mod (.nm "_law_cell") (.cst (.int (94))))))]
noncomputable def c_law_refused : List Sm := [.try_ [.ite (.cmp .Eq (.nm "_law_word") (.cst (.str "House"))) [.expr (.call "House" [(.nm "_law_thing")])] [.ite (.cmp .Eq (.nm "_law_word") (.cst (.str "send"))) [.expr (.meth (.nm "_law_house") "send" [(.nm "_law_thing"), (.cst (.str "a"))])] [.ite (.cmp .Eq (.nm "_law_word") (.cst (.str "bring"))) [.expr (.meth (.nm "_law_house") "bring" [(.nm "_law_thing")])] [.ite (.cmp .Eq (.nm "_law_word") (.cst (.str "handed"))) [.expr (.meth (.nm "_law_house") "handed" [(.nm "_law_thing")])] [.ite (.cmp .Eq (.nm "_law_word") (.cst (.str "clock"))) [.expr (.meth (.nm "_law_house") "clock" [(.nm "_law_thing")])] [.ite (.cmp .Eq (.nm "_law_word") (.cst (.str "sender"))) [.expr (.meth (.nm "_law_house") "sender" [(.nm "_law_thing")])] [.ite (.cmp .Eq (.nm "_law_word") (.cst (.str "text"))) [.expr (.meth (.nm "_law_house") "text" [(.nm "_law_thing")])] [.expr (.meth (.nm "_law_house") "mark" [(.nm "_law_thing")])]]]]]]]] "BellError" "_law_error" [.ite (.or_ [(.cmp .Eq (.nm "_law_word") (.cst (.str "House"))), (.cmp .Eq (.nm "_law_word") (.cst (.str "bring")))]) [.ret (some (.call "_law_only" [(.nm "_law_error"), (.sub (.list [(.cst (.str "BadCount")), (.cst (.str "NoMail"))]) (.bi "int" [(.cmp .Eq (.nm "_law_word") (.cst (.str "bring")))]))]))] [], .ret (some (.call "_law_only" [(.nm "_law_error"), (.sub (.list [(.cst (.str "NoLetter")), (.cst (.str "NoHand"))]) (.bi "int" [(.cmp .In (.nm "_law_word") (.tup [(.cst (.str "send")), (.cst (.str "handed")), (.cst (.str "clock"))]))]))]))], .ret (some (.cst (.bool false)))]
noncomputable def c_law_strangers : List Sm := [.asg "_law_bad" (.list [(.cst (.bool true)), (.cst (.bool false)), (.cst .none), (.cst (.str "0")), (.list [(.cst (.int (0)))]), (.tup [(.cst (.int (0)))]), (.dict [(.cst (.int (0)))] [(.cst (.int (0)))]), (.neg (.cst (.int (1)))), (.bin .Sub (.neg (.cst (.int (1)))) (.bin .Mod (.nm "_law_cell") (.cst (.int (99)))))]), .asg "_law_words" (.list [(.cst (.str "House")), (.cst (.str "send")), (.cst (.str "bring")), (.cst (.str "handed")), (.cst (.str "clock")), (.cst (.str "sender")), (.cst (.str "text")), (.cst (.str "mark"))]), .asg "_law_bounds" (.list [(.cst (.int (41))), (.nm "_law_many"), (.nm "_law_mails_here"), (.nm "_law_many"), (.nm "_law_many"), (.nm "_law_letters"), (.nm "_law_letters"), (.nm "_law_letters")]), .asg "_law_at" (.bin .Mod (.nm "_law_cell") (.cst (.int (8)))), .asg "_law_thing" (.sub (.bin .Add (.nm "_law_bad") (.list [(.sub (.nm "_law_bounds") (.nm "_law_at")), (.bin .Add (.sub (.nm "_law_bounds") (.nm "_law_at")) (.bin .Mod (.bin .FloorDiv (.nm "_law_cell") (.cst (.int (8)))) (.cst (.int (99)))))])) (.bin .Mod (.bin .FloorDiv (.nm "_law_cell") (.cst (.int (8)))) (.cst (.int (11))))), .ite (.and_ [(.cmp .Eq (.sub (.nm "_law_words") (.nm "_law_at")) (.cst (.str "House"))), (.cmp .Eq (.bin .Mod (.bin .FloorDiv (.nm "_law_cell") (.cst (.int (8)))) (.cst (.int (5)))) (.cst (.int (0))))]) [.asg "_law_thing" (.cst (.int (0)))] [], .ret (some (.call "_law_refused" [(.nm "_law_house"), (.sub (.nm "_law_words") (.nm "_law_at")), (.nm "_law_thing")]))]
/-- what is refused, and by which error -/
inductive Refuse (σ : Sto) (H : Hs) : Str → AV → Str → Prop
  | house {v} : Alien σ 41 v ∨ v = .int 0 → Refuse σ H "House" v "BadCount"
  | send {v} : Alien σ H.desks.length v → Refuse σ H "send" v "NoHand"
  | bring {v} : Alien σ H.road.length v → Refuse σ H "bring" v "NoMail"
  | handed {v} : Alien σ H.desks.length v → Refuse σ H "handed" v "NoHand"
  | clock {v} : Alien σ H.desks.length v → Refuse σ H "clock" v "NoHand"
  | sender {v} : Alien σ H.owners.length v → Refuse σ H "sender" v "NoLetter"
  | text {v} : Alien σ H.owners.length v → Refuse σ H "text" v "NoLetter"
  | mark {v} : Alien σ H.owners.length v → Refuse σ H "mark" v "NoLetter"
noncomputable def IsErr (G : PG) (x : Str) : Prop := ∃ C, G.mg x = some (.ref C) ∧ ExcOk G x C ∧ Errs G C x
/-- what the refusals reach -/
structure R6 (G : PG) (CH CD : Addr) : Prop where
  Z : HF G CH CD
  MH : Mk G "House" CH ["self", "many"] cHouse___init__
  most : ∃ tk, G.mg "MOST_HANDS" = some (.int 40 tk)
  send : ∃ f, Mt G CH "send" ["self", "hand", "text"] cHouse_send f
  bring : ∃ f, Mt G CH "bring" ["self", "place"] cHouse_bring f
  handed : ∃ f, Mt G CH "handed" ["self", "hand"] cHouse_handed f
  clock : ∃ f, Mt G CH "clock" ["self", "hand"] cHouse_clock f
  sender : ∃ f, Mt G CH "sender" ["self", "letter"] cHouse_sender f
  text : ∃ f, Mt G CH "text" ["self", "letter"] cHouse_text f
  mark : ∃ f, Mt G CH "mark" ["self", "letter"] cHouse_mark f
  only : ∃ f, Fn1 G "_law_only" ["_law_error", "_law_word"] c_law_only f
  e1 : IsErr G "BadCount"
  e2 : IsErr G "NoHand"
  e3 : IsErr G "NoMail"
  e4 : IsErr G "NoLetter"
section
variable {G : PG} {n : Nat} {ρ : Loc} {σ σ' : Sto} {Φ : PE} {Ψ : PY} {f CH CD : Addr} {o : Own} {b : Nat} {A : HA} {H : Hs} {v : AV} {w x : Str}
theorem d_cat {s t : Str} (h : s.length + t.length ≤ sizeLine) : BinIs σ .Add (.str s) (.str t) (.str (s ++ t)) := fun _ p => ⟨h, p⟩
theorem d_item {s : Str} {k : Int} (h0 : 0 ≤ k) (h1 : k < s.length) (h2 : k < 2 ^ 62) : SubIs σ (.str s) (.int k) (.str (Txt.item s k)) := fun _ p => ⟨h0, h1, h2, p⟩
theorem d_intB {q : Bool} : BiIs G n σ "int" [.bool q] (.int (if q then 1 else 0)) := fun Φ p => bi_intB p
/-- a sign -/
theorem sign_is {i : Int} (F : Fn1 G "_law_sign" ["_law_cell"] c_law_sign f) : ∃ c : Str, c.length = 1 ∧ CallIs G (n + 1) f [.int i] σ (.str c) := by
  have fm := fmod_in i (m := 94) (by decide)
  exact ⟨_, rfl, fun Φ Ψ p => F.bd rfl fun ρ K X L hr _ _ => g_asg ev_cst (g_asg (ev_bin (ev_nm lk_eq) ev_cst (d_cat (by decide))) (g_ret (ev_sub (ev_nm lk_eq) (ev_bin (ev_nm (lk_ne (by decide) (lk_ne (by decide) (L _ _ rfl)))) ev_cst (d_fmod (by decide))) (d_item fm.1 fm.2 (Int.lt_trans fm.2 (by decide)))) (hr _ _ _ p)))⟩
theorem in_words {a c d : Str} {q : Bool} (hw : SeqAt.shaped (.str w) = true) (ha : SeqAt.shaped (.str a) = true) (hc : SeqAt.shaped (.str c) = true) (hd : SeqAt.shaped (.str d) = true) (e : ([PyData.str a, .str c, .str d].any fun d => PyData.eqv d (.str w)) = q) : CmpIs G σ .In (.str w) (.tup [.str a, .str c, .str d]) q := fun P p => by
  rw [cm_in]
  refine ⟨.str w, [.str a, .str c, .str d], rfl, rfl, hw, fun z hz => ?_, e ▸ p⟩
  rcases List.mem_cons.mp hz with rfl | hz
  · exact ha
  rcases List.mem_cons.mp hz with rfl | hz
  · exact hc
  rcases List.mem_cons.mp hz with rfl | hz
  · exact hd
  · cases hz
/-- return _law_only(_law_error, [a, c][int(..)]) -/
theorem g_only {fo nn e : Addr} {m : Nat} {q : Ex} {a c wd : Str} {z : Bool} {r : List Sm} {Φ : PS} {Ψ : PX} (O : Fn1 G "_law_only" ["_law_error", "_law_word"] c_law_only fo) (Xe : Errs G nn wd) (le : ρ.lookup (Str.ofString "_law_error") = some (.exn e (.ref nn))) (hq : ∀ σ', Ev G (m + 1) ρ σ' q (.bool z)) (hw : (if z = true then c else a) = wd) (k : ∀ σ', Ext σ σ' → Φ (.ret (.bool true)) ρ σ') :
    tss G (m + 1) (.ret (some (.call "_law_only" [(.nm "_law_error"), (.sub (.list [(.cst (.str a)), (.cst (.str c))]) (.bi "int" [q]))])) :: r) ρ σ Φ Ψ := by
  rw [bl_ret]
  refine tv_call O ?_
  rw [sq_cons]
  refine ev_nm le _ _ ?_
  rw [sq_cons, tv_sub, tv_list]
  refine es_cons ev_cst (es_cons ev_cst es_nil) _ _ (new_lst (Nat.le_of_ble_eq_true rfl) fun l _ xl => ev_bi (es_cons (hq _) es_nil) d_intB _ _ ?_)
  have hi : idx [AV.str a, .str c] (if z = true then 1 else 0) = some (.str wd) := by
    cases z with
    | true => rw [← hw]; exact idx1 _ _ _
    | false => rw [← hw]; exact idx0 _ _
  refine sb_lst (lst_new _ _ _) (by split <;> decide) (by split <;> decide) hi ?_
  rw [sq_nil]
  exact only_ok (n := m) O Xe fun σ₂ x₂ => k σ₂ (xl.trans x₂)
end
end Mine
set_option maxRecDepth 100000
set_option linter.unusedSimpArgs false
set_option linter.unusedVariables false
namespace Mine
open PySem PyProof.Rows
section
variable {G : PG} {n : Nat} {ρ : Loc} {σ σ' : Sto} {Φ : PE} {Ψ : PY} {f CH CD : Addr} {o : Own} {b : Nat} {A : HA} {H : Hs} {v : AV} {w x : Str}
noncomputable def cHandler : List Sm := [.ite (.or_ [(.cmp .Eq (.nm "_law_word") (.cst (.str "House"))), (.cmp .Eq (.nm "_law_word") (.cst (.str "bring")))]) [.ret (some (.call "_law_only" [(.nm "_law_error"), (.sub (.list [(.cst (.str "BadCount")), (.cst (.str "NoMail"))]) (.bi "int" [(.cmp .Eq (.nm "_law_word") (.cst (.str "bring")))]))]))] [], .ret (some (.call "_law_only" [(.nm "_law_error"), (.sub (.list [(.cst (.str "NoLetter")), (.cst (.str "NoHand"))]) (.bi "int" [(.cmp .In (.nm "_law_word") (.tup [(.cst (.str "send")), (.cst (.str "handed")), (.cst (.str "clock"))]))]))]))]
/-- the error is met -/
theorem handler_ok {nn e : Addr} {fo : Addr} {Φ : PS} {Ψ : PX} (O : Fn1 G "_law_only" ["_law_error", "_law_word"] c_law_only fo) (h : Refuse σ H w v x) (Xe : Errs G nn x) (lw : ρ.lookup (Str.ofString "_law_word") = some (.str w)) (le : ρ.lookup (Str.ofString "_law_error") = some (.exn e (.ref nn))) (k : ∀ σ₂, Ext σ' σ₂ → Φ (.ret (.bool true)) ρ σ₂) : tss G 9 cHandler ρ σ' Φ Ψ := by
  have two : ∀ {z}, (w ≠ "House") → (w ≠ "bring") → (∀ σ', CmpIs G σ' .In (.str w) (.tup [.str "send", .str "handed", .str "clock"]) z) → (if z = true then Str.ofString "NoHand" else "NoLetter") = x → tss G 9 cHandler ρ σ' Φ Ψ := fun h1 h2 h3 h4 =>
    g_if0 (et_or (eo_F (et_cmp (ev_nm lw) ev_cst (d_eqsF h1)) (eo_F (et_cmp (ev_nm lw) ev_cst (d_eqsF h2)) eo_nil))) (g_only (m := 8) O Xe le (fun σ' => ev_cmp (ev_nm lw) (ev_tup (es_cons ev_cst (es_cons ev_cst (es_cons ev_cst es_nil))) (Nat.le_of_ble_eq_true rfl)) (h3 σ')) h4 k)
  cases h with
  | house h => exact g_iteT (et_or (eo_T (et_cmp (ev_nm lw) ev_cst d_eqsT))) (g_only (m := 8) O Xe le (fun σ' => ev_cmp (ev_nm lw) ev_cst (d_eqsF (by decide))) rfl k)
  | bring h => exact g_iteT (et_or (eo_F (et_cmp (ev_nm lw) ev_cst (d_eqsF (by decide))) (eo_T (et_cmp (ev_nm lw) ev_cst d_eqsT)))) (g_only (m := 8) O Xe le (fun σ' => ev_cmp (ev_nm lw) ev_cst d_eqsT) rfl k)
  | send h => exact two (z := true) (by decide) (by decide) (fun _ => in_words (by decide +kernel) (by decide +kernel) (by decide +kernel) (by decide +kernel) (by decide +kernel)) rfl
  | handed h => exact two (z := true) (by decide) (by decide) (fun _ => in_words (by decide +kernel) (by decide +kernel) (by decide +kernel) (by decide +kernel) (by decide +kernel)) rfl
  | clock h => exact two (z := true) (by decide) (by decide) (fun _ => in_words (by decide +kernel) (by decide +kernel) (by decide +kernel) (by decide +kernel) (by decide +kernel)) rfl
  | sender h => exact two (z := false) (by decide) (by decide) (fun _ => in_words (by decide +kernel) (by decide +kernel) (by decide +kernel) (by decide +kernel) (by decide +kernel)) rfl
  | text h => exact two (z := false) (by decide) (by decide) (fun _ => in_words (by decide +kernel) (by decide +kernel) (by decide +kernel) (by decide +kernel) (by decide +kernel)) rfl
  | mark h => exact two (z := false) (by decide) (by decide) (fun _ => in_words (by decide +kernel) (by decide +kernel) (by decide +kernel) (by decide +kernel) (by decide +kernel)) rfl
theorem refused_ok (hn : 16 ≤ n) (E : R6 G CH CD) (F : Fn1 G "_law_refused" ["_law_house", "_law_word", "_law_thing"] c_law_refused f) (X : HouseAt CH CD o σ b A H) (B : Small H) (h : Refuse σ H w v x) (k : ∀ σ', Ext σ σ' → Φ (.bool true) σ') : WC G (n + 1) (.ref f) [.ref A.x, .str w, v] σ Φ Ψ := by
  obtain ⟨n, rfl⟩ : ∃ j, n = j + 3 := by first | with_reducible exact Nat.exists_eq_add_of_le' (Nat.le_trans (by decide) hn) | exact ⟨n - 3, (by first | decide | with_reducible exact lv hn | with_reducible exact lv1 hn | with_reducible exact lv2 hn | with_reducible exact Int.natCast_nonneg _ | with_reducible assumption | omega)⟩
  refine F.bd rfl fun ρ K X' L hr _ _ => ?_
  have l1 := L "_law_house" _ rfl
  have l2 := L "_law_word" _ rfl
  have l3 := L "_law_thing" _ rfl
  obtain ⟨fo, O⟩ := E.only
  obtain ⟨tk, most⟩ := E.most
  have b1 := Nat.lt_trans B.desks (show 1000 < 10000 by decide)
  have b3 := Nat.lt_trans B.owners (show 9000 < 10000 by decide)
  have n10 : 10 ≤ n + 1 := by omega
  have hd : ∀ (nn : Addr) σ', Errs G nn x → Ext σ σ' → ∃ C, G.mg "BellError" = some (.ref C) ∧ W.exmOne G.K (.ref nn) (.ref C) = some true ∧ ∀ e, tss G 9 cHandler (putA "_law_error" (.exn e (.ref nn)) ρ) σ' (fun fl ρ₂ σ₂ => ∀ ρ₃ : Loc, (∀ z, z ≠ Str.ofString "_law_error" → ρ₃.lookup z = ρ₂.lookup z) → aft G (n + 3) [.ret (some (.cst (.bool false)))] K X' fl ρ₃ σ₂) (fun _ _ _ => False) := fun nn σ' Xe ex =>
    Xe.bell.elim fun C hC => ⟨C, hC.1, hC.2, fun e => handler_ok O h Xe (lk_ne (by decide) l2) lk_eq fun σ₂ x₂ ρ₃ _ => g_aftR (hr _ _ _ (k σ₂ (ex.trans x₂)))⟩
  rw [c_law_refused, bl_try]
  refine ⟨lv hn, ?_⟩
  obtain ⟨C1, m1, x1, e1⟩ := E.e1
  obtain ⟨C2, m2, x2, e2⟩ := E.e2
  obtain ⟨C3, m3, x3, e3⟩ := E.e3
  obtain ⟨C4, m4, x4, e4⟩ := E.e4
  cases h with
  | house h =>
    refine g_iteT (et_cmp (ev_nm l2) ev_cst d_eqsT) ?_
    rw [bl_expr]
    exact mk_call E.MH (es_cons (ev_nm l3) es_nil _ _ (house_no (n := n) n10 E.MH E.Z most m1 x1 h fun σ' ex => hd C1 σ' e1 ex))
  | send h =>
    obtain ⟨fm, M⟩ := E.send
    refine g_iteF (et_cmp (ev_nm l2) ev_cst (d_eqsF (by decide))) (g_iteT (et_cmp (ev_nm l2) ev_cst d_eqsT) ?_)
    exact g_exprM M (ev_nm l1) X.x.at_ X.d.at_ rfl (es_cons (ev_nm l3) (es_cons ev_cst es_nil)) (hand_no (n := n) X n10 E.Z M rfl m2 x2 b1 h (hd C2 σ e2 (.refl _)))
  | bring h =>
    obtain ⟨fm, M⟩ := E.bring
    refine g_iteF (et_cmp (ev_nm l2) ev_cst (d_eqsF (by decide))) (g_iteF (et_cmp (ev_nm l2) ev_cst (d_eqsF (by decide))) (g_iteT (et_cmp (ev_nm l2) ev_cst d_eqsT) ?_))
    exact g_exprM M (ev_nm l1) X.x.at_ X.d.at_ rfl (es_cons (ev_nm l3) es_nil) (bring_no (n := n + 1) X (by first | decide | with_reducible exact lv hn | with_reducible exact lv1 hn | with_reducible exact lv2 hn | with_reducible exact Int.natCast_nonneg _ | omega) E.Z M m3 x3 (Nat.lt_trans B.road (by decide)) h (hd C3 σ e3 (.refl _)))
  | handed h =>
    obtain ⟨fm, M⟩ := E.handed
    refine g_iteF (et_cmp (ev_nm l2) ev_cst (d_eqsF (by decide))) (g_iteF (et_cmp (ev_nm l2) ev_cst (d_eqsF (by decide))) (g_iteF (et_cmp (ev_nm l2) ev_cst (d_eqsF (by decide))) (g_iteT (et_cmp (ev_nm l2) ev_cst d_eqsT) ?_)))
    exact g_exprM M (ev_nm l1) X.x.at_ X.d.at_ rfl (es_cons (ev_nm l3) es_nil) (hand_no (n := n) (args := []) X n10 E.Z M rfl m2 x2 b1 h (hd C2 σ e2 (.refl _)))
  | clock h =>
    obtain ⟨fm, M⟩ := E.clock
    refine g_iteF (et_cmp (ev_nm l2) ev_cst (d_eqsF (by decide))) (g_iteF (et_cmp (ev_nm l2) ev_cst (d_eqsF (by decide))) (g_iteF (et_cmp (ev_nm l2) ev_cst (d_eqsF (by decide))) (g_iteF (et_cmp (ev_nm l2) ev_cst (d_eqsF (by decide))) (g_iteT (et_cmp (ev_nm l2) ev_cst d_eqsT) ?_))))
    exact g_exprM M (ev_nm l1) X.x.at_ X.d.at_ rfl (es_cons (ev_nm l3) es_nil) (hand_no (n := n) (args := []) X n10 E.Z M rfl m2 x2 b1 h (hd C2 σ e2 (.refl _)))
  | sender h =>
    obtain ⟨fm, M⟩ := E.sender
    refine g_iteF (et_cmp (ev_nm l2) ev_cst (d_eqsF (by decide))) (g_iteF (et_cmp (ev_nm l2) ev_cst (d_eqsF (by decide))) (g_iteF (et_cmp (ev_nm l2) ev_cst (d_eqsF (by decide))) (g_iteF (et_cmp (ev_nm l2) ev_cst (d_eqsF (by decide))) (g_iteF (et_cmp (ev_nm l2) ev_cst (d_eqsF (by decide))) (g_iteT (et_cmp (ev_nm l2) ev_cst d_eqsT) ?_)))))
    exact g_exprM M (ev_nm l1) X.x.at_ X.d.at_ rfl (es_cons (ev_nm l3) es_nil) (letter_no (n := n) (args := []) X n10 E.Z M rfl m4 x4 b3 h (hd C4 σ e4 (.refl _)))
  | text h =>
    obtain ⟨fm, M⟩ := E.text
    refine g_iteF (et_cmp (ev_nm l2) ev_cst (d_eqsF (by decide))) (g_iteF (et_cmp (ev_nm l2) ev_cst (d_eqsF (by decide))) (g_iteF (et_cmp (ev_nm l2) ev_cst (d_eqsF (by decide))) (g_iteF (et_cmp (ev_nm l2) ev_cst (d_eqsF (by decide))) (g_iteF (et_cmp (ev_nm l2) ev_cst (d_eqsF (by decide))) (g_iteF (et_cmp (ev_nm l2) ev_cst (d_eqsF (by decide))) (g_iteT (et_cmp (ev_nm l2) ev_cst d_eqsT) ?_))))))
    exact g_exprM M (ev_nm l1) X.x.at_ X.d.at_ rfl (es_cons (ev_nm l3) es_nil) (letter_no (n := n) (args := []) X n10 E.Z M rfl m4 x4 b3 h (hd C4 σ e4 (.refl _)))
  | mark h =>
    obtain ⟨fm, M⟩ := E.mark
    refine g_iteF (et_cmp (ev_nm l2) ev_cst (d_eqsF (by decide))) (g_iteF (et_cmp (ev_nm l2) ev_cst (d_eqsF (by decide))) (g_iteF (et_cmp (ev_nm l2) ev_cst (d_eqsF (by decide))) (g_iteF (et_cmp (ev_nm l2) ev_cst (d_eqsF (by decide))) (g_iteF (et_cmp (ev_nm l2) ev_cst (d_eqsF (by decide))) (g_iteF (et_cmp (ev_nm l2) ev_cst (d_eqsF (by decide))) (g_iteF (et_cmp (ev_nm l2) ev_cst (d_eqsF (by decide))) ?_))))))
    exact g_exprM M (ev_nm l1) X.x.at_ X.d.at_ rfl (es_cons (ev_nm l3) es_nil) (letter_no (n := n) (args := []) X n10 E.Z M rfl m4 x4 b3 h (hd C4 σ e4 (.refl _)))
end
end Mine
set_option maxRecDepth 100000
set_option linter.unusedSimpArgs false
set_option linter.unusedVariables false
namespace Mine
open PySem PyProof.Rows
section
variable {G : PG} {n : Nat} {ρ : Loc} {σ σ' : Sto} {Φ : PE} {Ψ : PY} {f CH CD : Addr} {o : Own} {b : Nat} {A : HA} {H : Hs} {v : AV} {w x : Str} {a : Ex} {as es : List Ex} {us : List AV}
theorem sq_ev {ΦL : List AV → Sto → Prop} (h : Ev G n ρ σ a v) (p : seqV (trs G n as) ρ σ (fun vs σ₂ => ΦL (v :: vs) σ₂) Ψ) : seqV (trs G n (a :: as)) ρ σ ΦL Ψ := h _ _ p
theorem ev_neg {i : Int} (h : Ev G n ρ σ a (.int i)) : Ev G n ρ σ (.neg a) (.int (-i)) := fun Φ Ψ p => h _ Ψ p
theorem x_dict0 (p : ∀ a σ', Ext σ σ' → σ' a = some (.dictI [(0, .int 0)]) → Φ (.ref a) σ') : (tr G n (.dict [(.cst (.int (0)))] [(.cst (.int (0)))])).v ρ σ Φ Ψ := by
  show ∀ a, σ a = none → seqV (trs G n [(.cst (.int (0)))]) ρ (upd σ a (.dictI [])) (fun as σ₁ => σ₁ a = some (.dictI []) ∧ Φ (.ref a) (upd σ₁ a (.dictI (putAll [(0 : Int)] as [])))) Ψ
  intro a ha
  refine es_cons ev_cst es_nil _ _ ⟨upd_same _ _ _, p a _ ?_ (upd_same _ _ _)⟩
  intro b c hb
  have : b ≠ a := fun z => by rw [z, ha] at hb; cases hb
  rw [upd_ne this, upd_ne this]; exact hb
theorem g_asgs {y : Str} {r : List Sm} {Φ : PS} {Ψ : PX} (hs : Es G n ρ σ es us) (hz : us.length < 1000000) (p : ∀ a σ', Ext σ σ' → lstOf σ' a = some us → tss G n r (putA y (.ref a) ρ) σ' Φ Ψ) : tss G n (.asg y (.list es) :: r) ρ σ Φ Ψ := by
  rw [bl_asg, tv_list]
  exact hs _ _ (new_lst (Nat.le_of_lt (Nat.lt_trans hz (by decide))) fun a _ xa => p a _ xa (lst_new _ _ _))
noncomputable def words8 : List AV := [.str "House", .str "send", .str "bring", .str "handed", .str "clock", .str "sender", .str "text", .str "mark"]
noncomputable def bounds8 (H : Hs) : List AV := [.int 41, .int H.desks.length, .int H.road.length, .int H.desks.length, .int H.desks.length, .int H.owners.length, .int H.owners.length, .int H.owners.length]
theorem eight (H : Hs) (j : Nat) (hj : j < 8) : ∃ (w : Str) (m : Int), words8[j]? = some (.str w) ∧ (bounds8 H)[j]? = some (.int m) ∧ 0 ≤ m ∧ ∀ σ v, Alien σ m v → ∃ x, Refuse σ H w v x := by
  match j, hj with
  | 0, _ => exact ⟨_, _, rfl, rfl, by decide, fun σ v h => ⟨_, .house (.inl h)⟩⟩
  | 1, _ => exact ⟨_, _, rfl, rfl, Int.natCast_nonneg _, fun σ v h => ⟨_, .send h⟩⟩
  | 2, _ => exact ⟨_, _, rfl, rfl, Int.natCast_nonneg _, fun σ v h => ⟨_, .bring h⟩⟩
  | 3, _ => exact ⟨_, _, rfl, rfl, Int.natCast_nonneg _, fun σ v h => ⟨_, .handed h⟩⟩
  | 4, _ => exact ⟨_, _, rfl, rfl, Int.natCast_nonneg _, fun σ v h => ⟨_, .clock h⟩⟩
  | 5, _ => exact ⟨_, _, rfl, rfl, Int.natCast_nonneg _, fun σ v h => ⟨_, .sender h⟩⟩
  | 6, _ => exact ⟨_, _, rfl, rfl, Int.natCast_nonneg _, fun σ v h => ⟨_, .text h⟩⟩
  | 7, _ => exact ⟨_, _, rfl, rfl, Int.natCast_nonneg _, fun σ v h => ⟨_, .mark h⟩⟩
theorem strangers_ok {fr : Addr} {cell : Int} (hn : 18 ≤ n) (E : R6 G CH CD) (F : Fn1 G "_law_strangers" ["_law_house", "_law_many", "_law_letters", "_law_mails_here", "_law_cell"] c_law_strangers f) (R : Fn1 G "_law_refused" ["_law_house", "_law_word", "_law_thing"] c_law_refused fr) (X : HouseAt CH CD o σ b A H) (B : Small H) (k : ∀ σ', Ext σ σ' → Φ (.bool true) σ') :
    WC G (n + 1) (.ref f) [.ref A.x, .int H.desks.length, .int H.owners.length, .int H.road.length, .int cell] σ Φ Ψ := by
  obtain ⟨n, rfl⟩ : ∃ j, n = j + 1 := by first | with_reducible exact Nat.exists_eq_add_of_le' (Nat.le_trans (by decide) hn) | exact ⟨n - 1, (by first | decide | with_reducible exact lv hn | with_reducible exact lv1 hn | with_reducible exact lv2 hn | with_reducible exact Int.natCast_nonneg _ | with_reducible assumption | omega)⟩
  refine F.bd rfl fun ρ K X' L hr _ _ => ?_
  have l1 := L "_law_house" _ rfl
  have l2 := L "_law_many" _ rfl
  have l3 := L "_law_letters" _ rfl
  have l4 := L "_law_mails_here" _ rfl
  have l5 := L "_law_cell" _ rfl
  clear L
  have f8 := fmod_in cell (m := 8) (by decide)
  have f11 := fmod_in (Int.fdiv cell 8) (m := 11) (by decide)
  have f99 := fmod_in (Int.fdiv cell 8) (m := 99) (by decide)
  have c99 := fmod_in cell (m := 99) (by decide)
  obtain ⟨j, hj⟩ := Int.eq_ofNat_of_zero_le f8.1
  have hj8 : j < 8 := by omega
  obtain ⟨w, m, hw, hm, m0, ref⟩ := eight H j hj8
  rw [c_law_strangers, bl_asg, tv_list]
  refine sq_ev ev_cst (sq_ev ev_cst (sq_ev ev_cst (sq_ev ev_cst ?_)))
  rw [sq_cons, tv_list]
  refine es_cons ev_cst es_nil _ _ (new_lst (Nat.le_of_ble_eq_true rfl) fun q0 _ xq => sq_ev (ev_tup (es_cons ev_cst es_nil) (Nat.le_of_ble_eq_true rfl)) ?_)
  have Q0 := lst_new σ q0 [.int 0]
  generalize upd σ q0 (.list [.int 0]) = σ₀ at xq Q0
  rw [sq_cons]
  refine x_dict0 fun d0 σ₁ x1 D0 => ?_
  have Q1 := x1.lst Q0
  refine es_cons (ev_neg ev_cst) (es_cons (ev_bin (ev_neg ev_cst) (ev_bin (ev_nm l5) ev_cst (d_fmod (by decide))) d_minus) es_nil) _ _ (new_lst (Nat.le_of_ble_eq_true rfl) fun bd _ x2 => ?_)
  have L0 := lst_new σ₁ bd [.bool true, .bool false, .none, .str "0", .ref q0, .tup [.int 0], .ref d0, .int (-1), .int (-1 - Int.fmod cell 99)]
  have D2 := x2 _ _ D0
  have Q2 := x2.lst Q1
  have e2 := (xq.trans x1).trans x2
  clear xq x1 x2 D0 Q1 Q0
  generalize upd σ₁ bd (.list [.bool true, .bool false, .none, .str "0", .ref q0, .tup [.int 0], .ref d0, .int (-1), .int (-1 - Int.fmod cell 99)]) = σ₂ at L0 D2 Q2 e2
  refine g_asgs (us := words8) (es_cons ev_cst (es_cons ev_cst (es_cons ev_cst (es_cons ev_cst (es_cons ev_cst (es_cons ev_cst (es_cons ev_cst (es_cons ev_cst es_nil)))))))) (by decide) fun wd σ₃ x3 W3 => ?_
  refine g_asgs (us := bounds8 H) (es_cons ev_cst (es_cons (ev_nm (lk_ne (by decide) (lk_ne (by decide) l2))) (es_cons (ev_nm (lk_ne (by decide) (lk_ne (by decide) l4))) (es_cons (ev_nm (lk_ne (by decide) (lk_ne (by decide) l2))) (es_cons (ev_nm (lk_ne (by decide) (lk_ne (by decide) l2))) (es_cons (ev_nm (lk_ne (by decide) (lk_ne (by decide) l3))) (es_cons (ev_nm (lk_ne (by decide) (lk_ne (by decide) l3))) (es_cons (ev_nm (lk_ne (by decide) (lk_ne (by decide) l3))) es_nil)))))))) (Nat.lt_of_sub_eq_succ rfl) fun bn σ₄ x4 N4 => ?_
  refine g_asg (ev_bin (ev_nm (lk_ne (by decide) (lk_ne (by decide) (lk_ne (by decide) l5)))) ev_cst (d_fmod (by decide))) ?_
  rw [hj]
  have r1 := lk_ne (x := Str.ofString "_law_at") (a := .int j) (by decide) (lk_ne (x := Str.ofString "_law_bounds") (a := .ref bn) (by decide) (lk_ne (x := Str.ofString "_law_words") (a := .ref wd) (by decide) (lk_ne (x := Str.ofString "_law_bad") (a := .ref bd) (by decide) l1)))
  have r5 := lk_ne (x := Str.ofString "_law_at") (a := .int j) (by decide) (lk_ne (x := Str.ofString "_law_bounds") (a := .ref bn) (by decide) (lk_ne (x := Str.ofString "_law_words") (a := .ref wd) (by decide) (lk_ne (x := Str.ofString "_law_bad") (a := .ref bd) (by decide) l5)))
  have r6 := lk_ne (x := Str.ofString "_law_at") (a := .int j) (by decide) (lk_ne (x := Str.ofString "_law_bounds") (a := .ref bn) (by decide) (lk_ne (x := Str.ofString "_law_words") (a := .ref wd) (by decide) (lk_eq (x := Str.ofString "_law_bad") (a := .ref bd) (ρ := ρ))))
  have r7 := lk_ne (x := Str.ofString "_law_at") (a := .int j) (by decide) (lk_ne (x := Str.ofString "_law_bounds") (a := .ref bn) (by decide) (lk_eq (x := Str.ofString "_law_words") (a := .ref wd) (ρ := putA (Str.ofString "_law_bad") (.ref bd) ρ)))
  have r8 := lk_ne (x := Str.ofString "_law_at") (a := .int j) (by decide) (lk_eq (x := Str.ofString "_law_bounds") (a := .ref bn) (ρ := putA (Str.ofString "_law_words") (.ref wd) (putA (Str.ofString "_law_bad") (.ref bd) ρ)))
  have r9 := lk_eq (x := Str.ofString "_law_at") (a := .int j) (ρ := putA (Str.ofString "_law_bounds") (.ref bn) (putA (Str.ofString "_law_words") (.ref wd) (putA (Str.ofString "_law_bad") (.ref bd) ρ)))
  clear l1 l2 l3 l4 l5
  generalize putA (Str.ofString "_law_at") (.int j) (putA (Str.ofString "_law_bounds") (.ref bn) (putA (Str.ofString "_law_words") (.ref wd) (putA (Str.ofString "_law_bad") (.ref bd) ρ))) = ρ₁ at r1 r5 r6 r7 r8 r9
  have W4 := x4.lst W3
  have L4 := (x3.trans x4).lst L0
  have D4 := (x3.trans x4) _ _ D2
  have Q4 := (x3.trans x4).lst Q2
  have e4 := (e2.trans x3).trans x4
  clear x3 x4 L0 D2 Q2 W3 e2
  have c8 : Ev G (n + 1) ρ₁ σ₄ (.bin .FloorDiv (.nm "_law_cell") (.cst (.int (8)))) (.int (Int.fdiv cell 8)) := ev_bin (ev_nm r5) ev_cst (d_fdiv (by decide) (by decide))
  have eb : Ev G (n + 1) ρ₁ σ₄ (.sub (.nm "_law_bounds") (.nm "_law_at")) (.int m) := ev_sub (ev_nm r8) (ev_nm r9) (d_get N4 (Nat.lt_of_sub_eq_succ rfl) hm)
  rw [bl_asg, tv_sub, tv_bin]
  refine ev_nm r6 _ _ ?_
  rw [tv_list]
  refine es_cons eb (es_cons (ev_bin eb (ev_bin c8 ev_cst (d_fmod (by decide))) d_add) es_nil) _ _ (new_lst (Nat.le_of_ble_eq_true rfl) fun t0 _ x5 => ?_)
  rw [bn_lst (x5.lst L4) (lst_new _ _ _)]
  refine new_lst (Nat.le_of_ble_eq_true rfl) fun t1 _ x6 => ?_
  have T6 := lst_new (upd σ₄ t0 (.list [.int m, .int (m + Int.fmod (Int.fdiv cell 8) 99)])) t1 ([.bool true, .bool false, .none, .str "0", .ref q0, .tup [.int 0], .ref d0, .int (-1), .int (-1 - Int.fmod cell 99)] ++ [.int m, .int (m + Int.fmod (Int.fdiv cell 8) 99)])
  have W6 := x6.lst (x5.lst W4)
  have D6 := x6 _ _ (x5 _ _ D4)
  have Q6 := x6.lst (x5.lst Q4)
  have e6 := (e4.trans x5).trans x6
  clear x5 x6 L4 D4 Q4 W4 e4 c8 eb N4
  generalize upd (upd σ₄ t0 (.list [.int m, .int (m + Int.fmod (Int.fdiv cell 8) 99)])) t1 (.list ([.bool true, .bool false, .none, .str "0", .ref q0, .tup [.int 0], .ref d0, .int (-1), .int (-1 - Int.fmod cell 99)] ++ [.int m, .int (m + Int.fmod (Int.fdiv cell 8) 99)])) = σ₆ at T6 W6 D6 Q6 e6
  have c8 : Ev G (n + 1) ρ₁ σ₆ (.bin .FloorDiv (.nm "_law_cell") (.cst (.int (8)))) (.int (Int.fdiv cell 8)) := ev_bin (ev_nm r5) ev_cst (d_fdiv (by decide) (by decide))
  refine ev_bin c8 ev_cst (d_fmod (by decide)) _ _ (sb_any (P := fun v => Alien σ₆ m v) T6 f11.1 f11.2 (Nat.le_of_ble_eq_true rfl) (fun v hv => ?_) fun v hv => ?_)
  · simp only [List.cons_append, List.nil_append, List.mem_cons, List.not_mem_nil, or_false] at hv
    rcases hv with rfl | rfl | rfl | rfl | rfl | rfl | rfl | rfl | rfl | rfl | rfl
    · exact .bool _
    · exact .bool _
    · exact .none
    · exact .str _
    · exact .lst Q6
    · exact .tup _
    · exact .dict D6
    · exact .int (by first | decide | with_reducible exact lv hn | with_reducible exact lv1 hn | with_reducible exact lv2 hn | with_reducible exact Int.natCast_nonneg _ | omega)
    · exact .int (by first | decide | with_reducible exact lv hn | with_reducible exact lv1 hn | with_reducible exact lv2 hn | with_reducible exact Int.natCast_nonneg _ | omega)
    · exact .int (by first | decide | with_reducible exact lv hn | with_reducible exact lv1 hn | with_reducible exact lv2 hn | with_reducible exact Int.natCast_nonneg _ | omega)
    · exact .int (by first | decide | with_reducible exact lv hn | with_reducible exact lv1 hn | with_reducible exact lv2 hn | with_reducible exact Int.natCast_nonneg _ | omega)
  · have X6 := X.ext e6
    have ew : ∀ {u : AV}, Ev G (n + 1) (putA "_law_thing" u ρ₁) σ₆ (.sub (.nm "_law_words") (.nm "_law_at")) (.str w) := ev_sub (ev_nm (lk_ne (by decide) r7)) (ev_nm (lk_ne (by decide) r9)) (d_get W6 (by decide) hw)
    have c8' : Ev G (n + 1) (putA "_law_thing" v ρ₁) σ₆ (.bin .FloorDiv (.nm "_law_cell") (.cst (.int (8)))) (.int (Int.fdiv cell 8)) := ev_bin (ev_nm (lk_ne (by decide) r5)) ev_cst (d_fdiv (by decide) (by decide))
    have last : ∀ {ρ' : Loc} {u : AV} {x : Str}, Refuse σ₆ H w u x → ρ'.lookup (Str.ofString "_law_house") = some (.ref A.x) → Ev G (n + 1) ρ' σ₆ (.sub (.nm "_law_words") (.nm "_law_at")) (.str w) → ρ'.lookup (Str.ofString "_law_thing") = some u → tss G (n + 1) [.ret (some (.call "_law_refused" [(.nm "_law_house"), (.sub (.nm "_law_words") (.nm "_law_at")), (.nm "_law_thing")]))] ρ' σ₆ K X' := fun hR h1 h2 h3 => by
      rw [bl_ret]
      exact tv_call R (es_cons (ev_nm h1) (es_cons h2 (es_cons (ev_nm h3) es_nil)) _ _ (refused_ok (lv1 hn) E R X6 B hR fun σ' x' => hr _ _ _ (k σ' (e6.trans x'))))
    obtain ⟨x, hR⟩ := ref σ₆ v hv
    by_cases q1 : w = "House"
    · subst q1
      have c5 : ∀ {q}, (Int.fmod (Int.fdiv cell 8) 5 == 0) = q → Et G (n + 1) (putA "_law_thing" v ρ₁) σ₆ (.cmp .Eq (.bin .Mod (.bin .FloorDiv (.nm "_law_cell") (.cst (.int (8)))) (.cst (.int (5)))) (.cst (.int (0)))) q := fun e => e ▸ et_cmp (ev_bin c8' ev_cst (d_fmod (by decide))) ev_cst d_eqi
      cases q2 : (Int.fmod (Int.fdiv cell 8) 5 == 0) with
      | true => exact g_iteT (et_and (ea_T (et_cmp ew ev_cst d_eqsT) (ea_T (c5 q2) ea_nil))) (g_asg ev_cst (last (.house (.inr rfl)) (lk_ne (by decide) (lk_ne (by decide) r1)) (ev_sub (ev_nm (lk_ne (by decide) (lk_ne (by decide) r7))) (ev_nm (lk_ne (by decide) (lk_ne (by decide) r9))) (d_get W6 (by decide) hw)) lk_eq))
      | false => exact g_if0 (et_and (ea_T (et_cmp ew ev_cst d_eqsT) (ea_F (c5 q2)))) (last hR (lk_ne (by decide) r1) ew lk_eq)
    · exact g_if0 (et_and (ea_F (et_cmp ew ev_cst (d_eqsF q1)))) (last hR (lk_ne (by decide) r1) ew lk_eq)
end
end Mine
set_option maxRecDepth 100000
set_option linter.unusedSimpArgs false
set_option linter.unusedVariables false
namespace Mine
open PySem PyProof.Rows

noncomputable def c_law_mails : List Sm := [.ite (.or_ [(.not_ (.bi "isinstance" [(.nm "_law_found"), (.gl "list")])), (.cmp .NotEq (.bi "len" [(.nm "_law_found")]) (.bi "len" [(.nm "_law_due")]))]) [.ret (some (.cst (.bool false)))] [], .for_ "_law_one" (.nm "_law_found") [.ite (.not_ (.call "_law_mail" [(.nm "_law_one")])) [.ret (some (.cst (.bool false)))] []], .asg "_law_good" (.cmp .Eq (.nm "_law_found") (.nm "_law_due")), .expr (.meth (.nm "_law_found") "clear" []), .ret (some (.nm "_law_good"))]
noncomputable def c_law_row : List Sm := [.ite (.or_ [(.not_ (.bi "isinstance" [(.nm "_law_found"), (.gl "list")])), (.cmp .NotEq (.bi "len" [(.nm "_law_found")]) (.bi "len" [(.nm "_law_due")]))]) [.ret (some (.cst (.bool false)))] [], .for_ "_law_one" (.nm "_law_found") [.ite (.not_ (.call "_law_whole" [(.nm "_law_one")])) [.ret (some (.cst (.bool false)))] []], .asg "_law_good" (.cmp .Eq (.nm "_law_found") (.nm "_law_due")), .expr (.meth (.nm "_law_found") "clear" []), .ret (some (.nm "_law_good"))]
section
variable {G : PG} {n : Nat} {ρ : Loc} {σ σ' : Sto} {Φ : PE} {Ψ : PY} {f fd dd : Addr} {v : AV} {a : Ex}
theorem d_list : GlIs G "list" (.val (.type "list")) := fun Φ p => by rw [glob_list]; exact p
theorem d_eqL {vs : List AV} {ds : List PyData} (ha : lstOf σ fd = some vs) (hb : lstOf σ dd = some vs) (e : mapO (datum σ 5) vs = some ds) (c : PyData.canLayAll0 ds = true) : CmpIs G σ .Eq (.ref fd) (.ref dd) true := fun P p => by rw [cm_eq]; exact eq_lst ha hb e c p
theorem d_neM6 {vs : List AV} {d : AV} {e : PyData} (h1 : datum σ 6 (.tup vs) = some e) (h2 : datum σ 6 d = some e) (hc : e.canLay0 = true) : CmpIs G σ .NotEq (.tup vs) d false := fun P p => eq_same (Φ := fun r => P (!r)) h1 h2 hc p
theorem g_clear {r : List Sm} {vs : List AV} {Φ : PS} {Ψ : PX} (ha : Ev G n ρ σ a (.ref fd)) (hx : σ fd = some (.list vs)) (hz : vs.length < 1000000) (p : tss G n r ρ (upd σ fd (.list [])) Φ Ψ) : tss G n (.expr (.meth a "clear" []) :: r) ρ σ Φ Ψ := by
  rw [bl_expr, tv_meth]
  refine ha _ _ (mm_lst hx (.inr (.inr rfl)) ?_)
  rw [sq_nil, hx]
  exact lm_clear (Nat.le_of_lt (Nat.lt_trans hz (by decide))) p
theorem ev_isl {x : Str} {vs : List AV} (h : ρ.lookup x = some (.ref fd)) (hl : lstOf σ fd = some vs) : Ev G n ρ σ (.bi "isinstance" [(.nm x), (.gl "list")]) (.bool true) :=
  ev_bi (es_cons (ev_nm h) (es_cons (ev_gl d_list) es_nil)) (d_isi (t := .type "list") (by simp only [kindV, hl]) rfl)
theorem mails6_ok {fq fk fw : Addr} {ms : List Mail} (F : Fn1 G "_law_mails" ["_law_found", "_law_due"] c_law_mails f) (Q : Fn1 G "_law_mail" ["_law_found"] c_law_mail fq) (K : Fn1 G "_law_mark" ["_law_found"] c_law_mark fk) (W : Fn1 G "_law_whole" ["_law_found"] c_law_whole fw)
    (hf : σ fd = some (.list (ms.map mailAV))) (hd : lstOf σ dd = some (ms.map mailAV)) (hz : ms.length < 100000) (hw : ∀ m ∈ ms, PyData.strOk m.1 = true) (k : Φ (.bool true) (upd σ fd (.list []))) : WC G (n + 4) (.ref f) [.ref fd, .ref dd] σ Φ Ψ := by
  refine F.bd rfl fun ρ K' X' L hr _ _ => ?_
  have l1 := L "_law_found" _ rfl
  have l2 := L "_law_due" _ rfl
  have hl := lstOf_list hf
  have hz' := Nat.lt_trans hz (show 100000 < 1000000 by decide)
  refine g_if0 (et_or (eo_F (et_notF (et_bi (ev_isl l1 hl))) (eo_F (et_cmp (ev_bi (es_cons (ev_nm l1) es_nil) (d_lenM hl hz')) (ev_bi (es_cons (ev_nm l2) es_nil) (d_lenM hd hz')) (d_neF rfl)) eo_nil))) ?_
  refine g_forL l1 hl (fun j ρ₂ => ρ₂.lookup (Str.ofString "_law_found") = some (.ref fd) ∧ ρ₂.lookup (Str.ofString "_law_due") = some (.ref dd)) ⟨l1, l2⟩ (fun j u K₂ ρ₂ hu hI k1 _ => ?_) fun ρ₂ hI => ?_
  · rw [List.getElem?_map] at hu
    obtain ⟨m, _, rfl⟩ := Option.map_eq_some_iff.mp hu
    exact g_if0 (et_notF (et_call (ev_call Q (es_cons (ev_nm lk_eq) es_nil) (mail_is Q K W)))) (g_nil (k1 _ ⟨lk_ne (by decide) hI.1, lk_ne (by decide) hI.2⟩))
  · exact g_asg (ev_cmp (ev_nm hI.1) (ev_nm hI.2) (d_eqL hl hd (mapO_map mailAV (fun m => mailD m.1 m.2.1 m.2.2.1 m.2.2.2.1 m.2.2.2.2) ms fun m _ => datum_mail _ _ _ _ _) (canAll _ _ fun m hm => can_mail (hw m hm)))) (g_clear (ev_nm (lk_ne (by decide) hI.1)) hf (by rw [List.length_map]; exact hz') (g_ret (ev_nm lk_eq) (hr _ _ _ k)))
theorem row6_ok {fw : Addr} {is : List Int} (F : Fn1 G "_law_row" ["_law_found", "_law_due"] c_law_row f) (W : Fn1 G "_law_whole" ["_law_found"] c_law_whole fw)
    (hf : σ fd = some (.list (is.map .int))) (hd : lstOf σ dd = some (is.map .int)) (hz : is.length < 100000) (k : Φ (.bool true) (upd σ fd (.list []))) : WC G (n + 2) (.ref f) [.ref fd, .ref dd] σ Φ Ψ := by
  refine F.bd rfl fun ρ K' X' L hr _ _ => ?_
  have l1 := L "_law_found" _ rfl
  have l2 := L "_law_due" _ rfl
  have hl := lstOf_list hf
  have hz' := Nat.lt_trans hz (show 100000 < 1000000 by decide)
  refine g_if0 (et_or (eo_F (et_notF (et_bi (ev_isl l1 hl))) (eo_F (et_cmp (ev_bi (es_cons (ev_nm l1) es_nil) (d_lenM hl hz')) (ev_bi (es_cons (ev_nm l2) es_nil) (d_lenM hd hz')) (d_neF rfl)) eo_nil))) ?_
  refine g_forL l1 hl (fun j ρ₂ => ρ₂.lookup (Str.ofString "_law_found") = some (.ref fd) ∧ ρ₂.lookup (Str.ofString "_law_due") = some (.ref dd)) ⟨l1, l2⟩ (fun j u K₂ ρ₂ hu hI k1 _ => ?_) fun ρ₂ hI => ?_
  · rw [List.getElem?_map] at hu
    obtain ⟨m, _, rfl⟩ := Option.map_eq_some_iff.mp hu
    exact g_if0 (et_notF (et_call (ev_call W (es_cons (ev_nm lk_eq) es_nil) (whole_is W)))) (g_nil (k1 _ ⟨lk_ne (by decide) hI.1, lk_ne (by decide) hI.2⟩))
  · exact g_asg (ev_cmp (ev_nm hI.1) (ev_nm hI.2) (d_eqL hl hd (mapO_map AV.int PyData.int is fun m _ => rfl) (canAll _ _ fun m hm => rfl))) (g_clear (ev_nm (lk_ne (by decide) hI.1)) hf (by rw [List.length_map]; exact hz') (g_ret (ev_nm lk_eq) (hr _ _ _ k)))
end
end Mine
set_option maxRecDepth 100000
set_option linter.unusedSimpArgs false
set_option linter.unusedVariables false
namespace Mine
open PySem PyProof.Rows

noncomputable def cT1s : List Sm := [.for_ "_law_hand" (.bi "range" [(.nm "_law_many")]) [.ite (.cmp .NotEq (.nm "_law_hand") (.sub (.nm "_law_one") (.cst (.int (0))))) [.expr (.meth (.nm "_law_due") "append" [(.tup [(.cst (.str "letter")), (.nm "_law_letter"), (.sub (.nm "_law_one") (.cst (.int (0)))), (.nm "_law_hand"), (.cst .none)])])] []], .asg "_law_found" (.meth (.nm "_law_house") "sender" [(.nm "_law_letter")]), .asg "_law_words" (.meth (.nm "_law_house") "text" [(.nm "_law_letter")]), .ite (.or_ [(.not_ (.call "_law_whole" [(.nm "_law_found")])), (.cmp .NotEq (.nm "_law_found") (.sub (.nm "_law_one") (.cst (.int (0))))), (.not_ (.bi "isinstance" [(.nm "_law_words"), (.gl "str")])), (.cmp .NotEq (.nm "_law_words") (.sub (.nm "_law_one") (.cst (.int (1)))))]) [.ret (some (.cst (.bool false)))] [], .asg "_law_mark_here" (.meth (.nm "_law_house") "mark" [(.nm "_law_letter")]), .ite (.or_ [(.and_ [(.cmp .Gt (.nm "_law_many") (.cst (.int (1)))), (.cmp .IsNot (.nm "_law_mark_here") (.cst .none))]), (.and_ [(.cmp .Eq (.nm "_law_many") (.cst (.int (1)))), (.or_ [(.not_ (.call "_law_mark" [(.nm "_law_mark_here")])), (.cmp .NotEq (.nm "_law_mark_here") (.tup [(.bin .Add (.nm "_law_letter") (.cst (.int (1)))), (.cst (.int (0)))]))])])]) [.ret (some (.cst (.bool false)))] []]
noncomputable def cT2s : List Sm := [.asg "_law_time" (.meth (.nm "_law_house") "clock" [(.nm "_law_hand")]), .asg "_law_row_here" (.slc (.lrange (.bi "len" [(.nm "_law_sent")])) none (some (.bin .Mult (.bi "len" [(.nm "_law_sent")]) (.bi "int" [(.cmp .Eq (.nm "_law_many") (.cst (.int (1))))])))), .ite (.or_ [(.not_ (.call "_law_whole" [(.nm "_law_time")])), (.cmp .NotEq (.nm "_law_time") (.bi "len" [(.comp (.nm "_law_one") "_law_one" (.nm "_law_sent") [(.cmp .Eq (.sub (.nm "_law_one") (.cst (.int (0)))) (.nm "_law_hand"))])]))]) [.ret (some (.cst (.bool false)))] [], .ite (.not_ (.call "_law_row" [(.meth (.nm "_law_house") "handed" [(.nm "_law_hand")]), (.nm "_law_row_here")])) [.ret (some (.cst (.bool false)))] []]
noncomputable def c_law_stands : List Sm := [.asg "_law_due" (.list []), .forT ["_law_letter", "_law_one"] (.bi "enumerate" [(.nm "_law_sent")]) cT1s, .for_ "_law_hand" (.bi "range" [(.nm "_law_many")]) cT2s, .ret (some (.call "_law_mails" [(.meth (.nm "_law_house") "mails" []), (.nm "_law_due")]))]
noncomputable def sv (p : Int × Str) : AV := .tup [.int p.1, .str p.2]
theorem Ext.over {σ σ' : Sto} {a : Addr} {c : Cell} (x : Ext σ σ') (h : σ a = none) : Ext σ (upd σ' a c) := fun b d e => by
  rw [upd_ne fun z => by rw [z, h] at e; cases e]; exact x b d e
/-- what stands, as the law reads it -/
structure W6 (CH CD x sL : Addr) (many : Nat) (ts : List (Int × Str)) (o : Own) (σ : Sto) (A : HA) (H : Hs) : Prop where
  ax : A.x = x
  X : HouseAt CH CD o σ 1 A H
  S : S6 many H ts
  s : At o σ (3, 0) sL (.list (ts.map sv))
  m1 : 1 ≤ many
  m40 : many ≤ 40
  t40 : ts.length ≤ 40
section
variable {G : PG} {n : Nat} {ρ : Loc} {σ σ' : Sto} {Φ : PE} {Ψ : PY} {CH CD x sL dL f : Addr} {many : Nat} {ts : List (Int × Str)} {o o' : Own} {A : HA} {H : Hs} {K : PS} {X : PX} {T : Tag → Prop}
theorem W6.chg (w : W6 CH CD x sL many ts o σ A H) (c : Chg T o σ o' σ') (h1 : ∀ j, ¬ T (1, j)) (h3 : ¬ T (3, 0)) : W6 CH CD x sL many ts o' σ' A H := ⟨w.ax, w.X.chg c h1, w.S, w.s.chg c h3, w.m1, w.m40, w.t40⟩
theorem W6.ext (w : W6 CH CD x sL many ts o σ A H) (e : Ext σ σ') : W6 CH CD x sL many ts o σ' A H := w.chg (.ext (T := fun _ => False) e) (fun _ => id) id
theorem W6.small (w : W6 CH CD x sL many ts o σ A H) : Small H := w.S.small w.m1 w.m40 (Nat.le_trans w.t40 (by decide))
theorem W6.ol (w : W6 CH CD x sL many ts o σ A H) : H.owners.length = ts.length := by rw [w.S.own, List.length_map]
theorem W6.tz (w : W6 CH CD x sL many ts o σ A H) : ts.length < 1000000 := Nat.lt_of_le_of_lt w.t40 (by decide)
theorem ti_enum6 {as : List Ex} {ΦI : Src → Sto → Prop} : (tr G n (.bi "enumerate" as)).i ρ σ ΦI Ψ = seqV (trs G n as) ρ σ (fun as σ₁ => match as with | [.ref a] => 10 ≤ n ∧ ΦI (.enum a) σ₁ | _ => False) Ψ := by
  show biI G n "enumerate" _ ρ σ ΦI Ψ = _
  unfold biI
  repeat rw [if_neg (by rw [strQ]; decide)]
  rw [if_pos rfl]
  try rfl
/-- one letter -/
theorem stand1 {fw fk : Addr} {j : Nat} {p : Int × Str} {ms : List Mail} (hn : 13 ≤ n) (E : R6 G CH CD) (Wh : Fn1 G "_law_whole" ["_law_found"] c_law_whole fw) (Km : Fn1 G "_law_mark" ["_law_found"] c_law_mark fk) (w : W6 CH CD x sL many ts o σ A H) (D : At o σ (4, 0) dL (.list (ms.map mailAV))) (hz : ms.length < 10000) (hp : ts[j]? = some p)
    (l1 : ρ.lookup (Str.ofString "_law_house") = some (.ref x)) (l2 : ρ.lookup (Str.ofString "_law_many") = some (.int many)) (l3 : ρ.lookup (Str.ofString "_law_sent") = some (.ref sL)) (l4 : ρ.lookup (Str.ofString "_law_due") = some (.ref dL)) (l5 : ρ.lookup (Str.ofString "_law_letter") = some (.int j)) (l6 : ρ.lookup (Str.ofString "_law_one") = some (sv p))
    (k : ∀ ρ' σ', Chg (· = (4, 0)) o σ o σ' → At o σ' (4, 0) dL (.list ((ms ++ others many p.1 "letter" j none).map mailAV)) → ρ'.lookup (Str.ofString "_law_house") = some (.ref x) → ρ'.lookup (Str.ofString "_law_many") = some (.int many) → ρ'.lookup (Str.ofString "_law_sent") = some (.ref sL) → ρ'.lookup (Str.ofString "_law_due") = some (.ref dL) → K .next ρ' σ') : tss G n cT1s ρ σ K X := by
  obtain ⟨n, rfl⟩ : ∃ j, n = j + 3 := by first | with_reducible exact Nat.exists_eq_add_of_le' (Nat.le_trans (by decide) hn) | exact ⟨n - 3, (by first | decide | with_reducible exact lv hn | with_reducible exact lv1 hn | with_reducible exact lv2 hn | with_reducible exact Int.natCast_nonneg _ | with_reducible assumption | omega)⟩
  have m1 := w.m1; have m40 := w.m40; have t40 := w.t40
  have hj := (List.getElem?_eq_some_iff.mp hp).1
  refine g_forN (N := many) (lv hn) (ev_nm l2) (by first | decide | with_reducible exact lv hn | with_reducible exact lv1 hn | with_reducible exact lv2 hn | with_reducible exact Int.natCast_nonneg _ | omega) (fun i ρ₂ σ₂ => Chg (· = (4, 0)) o σ o σ₂ ∧ At o σ₂ (4, 0) dL (.list ((ms ++ others i p.1 "letter" j none).map mailAV)) ∧ (ρ₂.lookup (Str.ofString "_law_house") = some (.ref x) ∧ ρ₂.lookup (Str.ofString "_law_many") = some (.int many) ∧ ρ₂.lookup (Str.ofString "_law_sent") = some (.ref sL) ∧ ρ₂.lookup (Str.ofString "_law_due") = some (.ref dL) ∧ ρ₂.lookup (Str.ofString "_law_letter") = some (.int j) ∧ ρ₂.lookup (Str.ofString "_law_one") = some (sv p))) ⟨.refl, ?_, l1, l2, l3, l4, l5, l6⟩ (fun i K₂ ρ₂ σ₂ hi hI k1 _ => ?_) fun ρ₂ σ₂ hI => ?_
  · rw [show others 0 p.1 "letter" j none = [] from rfl, List.append_nil]; exact D
  · obtain ⟨c, D₂, g1, g2, g3, g4, g5, g6⟩ := hI
    by_cases q : (i : Int) = p.1
    · refine g_if0 (et_cmp (ev_nm lk_eq) (ev_sub (ev_nm (lk_ne (by decide) g6)) ev_cst d_0) (d_neF q)) (g_nil (k1 _ _ ⟨c, ?_, lk_ne (by decide) g1, lk_ne (by decide) g2, lk_ne (by decide) g3, lk_ne (by decide) g4, lk_ne (by decide) g5, lk_ne (by decide) g6⟩))
      rw [others_succ, if_pos q, List.append_nil]; exact D₂
    · have hol := others_len i p.1 "letter" (j : Int) none
      refine g_iteT (et_cmp (ev_nm lk_eq) (ev_sub (ev_nm (lk_ne (by decide) g6)) ev_cst d_0) (d_neT q)) (g_app (ev_nm (lk_ne (by decide) g4)) D₂.at_ (ev_tup (es_cons ev_cst (es_cons (ev_nm (lk_ne (by decide) g5)) (es_cons (ev_sub (ev_nm (lk_ne (by decide) g6)) ev_cst d_0) (es_cons (ev_nm lk_eq) (es_cons ev_cst es_nil))))) (Nat.le_of_ble_eq_true rfl)) ?_ ?_)
      · rw [List.length_map, List.length_append]; unfold sizeLine; omega
      · have e : (ms ++ others i p.1 "letter" j none).map mailAV ++ [AV.tup [.str "letter", .int j, .int p.1, .int i, .none]] = (ms ++ others (i + 1) p.1 "letter" j none).map mailAV := by
          rw [others_succ, if_neg q, ← List.append_assoc, List.map_append (l₂ := [_])]; rfl
        have ca : Chg (· = ((4, 0) : Tag)) o σ₂ o (upd σ₂ dL (.list ((ms ++ others (i + 1) p.1 "letter" j none).map mailAV))) := .put D₂ rfl
        change tss G (n + 3) [] _ (upd σ₂ dL (.list ((ms ++ others i p.1 "letter" j none).map mailAV ++ [AV.tup [.str "letter", .int j, .int p.1, .int i, .none]]))) _ _
        rw [e]
        exact g_nil (g_aft (g_nil (k1 _ _ ⟨c.trans ca, D₂.put, lk_ne (by decide) g1, lk_ne (by decide) g2, lk_ne (by decide) g3, lk_ne (by decide) g4, lk_ne (by decide) g5, lk_ne (by decide) g6⟩)))
  · obtain ⟨c, D₂, g1, g2, g3, g4, g5, g6⟩ := hI
    have w₂ := w.chg c (fun _ z => by cases z) (by decide)
    have X₂ := w₂.X
    obtain rfl := w.ax
    obtain ⟨f1, M1⟩ := E.sender
    obtain ⟨f2, M2⟩ := E.text
    obtain ⟨f3, M3⟩ := E.mark
    have hz1 : H.owners.length < 10000 := by rw [w.ol]; omega
    have hjo : (j : Int) < H.owners.length := by rw [w.ol]; omega
    refine g_asgM M1 (ev_nm g1) X₂.x.at_ X₂.d.at_ rfl (es_cons (ev_nm g5) es_nil) (sender_ok (n := n) (w := p.1) X₂ E.Z M1 hz1 (Int.natCast_nonneg _) (by rw [Int.toNat_natCast, w.S.own, List.getElem?_map, hp]; rfl) ?_)
    refine g_asgM M2 (ev_nm (lk_ne (by decide) g1)) X₂.x.at_ X₂.d.at_ rfl (es_cons (ev_nm (lk_ne (by decide) g5)) es_nil) (text_ok (n := n) (x := p.2) X₂ E.Z M2 hz1 (Int.natCast_nonneg _) hjo (by rw [w.S.wr, List.length_map]; omega) (by rw [Int.toNat_natCast, w.S.wr, List.getElem?_map, hp]; rfl) ?_)
    refine g_if0 (et_or (eo_F (et_notF (et_call (ev_call Wh (es_cons (ev_nm (lk_ne (by decide) lk_eq)) es_nil) (whole_is Wh)))) (eo_F (et_cmp (ev_nm (lk_ne (by decide) lk_eq)) (ev_sub (ev_nm (lk_ne (by decide) (lk_ne (by decide) g6))) ev_cst d_0) (d_neF rfl)) (eo_F (et_notF (et_bi (ev_bi (es_cons (ev_nm lk_eq) (es_cons (ev_gl d_str) es_nil)) (d_isi (q := true) rfl rfl)))) (eo_F (et_cmp (ev_nm lk_eq) (ev_sub (ev_nm (lk_ne (by decide) (lk_ne (by decide) g6))) ev_cst d_1) d_nesF) eo_nil))))) ?_
    refine g_asgM M3 (ev_nm (lk_ne (by decide) (lk_ne (by decide) g1))) X₂.x.at_ X₂.d.at_ rfl (es_cons (ev_nm (lk_ne (by decide) (lk_ne (by decide) g5))) es_nil) (mark_of_ok (n := n) X₂ E.Z M3 hz1 (Int.natCast_nonneg _) hjo (by rw [w.S.fl]; omega) (by rw [Int.toNat_natCast]; exact w.S.fin j hj) ?_)
    have e2 := lk_ne (x := Str.ofString "_law_mark_here") (a := finAV (if many = 1 then some ((j : Int) + 1, 0) else none)) (by decide) (lk_ne (x := Str.ofString "_law_words") (a := .str p.2) (by decide) (lk_ne (x := Str.ofString "_law_found") (a := .int p.1) (by decide) g2))
    have e5 := lk_ne (x := Str.ofString "_law_mark_here") (a := finAV (if many = 1 then some ((j : Int) + 1, 0) else none)) (by decide) (lk_ne (x := Str.ofString "_law_words") (a := .str p.2) (by decide) (lk_ne (x := Str.ofString "_law_found") (a := .int p.1) (by decide) g5))
    refine g_if0 ?_ (g_nil (k _ _ c D₂ (lk_ne (by decide) (lk_ne (by decide) (lk_ne (by decide) g1))) e2 (lk_ne (by decide) (lk_ne (by decide) (lk_ne (by decide) g3))) (lk_ne (by decide) (lk_ne (by decide) (lk_ne (by decide) g4)))))
    by_cases h : many = 1
    · rw [if_pos h] at e2 e5 ⊢
      exact et_or (eo_F (et_and (ea_F (et_cmp (ev_nm e2) ev_cst (d_gtF (by first | decide | with_reducible exact lv hn | with_reducible exact lv1 hn | with_reducible exact lv2 hn | with_reducible exact Int.natCast_nonneg _ | omega))))) (eo_F (et_and (ea_T (et_cmp (ev_nm e2) ev_cst (d_eqT (by first | decide | with_reducible exact lv hn | with_reducible exact lv1 hn | with_reducible exact lv2 hn | with_reducible exact Int.natCast_nonneg _ | omega))) (ea_F (et_or (eo_F (et_notF (et_call (ev_call Km (es_cons (ev_nm lk_eq) es_nil) (mark_is Km Wh)))) (eo_F (et_cmp (ev_nm lk_eq) (ev_tup (es_cons (ev_bin (ev_nm e5) ev_cst d_add) (es_cons ev_cst es_nil)) (Nat.le_of_ble_eq_true rfl)) (d_neM6 (datum_mk ((j : Int) + 1, 0)) (datum_mk ((j : Int) + 1, 0)) (can_mk _))) eo_nil)))))) eo_nil))
    · rw [if_neg h] at e2 e5 ⊢
      exact et_or (eo_F (et_and (ea_T (et_cmp (ev_nm e2) ev_cst (d_gtT (by first | decide | with_reducible exact lv hn | with_reducible exact lv1 hn | with_reducible exact lv2 hn | with_reducible exact Int.natCast_nonneg _ | omega))) (ea_F (et_cmp (ev_nm lk_eq) ev_cst (d_some rfl))))) (eo_F (et_and (ea_F (et_cmp (ev_nm e2) ev_cst (d_eqF (by first | decide | with_reducible exact lv hn | with_reducible exact lv1 hn | with_reducible exact lv2 hn | with_reducible exact Int.natCast_nonneg _ | omega))))) eo_nil))
end
end Mine
set_option maxRecDepth 100000
set_option linter.unusedSimpArgs false
set_option linter.unusedVariables false
namespace Mine
open PySem PyProof.Rows
section
variable {G : PG} {n : Nat} {ρ : Loc} {σ σ' : Sto} {Φ : PE} {Ψ : PY} {CH CD x sL dL f : Addr} {many : Nat} {ts : List (Int × Str)} {o o' : Own} {A : HA} {H : Hs} {K : PS} {X : PX} {T : Tag → Prop}
/-- len([one for one in sent if one[0] == hand]) -/
theorem x_cnt {i : Nat} (hs : lstOf σ sL = some (ts.map sv)) (hz : ts.length ≤ 40) (l1 : ρ.lookup (Str.ofString "_law_sent") = some (.ref sL)) (l2 : ρ.lookup (Str.ofString "_law_hand") = some (.int i)) (p : ∀ σ', Ext σ σ' → Φ (.int (cntS ts i)) σ') :
    (tr G n (.bi "len" [(.comp (.nm "_law_one") "_law_one" (.nm "_law_sent") [(.cmp .Eq (.sub (.nm "_law_one") (.cst (.int (0)))) (.nm "_law_hand"))])])).v ρ σ Φ Ψ := by
  rw [tv_bi, sq_cons, tv_comp]
  unfold compV
  refine ti_nm l1 (comp_ix (src := .lst sL) (vs := ts.map sv) (eT := tr G n (.nm "_law_one")) (x := "_law_one") (iT := trs G n [(.cmp .Eq (.sub (.nm "_law_one") (.cst (.int (0)))) (.nm "_law_hand"))]) (ρ := ρ) (Φ := fun v σ₁ => seqV (trs G n []) ρ σ₁ (fun vs σ₂ => biV G n "len" (v :: vs) σ₂ Φ) Ψ) rfl (by rw [List.length_map]; exact Nat.lt_of_le_of_lt hz (by decide)) (fun j acc σ₂ => σ₂ = σ ∧ acc.length = cntS (ts.take j) i) ⟨rfl, by simp [cntS]⟩ (fun j acc σ₂ hI => ?_) (fun j v J J' acc σ₂ hj hv hI k1 k2 => ?_) fun acc σ₂ hI a ha => ?_)
  · obtain ⟨rfl, h⟩ := hI
    refine ⟨hs, ?_⟩
    rw [h]
    exact Nat.le_trans (List.length_filter_le _ _) (by rw [List.length_take]; exact Nat.min_le_left _ _)
  · obtain ⟨rfl, h⟩ := hI
    rw [List.getElem?_map] at hv
    obtain ⟨q, hq, rfl⟩ := Option.map_eq_some_iff.mp hv
    have tk : ts.take (j + 1) = ts.take j ++ [q] := by rw [List.take_add_one, hq]; rfl
    have c : ∀ {z}, (q.1 == (i : Int)) = z → Et G n (putA "_law_one" (sv q) ρ) σ₂ (.cmp .Eq (.sub (.nm "_law_one") (.cst (.int (0)))) (.nm "_law_hand")) z := fun e => e ▸ et_cmp (ev_sub (ev_nm lk_eq) ev_cst d_0) (ev_nm (lk_ne (by decide) l2)) d_eqi
    by_cases e : q.1 = (i : Int)
    · exact ea_T (c (by rw [e, beq_self_eq_true])) ea_nil _ _ (ev_nm lk_eq _ _ (k1 _ _ ⟨rfl, by rw [tk, cntS_snoc, if_pos e, List.length_append, h]; rfl⟩))
    · exact ea_F (c (beq_eq_false_iff_ne.mpr e)) _ _ (k2 _ ⟨rfl, by rw [tk, cntS_snoc, if_neg e, h]; rfl⟩)
  · obtain ⟨rfl, h⟩ := hI
    have hl : acc.length = cntS ts i := by rw [h, List.length_map, List.take_length]
    have hz' : acc.length < 1000000 := by rw [hl]; exact Nat.lt_of_le_of_lt (Nat.le_trans (List.length_filter_le _ _) hz) (by decide)
    rw [sq_nil]
    exact d_len (lst_new _ _ _) hz' _ (hl ▸ p _ (Ext.new ha))
/-- list(range(len(sent)))[:len(sent) * int(many == 1)] -/
theorem g_row {y : Str} {r : List Sm} (hn : 10 ≤ n) (hs : lstOf σ sL = some (ts.map sv)) (hz : ts.length ≤ 40) (l1 : ρ.lookup (Str.ofString "_law_sent") = some (.ref sL)) (l2 : ρ.lookup (Str.ofString "_law_many") = some (.int many)) (p : ∀ a σ', Ext σ σ' → lstOf σ' a = some ((if many = 1 then (List.range ts.length).map fun (j : Nat) => (j : Int) else []).map AV.int) → tss G n r (putA y (.ref a) ρ) σ' K X) :
    tss G n (.asg y (.slc (.lrange (.bi "len" [(.nm "_law_sent")])) none (some (.bin .Mult (.bi "len" [(.nm "_law_sent")]) (.bi "int" [(.cmp .Eq (.nm "_law_many") (.cst (.int (1))))])))) :: r) ρ σ K X := by
  have hz' := Nat.lt_of_le_of_lt hz (show 40 < 1000000 by decide)
  have en : ∀ {σ'}, Ext σ σ' → Ev G n ρ σ' (.bi "len" [(.nm "_law_sent")]) (.int ts.length) := fun e => ev_bi (es_cons (ev_nm l1) es_nil) (d_lenM (e.lst hs) hz')
  rw [bl_asg, tv_slc, tv_lrange]
  refine en (.refl _) _ _ ⟨ts.length, rfl, hn, (by first | decide | with_reducible exact lv hn | with_reducible exact lv1 hn | with_reducible exact lv2 hn | with_reducible exact Int.natCast_nonneg _ | omega), ?_⟩
  rw [range0]
  refine new_lst (by rw [List.length_map, List.length_range]; exact Nat.le_of_lt (Nat.lt_of_le_of_lt hz (by decide))) fun a _ xa => ?_
  have A1 := lst_new σ a ((List.range ts.length).map fun (i : Nat) => AV.int i)
  generalize upd σ a (.list ((List.range ts.length).map fun (i : Nat) => AV.int i)) = σ₁ at xa A1
  rw [op_none, op_some]
  have eq1 : ∀ {q : Bool}, ((many : Int) == 1) = q → Ev G n ρ σ₁ (.bin .Mult (.bi "len" [(.nm "_law_sent")]) (.bi "int" [(.cmp .Eq (.nm "_law_many") (.cst (.int (1))))])) (.int ((ts.length : Int) * (if q = true then 1 else 0))) := fun e => ev_bin (en xa) (ev_bi (es_cons (ev_cmp (ev_nm l2) ev_cst (e ▸ d_eqi)) es_nil) d_intB) fun P p => ⟨(by first | decide | with_reducible exact lv hn | with_reducible exact lv1 hn | with_reducible exact lv2 hn | with_reducible exact Int.natCast_nonneg _ | omega), p⟩
  have fin : ∀ {k : Int} {vs : List AV}, Ev G n ρ σ₁ (.bin .Mult (.bi "len" [(.nm "_law_sent")]) (.bi "int" [(.cmp .Eq (.nm "_law_many") (.cst (.int (1))))])) (.int k) → 0 ≤ k → ((List.range ts.length).map fun (i : Nat) => AV.int i).take k.toNat = vs → vs = (if many = 1 then (List.range ts.length).map fun (j : Nat) => (j : Int) else []).map AV.int → vs.length ≤ sizeLine → (tr G n (.bin .Mult (.bi "len" [(.nm "_law_sent")]) (.bi "int" [(.cmp .Eq (.nm "_law_many") (.cst (.int (1))))]))).v ρ σ₁ (fun k σ₂ => slcV (.ref a) none (some k) σ₂ fun v σ₃ => tss G n r (putA y v ρ) σ₃ K X) (fun c σ₁ => X c ρ σ₁) := fun {k vs} he h0 e1 e2 hl => by
    refine he _ _ (sl_lst (p := none) (q := some k) A1 rfl rfl (fun _ z => by cases z) (fun _ z => by cases z; exact h0) (by rw [List.length_map, List.length_range]; exact Nat.le_of_lt (Nat.lt_of_le_of_lt hz (by decide))) ?_)
    rw [cut_hi, e1]
    exact new_lst hl fun c _ xc => p c _ (xa.trans xc) (by rw [lst_new, e2])
  by_cases h : many = 1
  · refine fin (k := (ts.length : Int)) (vs := (List.range ts.length).map fun (i : Nat) => AV.int i) ?_ (Int.natCast_nonneg _) ?_ ?_ ?_
    · have := eq1 (q := true) (by rw [h]; rfl)
      simpa using this
    · rw [Int.toNat_natCast]; exact List.take_of_length_le (by simp)
    · rw [if_pos h, List.map_map]; rfl
    · rw [List.length_map, List.length_range]; exact Nat.le_of_lt (Nat.lt_of_le_of_lt hz (by decide))
  · refine fin (k := 0) (vs := []) ?_ (Int.le_refl _) rfl (by rw [if_neg h]; rfl) (Nat.zero_le _)
    have := eq1 (q := false) (beq_eq_false_iff_ne.mpr (by first | decide | with_reducible exact lv hn | with_reducible exact lv1 hn | with_reducible exact lv2 hn | with_reducible exact Int.natCast_nonneg _ | omega))
    simpa using this
/-- one hand -/
theorem stand2 {fw fr : Addr} {i : Nat} (hn : 13 ≤ n) (E : R6 G CH CD) (Wh : Fn1 G "_law_whole" ["_law_found"] c_law_whole fw) (Rw : Fn1 G "_law_row" ["_law_found", "_law_due"] c_law_row fr) (w : W6 CH CD x sL many ts o σ A H) (hi : i < many)
    (l1 : ρ.lookup (Str.ofString "_law_house") = some (.ref x)) (l2 : ρ.lookup (Str.ofString "_law_many") = some (.int many)) (l3 : ρ.lookup (Str.ofString "_law_sent") = some (.ref sL)) (l4 : ρ.lookup (Str.ofString "_law_due") = some (.ref dL)) (l5 : ρ.lookup (Str.ofString "_law_hand") = some (.int i))
    (k : ∀ ρ' σ', Ext σ σ' → ρ'.lookup (Str.ofString "_law_house") = some (.ref x) → ρ'.lookup (Str.ofString "_law_many") = some (.int many) → ρ'.lookup (Str.ofString "_law_sent") = some (.ref sL) → ρ'.lookup (Str.ofString "_law_due") = some (.ref dL) → K .next ρ' σ') : tss G n cT2s ρ σ K X := by
  obtain ⟨n, rfl⟩ : ∃ j, n = j + 3 := by first | with_reducible exact Nat.exists_eq_add_of_le' (Nat.le_trans (by decide) hn) | exact ⟨n - 3, (by first | decide | with_reducible exact lv hn | with_reducible exact lv1 hn | with_reducible exact lv2 hn | with_reducible exact Int.natCast_nonneg _ | with_reducible assumption | omega)⟩
  have m40 := w.m40
  obtain rfl := w.ax
  obtain ⟨f1, M1⟩ := E.clock
  obtain ⟨f2, M2⟩ := E.handed
  have hd : i < H.desks.length := by rw [w.S.dl]; exact hi
  have hs : H.desks[i]? = some H.desks[i] := List.getElem?_eq_getElem hd
  have hz : H.desks.length < 10000 := by rw [w.S.dl]; omega
  refine g_asgM M1 (ev_nm l1) w.X.x.at_ w.X.d.at_ rfl (es_cons (ev_nm l5) es_nil) (house_clock_ok (n := n) (s := H.desks[i]) w.X E.Z M1 hz (Int.natCast_nonneg _) (by rw [Int.toNat_natCast]; exact hs) ?_)
  refine g_row (lv hn) w.s.lst w.t40 (lk_ne (by decide) l3) (lk_ne (by decide) l2) fun a σ₁ x₁ A₁ => ?_
  have e1 := lk_ne (x := Str.ofString "_law_row_here") (a := .ref a) (by decide) (lk_ne (x := Str.ofString "_law_time") (a := .int H.desks[i].hours) (by decide) l1)
  have e2 := lk_ne (x := Str.ofString "_law_row_here") (a := .ref a) (by decide) (lk_ne (x := Str.ofString "_law_time") (a := .int H.desks[i].hours) (by decide) l2)
  have e3 := lk_ne (x := Str.ofString "_law_row_here") (a := .ref a) (by decide) (lk_ne (x := Str.ofString "_law_time") (a := .int H.desks[i].hours) (by decide) l3)
  have e4 := lk_ne (x := Str.ofString "_law_row_here") (a := .ref a) (by decide) (lk_ne (x := Str.ofString "_law_time") (a := .int H.desks[i].hours) (by decide) l4)
  have e5 := lk_ne (x := Str.ofString "_law_row_here") (a := .ref a) (by decide) (lk_ne (x := Str.ofString "_law_time") (a := .int H.desks[i].hours) (by decide) l5)
  have e6 := lk_ne (x := Str.ofString "_law_row_here") (a := .ref a) (by decide) (lk_eq (x := Str.ofString "_law_time") (a := .int H.desks[i].hours) (ρ := ρ))
  have e7 := lk_eq (x := Str.ofString "_law_row_here") (a := .ref a) (ρ := putA (Str.ofString "_law_time") (.int H.desks[i].hours) ρ)
  generalize putA (Str.ofString "_law_row_here") (.ref a) (putA (Str.ofString "_law_time") (.int H.desks[i].hours) ρ) = ρ₁ at e1 e2 e3 e4 e5 e6 e7
  have w₁ := w.ext x₁
  rw [bl_ite, tt_or, any_cons]
  refine et_notF (et_call (ev_call Wh (es_cons (ev_nm e6) es_nil) (whole_is Wh))) _ _ ?_
  rw [if_neg Bool.false_ne_true, any_cons, tt_cmp]
  refine ev_nm e6 _ _ (x_cnt w₁.s.lst w.t40 e3 e5 fun σ₂ x₂ => ?_)
  refine d_neF (w.S.hours i _ hs) _ ⟨false, rfl, ?_⟩
  have w₂ := w₁.ext x₂
  show tss G (n + 3) [] ρ₁ σ₂ (aft G (n + 3) _ K X) X
  refine g_nil (g_aft ?_)
  rw [bl_ite, tt_not]
  refine tt_call Rw ?_
  rw [sq_cons]
  have hg := w.S.gone i _ hs
  have A₂ : lstOf σ₂ a = some (H.desks[i].gone.map .int) := by rw [hg]; exact x₂.lst A₁
  have hgl : H.desks[i].gone.length < 10000 := by
    rw [hg]; have := w.t40
    split
    · simp; omega
    · simp
  refine ev_meth M2 (ev_nm e1) w₂.X.x.at_ w₂.X.d.at_ rfl (es_cons (ev_nm e5) es_nil) (house_handed_ok (n := n) (s := H.desks[i]) w₂.X E.Z M2 hz (Int.natCast_nonneg _) (by rw [Int.toNat_natCast]; exact hs) hgl fun g hgn xg => ?_)
  refine es_cons (ev_nm e7) es_nil _ _ (row6_ok (n := n + 1) (is := H.desks[i].gone) Rw Wh (upd_same _ _ _) (xg.lst A₂) (Nat.lt_trans hgl (by decide)) ⟨true, rfl, ?_⟩)
  have hgs : σ g = none := by
    cases q : σ g with
    | none => rfl
    | some c => have := x₂ _ _ (x₁ _ _ q); rw [hgn] at this; cases this
  show tss G (n + 3) [] ρ₁ _ (aft G (n + 3) [] K X) X
  exact g_nil (g_aft (g_nil (k _ _ (((x₁.trans x₂).trans xg).over hgs) e1 e2 e3 e4)))
theorem words6 (many : Nat) (ts : List (Int × Str)) : ∀ m ∈ due many ts, PyData.strOk m.1 = true := fun m hm => by
  unfold due at hm
  obtain ⟨p, _, hm⟩ := List.mem_flatMap.mp hm
  unfold others at hm
  obtain ⟨h, _, rfl⟩ := List.mem_map.mp hm
  show PyData.strOk (Str.ofString "letter") = true
  decide +kernel
theorem stands_ok {fw fr fk fq fl fM : Addr} (hn : 14 ≤ n) (E : R6 G CH CD) (MM : Mt G CH "mails" ["self"] cHouse_mails fM) (F : Fn1 G "_law_stands" ["_law_house", "_law_many", "_law_sent"] c_law_stands f) (Wh : Fn1 G "_law_whole" ["_law_found"] c_law_whole fw) (Km : Fn1 G "_law_mark" ["_law_found"] c_law_mark fk) (Q : Fn1 G "_law_mail" ["_law_found"] c_law_mail fq) (Rw : Fn1 G "_law_row" ["_law_found", "_law_due"] c_law_row fr) (Ml : Fn1 G "_law_mails" ["_law_found", "_law_due"] c_law_mails fl)
    (w : W6 CH CD x sL many ts o σ A H) (k : ∀ σ', Φ (.bool true) σ') : WC G (n + 1) (.ref f) [.ref x, .int many, .ref sL] σ Φ Ψ := by
  refine F.bd rfl fun ρ K X' L hr _ _ => ?_
  have l1 := L "_law_house" _ rfl
  have l2 := L "_law_many" _ rfl
  have l3 := L "_law_sent" _ rfl
  refine g_asgL (o := o) (4, 0) fun dL o₁ σ₁ _ c₁ D₁ => ?_
  have w₁ := w.chg c₁ (fun _ => id) id
  have hlen : ((ts.map sv).zipIdx.map fun p => AV.tup [.int p.2, p.1]).length = ts.length := by simp
  rw [bl_forT, ti_enum6]
  refine es_cons (ev_nm (lk_ne (by decide) l3)) es_nil _ _ ⟨lv hn, rfl, lv hn, loop_ix (src := .enum sL) (vs := (ts.map sv).zipIdx.map fun p => .tup [.int p.2, p.1]) (fun j ρ₂ σ₂ => Chg (· = (4, 0)) o₁ σ₁ o₁ σ₂ ∧ At o₁ σ₂ (4, 0) dL (.list ((due many (ts.take j)).map mailAV)) ∧ ρ₂.lookup (Str.ofString "_law_house") = some (.ref x) ∧ ρ₂.lookup (Str.ofString "_law_many") = some (.int many) ∧ ρ₂.lookup (Str.ofString "_law_sent") = some (.ref sL) ∧ ρ₂.lookup (Str.ofString "_law_due") = some (.ref dL))
    ⟨.refl, by rw [List.take_zero]; exact D₁, lk_ne (by decide) l1, lk_ne (by decide) l2, lk_ne (by decide) l3, lk_eq⟩ (fun j ρ₂ σ₂ hI => ?_) (fun j u J ρ₂ σ₂ hj hu hI kJ => ?_) fun ρ₂ σ₂ hI => ?_⟩
  · simp only [Src.items, (w₁.s.chg hI.1 (by decide)).lst]
  · obtain ⟨c, D₂, g1, g2, g3, g4⟩ := hI
    rw [hlen] at hj
    have hp : ts[j]? = some ts[j] := List.getElem?_eq_getElem hj
    have hu' : u = .tup [.int j, sv ts[j]] := by
      rw [List.getElem?_map, List.getElem?_zipIdx, List.getElem?_map, hp] at hu
      simpa using hu.symm
    subst hu'
    refine ⟨_, rfl, ?_⟩
    have hdl : (due many (ts.take j)).length < 10000 := by
      rw [due_len fun p hq => w.S.hands p (List.mem_of_mem_take hq)]
      have h1 : (ts.take j).length ≤ 40 := by rw [List.length_take]; exact Nat.le_trans (Nat.min_le_right _ _) w.t40
      exact Nat.lt_of_le_of_lt (Nat.mul_le_mul h1 (Nat.sub_le_sub_right w.m40 1)) (by decide)
    refine stand1 (K := _) (lv hn) E Wh Km (w₁.chg c (fun _ z => by cases z) (by decide)) D₂ hdl hp (lk_ne (by decide) (lk_ne (by decide) g1)) (lk_ne (by decide) (lk_ne (by decide) g2)) (lk_ne (by decide) (lk_ne (by decide) g3)) (lk_ne (by decide) (lk_ne (by decide) g4)) (lk_ne (by decide) lk_eq) lk_eq fun ρ' σ' c' D' h1 h2 h3 h4 => kJ _ _ ⟨c.trans c', ?_, h1, h2, h3, h4⟩
    have tk : ts.take (j + 1) = ts.take j ++ [ts[j]] := by rw [List.take_add_one, hp]; rfl
    have tl : (ts.take j).length = j := by rw [List.length_take]; exact Nat.min_eq_left (Nat.le_of_lt hj)
    rw [tk, due_snoc, tl]; exact D'
  · obtain ⟨c, D₂, g1, g2, g3, g4⟩ := hI
    rw [hlen, List.take_length] at D₂
    have w₂ := w₁.chg c (fun _ z => by cases z) (by decide)
    have m40 := w.m40
    refine g_forN (N := many) (lv hn) (ev_nm g2) (by first | decide | with_reducible exact lv hn | with_reducible exact lv1 hn | with_reducible exact lv2 hn | with_reducible exact Int.natCast_nonneg _ | omega) (fun i ρ₃ σ₃ => Ext σ₂ σ₃ ∧ ρ₃.lookup (Str.ofString "_law_house") = some (.ref x) ∧ ρ₃.lookup (Str.ofString "_law_many") = some (.int many) ∧ ρ₃.lookup (Str.ofString "_law_sent") = some (.ref sL) ∧ ρ₃.lookup (Str.ofString "_law_due") = some (.ref dL)) ⟨.refl _, g1, g2, g3, g4⟩ (fun i K₂ ρ₃ σ₃ hi hI k1 _ => ?_) fun ρ₃ σ₃ hI => ?_
    · exact stand2 (lv hn) E Wh Rw (w₂.ext hI.1) hi (lk_ne (by decide) hI.2.1) (lk_ne (by decide) hI.2.2.1) (lk_ne (by decide) hI.2.2.2.1) (lk_ne (by decide) hI.2.2.2.2) lk_eq fun ρ' σ' e h1 h2 h3 h4 => k1 _ _ ⟨hI.1.trans e, h1, h2, h3, h4⟩
    · have w₃ := w₂.ext hI.1
      have D₃ : lstOf σ₃ dL = some (H.road.map mailAV) := by rw [w.S.rd]; exact (D₂.ext hI.1).lst
      obtain rfl := w.ax
      obtain ⟨n, rfl⟩ : ∃ j, n = j + 4 := by first | with_reducible exact Nat.exists_eq_add_of_le' (Nat.le_trans (by decide) hn) | exact ⟨n - 4, (by first | decide | with_reducible exact lv hn | with_reducible exact lv1 hn | with_reducible exact lv2 hn | with_reducible exact Int.natCast_nonneg _ | with_reducible assumption | omega)⟩
      rw [bl_ret]
      refine tv_call Ml ?_
      rw [sq_cons]
      have hrz := w.small.road
      refine ev_meth MM (ev_nm hI.2.1) w₃.X.x.at_ w₃.X.d.at_ rfl es_nil (mails_ok (n := n + 3) w₃.X E.Z MM (Nat.lt_trans hrz (by decide)) fun a ha xa => ?_)
      refine es_cons (ev_nm hI.2.2.2.2) es_nil _ _ (mails6_ok (n := n) (ms := H.road) Ml Q Km Wh (upd_same _ _ _) (xa.lst D₃) (Nat.lt_trans hrz (by decide)) (by rw [w.S.rd]; exact words6 _ _) (hr _ _ _ (k _)))
end
end Mine
set_option maxRecDepth 100000
set_option linter.unusedSimpArgs false
set_option linter.unusedVariables false
namespace Mine
open PySem PyProof.Rows

noncomputable def cTurn : List Sm := [.asg "_law_text" (.meth (.cst (.str "")) "join" [(.comp (.call "_law_sign" [(.bin .Add (.sub (.nm "_law_script") (.bin .Add (.nm "_law_k") (.cst (.int (1))))) (.bin .Mult (.bin .Mult (.cst (.int (7))) (.nm "_law_j")) (.nm "_law_j")))]) "_law_j" (.bi "range" [(.bin .Mod (.sub (.nm "_law_script") (.bin .Add (.nm "_law_k") (.cst (.int (1))))) (.cst (.int (41))))]) [])]), .asg "_law_hand" (.bin .Mod (.sub (.nm "_law_script") (.nm "_law_k")) (.nm "_law_many")), .asg "_law_found" (.meth (.nm "_law_house") "send" [(.nm "_law_hand"), (.nm "_law_text")]), .ite (.or_ [(.not_ (.call "_law_whole" [(.nm "_law_found")])), (.cmp .NotEq (.nm "_law_found") (.bi "len" [(.nm "_law_sent")]))]) [.ret (some (.cst (.bool false)))] [], .expr (.meth (.nm "_law_sent") "append" [(.tup [(.nm "_law_hand"), (.nm "_law_text")])]), .ite (.not_ (.call "_law_strangers" [(.nm "_law_house"), (.nm "_law_many"), (.bi "len" [(.nm "_law_sent")]), (.bin .Mult (.bi "len" [(.nm "_law_sent")]) (.bin .Sub (.nm "_law_many") (.cst (.int (1))))), (.bin .FloorDiv (.sub (.nm "_law_script") (.nm "_law_k")) (.nm "_law_many"))])) [.ret (some (.cst (.bool false)))] []]
noncomputable def claw : List Sm := [.asg "_law_many" (.bin .Add (.cst (.int (1))) (.bin .Mod (.bin .FloorDiv (.call "_law_cell_at" [(.nm "_law_script"), (.cst (.int (0)))]) (.cst (.int (5)))) (.sub (.list [(.cst (.int (40))), (.cst (.int (5))), (.cst (.int (5))), (.cst (.int (5))), (.cst (.int (5)))]) (.bin .Mod (.call "_law_cell_at" [(.nm "_law_script"), (.cst (.int (0)))]) (.cst (.int (5))))))), .asg "_law_house" (.call "House" [(.nm "_law_many")]), .asg "_law_sent" (.list []), .for_ "_law_k" (.bi "range" [(.cst (.int (1))), (.bin .Sub (.bi "len" [(.nm "_law_script")]) (.cst (.int (1)))), (.cst (.int (2)))]) cTurn, .asg "_law_found" (.meth (.nm "_law_house") "letters" []), .ite (.or_ [(.not_ (.call "_law_whole" [(.nm "_law_found")])), (.cmp .NotEq (.nm "_law_found") (.bi "len" [(.nm "_law_sent")])), (.not_ (.call "_law_whole" [(.gl "MOST_HANDS")])), (.cmp .NotEq (.gl "MOST_HANDS") (.cst (.int (40))))]) [.ret (some (.cst (.bool false)))] [], .ret (some (.and_ [(.cmp .Eq (.meth (.call "House" [(.cst (.int (40)))]) "letters" []) (.cst (.int (0)))), (.call "_law_stands" [(.nm "_law_house"), (.nm "_law_many"), (.nm "_law_sent")])]))]
abbrev Ends (fl : Fl) (_ : Loc) (_ : Sto) : Prop := fl.val = .bool true
abbrev Never (_ : Value) (_ : Loc) (_ : Sto) : Prop := False
theorem joinOk {tl : List Str} (h : ∀ t ∈ tl, t.length = 1) (hz : tl.length ≤ 41) : JoinOk "" tl = true := by
  have e : (Str.ofString "").length = 0 := by decide
  have key : ∀ (l : List Str) (a : Nat), (∀ t ∈ l, t.length = 1) → l.foldl (fun a t => a + t.length + (Str.ofString "").length) a = a + l.length := fun l => by
    induction l with
    | nil => intro a _; rfl
    | cons t l ih => intro a h; rw [List.foldl_cons, ih _ fun t ht => h t (.tail _ ht), h t (.head _), e, List.length_cons]; omega
  unfold JoinOk
  rw [← Array.foldl_toList, key tl 0 h]
  unfold Builtin.Str.tooLong sizeLine
  simp; omega
section
variable {G : PG} {n : Nat} {ρ : Loc} {σ σ' : Sto} {Φ : PE} {Ψ : PY} {CH CD x sL l f : Addr} {many : Nat} {ts : List (Int × Str)} {ns : List Int} {o o' : Own} {A : HA} {H : Hs} {K : PS} {X : PX} {t : Tag}
theorem d_mul {i j : Int} (h : i.natAbs < 2 ^ 63) : BinIs σ .Mult (.int i) (.int j) (.int (i * j)) := fun _ p => ⟨h, p⟩
/-- the text of a letter -/
theorem x_text {k : Nat} (hn : 11 ≤ n) (Sg : Fn1 G "_law_sign" ["_law_cell"] c_law_sign f) (B : At o σ t l (.rlist (ns.map .int))) (hz : ns.length ≤ 63) (hk : k + 1 < ns.length) (l1 : ρ.lookup (Str.ofString "_law_script") = some (.ref l)) (l2 : ρ.lookup (Str.ofString "_law_k") = some (.int k)) (p : ∀ t σ', Ext σ σ' → Φ (.str t) σ') :
    (tr G n (.meth (.cst (.str "")) "join" [(.comp (.call "_law_sign" [(.bin .Add (.sub (.nm "_law_script") (.bin .Add (.nm "_law_k") (.cst (.int (1))))) (.bin .Mult (.bin .Mult (.cst (.int (7))) (.nm "_law_j")) (.nm "_law_j")))]) "_law_j" (.bi "range" [(.bin .Mod (.sub (.nm "_law_script") (.bin .Add (.nm "_law_k") (.cst (.int (1))))) (.cst (.int (41))))]) [])])).v ρ σ Φ Ψ := by
  obtain ⟨n, rfl⟩ : ∃ j, n = j + 1 := by first | with_reducible exact Nat.exists_eq_add_of_le' (Nat.le_trans (by decide) hn) | exact ⟨n - 1, (by first | decide | with_reducible exact lv hn | with_reducible exact lv1 hn | with_reducible exact lv2 hn | with_reducible exact Int.natCast_nonneg _ | with_reducible assumption | omega)⟩
  have fm := fmod_in ns[k + 1] (m := 41) (by decide)
  obtain ⟨N, hN⟩ := Int.eq_ofNat_of_zero_le fm.1
  have hN41 : N < 41 := by omega
  have es : Ev G (n + 1) ρ σ (.bin .Mod (.sub (.nm "_law_script") (.bin .Add (.nm "_law_k") (.cst (.int (1))))) (.cst (.int (41)))) (.int N) := hN ▸ ev_bin (ev_sub (ev_nm l1) (ev_bin (ev_nm l2) ev_cst d_add) (d_ints B hz hk)) ev_cst (d_fmod (by decide))
  rw [tv_meth]
  refine ev_cst _ _ (mt_join ?_)
  rw [sq_cons, tv_compR]
  refine es_cons es es_nil _ _ ⟨lv hn, (by first | decide | with_reducible exact lv hn | with_reducible exact lv1 hn | with_reducible exact lv2 hn | with_reducible exact Int.natCast_nonneg _ | omega), (by first | decide | with_reducible exact lv hn | with_reducible exact lv1 hn | with_reducible exact lv2 hn | with_reducible exact Int.natCast_nonneg _ | with_reducible assumption | omega), ?_⟩
  rw [range0]
  refine CompOk.ix (vs := (List.range N).map fun (i : Nat) => AV.int i) (by rw [List.length_map, List.length_range]; exact Nat.lt_trans hN41 (by decide)) (fun j acc σ₂ => σ₂ = σ ∧ ∃ tl : List Str, tl.length = j ∧ acc = tl.map .str ∧ ∀ t ∈ tl, t.length = 1) ⟨rfl, [], rfl, rfl, fun t h => by cases h⟩ (fun j acc σ₂ hI => ?_) (fun j v J J' acc σ₂ hj hv hI k1 _ => ?_) fun acc σ₂ hI a ha => ?_
  · obtain ⟨rfl, tl, h1, rfl, _⟩ := hI
    rw [List.length_map, h1]; exact Nat.le_refl _
  · obtain ⟨rfl, tl, h1, rfl, h2⟩ := hI
    rw [List.length_map, List.length_range] at hj
    rw [List.getElem?_map, List.getElem?_range hj] at hv
    cases hv
    obtain ⟨c, hc, hs⟩ := sign_is (n := n) (σ := σ₂) (i := ns[k + 1] + 7 * (j : Int) * (j : Int)) Sg
    refine ea_nil _ _ (ev_call Sg (es_cons (ev_bin (ev_sub (ev_nm (lk_ne (by decide) l1)) (ev_bin (ev_nm (lk_ne (by decide) l2)) ev_cst d_add) (d_ints B hz hk)) (ev_bin (ev_bin ev_cst (ev_nm lk_eq) (d_mul (by decide))) (ev_nm lk_eq) (d_mul (by first | decide | with_reducible exact lv hn | with_reducible exact lv1 hn | with_reducible exact lv2 hn | with_reducible exact Int.natCast_nonneg _ | omega))) d_add) es_nil) hs _ _ (k1 _ _ ⟨rfl, tl ++ [c], by rw [List.length_append, h1]; rfl, by rw [List.map_append]; rfl, fun t ht => ?_⟩))
    rcases List.mem_append.mp ht with ht | ht
    · exact h2 t ht
    · cases List.mem_singleton.mp ht; exact hc
  · obtain ⟨rfl, tl, h1, rfl, h2⟩ := hI
    rw [sq_nil]
    exact onLst_mk (lst_new _ _ _) ⟨tl, rfl, joinOk h2 (by rw [h1, List.length_map, List.length_range]; exact Nat.le_of_lt hN41), p _ _ (Ext.new ha)⟩
/-- what stands between the turns -/
structure V6 (CH CD x sL l : Addr) (many : Nat) (ns : List Int) (ρ : Loc) (σ : Sto) (o : Own) (ts : List (Int × Str)) (A : HA) (H : Hs) : Prop where
  w : W6 CH CD x sL many ts o σ A H
  B : At o σ (9, 0) l (.rlist (ns.map .int))
  r1 : ρ.lookup (Str.ofString "_law_script") = some (.ref l)
  r2 : ρ.lookup (Str.ofString "_law_house") = some (.ref x)
  r3 : ρ.lookup (Str.ofString "_law_many") = some (.int many)
  r4 : ρ.lookup (Str.ofString "_law_sent") = some (.ref sL)
theorem turn6 {fw fS fg fr : Addr} {k : Nat} (hn : 24 ≤ n) (E : R6 G CH CD) (Sg : Fn1 G "_law_sign" ["_law_cell"] c_law_sign fg) (Wh : Fn1 G "_law_whole" ["_law_found"] c_law_whole fw) (St : Fn1 G "_law_strangers" ["_law_house", "_law_many", "_law_letters", "_law_mails_here", "_law_cell"] c_law_strangers fS) (R : Fn1 G "_law_refused" ["_law_house", "_law_word", "_law_thing"] c_law_refused fr)
    (V : V6 CH CD x sL l many ns ρ σ o ts A H) (hz : ns.length ≤ 63) (hk : k + 1 < ns.length) (lk : ρ.lookup (Str.ofString "_law_k") = some (.int k)) (ht : ts.length < 39)
    (kk : ∀ ρ' σ' o' ts' A' H', V6 CH CD x sL l many ns ρ' σ' o' ts' A' H' → ts'.length = ts.length + 1 → K .next ρ' σ') : tss G n cTurn ρ σ K X := by
  obtain ⟨n, rfl⟩ : ∃ j, n = j + 1 := by first | with_reducible exact Nat.exists_eq_add_of_le' (Nat.le_trans (by decide) hn) | exact ⟨n - 1, (by first | decide | with_reducible exact lv hn | with_reducible exact lv1 hn | with_reducible exact lv2 hn | with_reducible exact Int.natCast_nonneg _ | with_reducible assumption | omega)⟩
  have m1 := V.w.m1; have m40 := V.w.m40
  rw [cTurn, bl_asg]
  refine x_text (lv hn) Sg V.B hz hk V.r1 lk fun tx σ₁ x₁ => ?_
  have w₁ := V.w.ext x₁
  have B₁ := V.B.ext x₁
  have fm := fmod_in (ns[k]'(Nat.lt_of_succ_lt hk)) (m := (many : Int)) (by first | decide | with_reducible exact lv hn | with_reducible exact lv1 hn | with_reducible exact lv2 hn | with_reducible exact Int.natCast_nonneg _ | omega)
  obtain ⟨i, hi⟩ := Int.eq_ofNat_of_zero_le fm.1
  have him : i < many := by omega
  refine g_asg (v := .int i) (hi ▸ ev_bin (ev_sub (ev_nm (lk_ne (by decide) V.r1)) (ev_nm (lk_ne (by decide) lk)) (d_ints B₁ hz (Nat.lt_of_succ_lt hk))) (ev_nm (lk_ne (by decide) V.r3)) (d_fmod (by first | decide | with_reducible exact lv hn | with_reducible exact lv1 hn | with_reducible exact lv2 hn | with_reducible exact Int.natCast_nonneg _ | omega))) ?_
  have hd : i < H.desks.length := by rw [w₁.S.dl]; exact him
  have hs : H.desks[i]? = some H.desks[i] := List.getElem?_eq_getElem hd
  obtain ⟨hkn, B', C, fin⟩ := w₁.S.send m1 m40 w₁.t40 hs tx
  obtain ⟨fs, Sd⟩ := E.send
  obtain rfl := V.w.ax
  refine g_asgM Sd (ev_nm (lk_ne (by decide) (lk_ne (by decide) V.r2))) w₁.X.x.at_ w₁.X.d.at_ rfl (es_cons (ev_nm lk_eq) (es_cons (ev_nm (lk_ne (by decide) lk_eq)) es_nil)) (send_ok (n := n) (lv1 hn) E.Z Sd w₁.X w₁.small hs hkn (by rw [w₁.S.tl, w₁.ol]) B' C fun A' H' o' σ₂ hC hx c X₂ => ?_)
  have S₂ := fin H' hC
  have sl := w₁.s.chg c (by decide)
  have B₂ := B₁.chg c (by decide)
  have g1 := lk_ne (x := Str.ofString "_law_found") (a := .int H.owners.length) (by decide) (lk_ne (x := Str.ofString "_law_hand") (a := .int i) (by decide) (lk_ne (x := Str.ofString "_law_text") (a := .str tx) (by decide) V.r1))
  have g2 := lk_ne (x := Str.ofString "_law_found") (a := .int H.owners.length) (by decide) (lk_ne (x := Str.ofString "_law_hand") (a := .int i) (by decide) (lk_ne (x := Str.ofString "_law_text") (a := .str tx) (by decide) V.r2))
  have g3 := lk_ne (x := Str.ofString "_law_found") (a := .int H.owners.length) (by decide) (lk_ne (x := Str.ofString "_law_hand") (a := .int i) (by decide) (lk_ne (x := Str.ofString "_law_text") (a := .str tx) (by decide) V.r3))
  have g4 := lk_ne (x := Str.ofString "_law_found") (a := .int H.owners.length) (by decide) (lk_ne (x := Str.ofString "_law_hand") (a := .int i) (by decide) (lk_ne (x := Str.ofString "_law_text") (a := .str tx) (by decide) V.r4))
  have g5 := lk_ne (x := Str.ofString "_law_found") (a := .int H.owners.length) (by decide) (lk_ne (x := Str.ofString "_law_hand") (a := .int i) (by decide) (lk_ne (x := Str.ofString "_law_text") (a := .str tx) (by decide) lk))
  have g6 := lk_ne (x := Str.ofString "_law_found") (a := .int H.owners.length) (by decide) (lk_eq (x := Str.ofString "_law_hand") (a := .int i) (ρ := putA (Str.ofString "_law_text") (.str tx) ρ))
  have g7 := lk_ne (x := Str.ofString "_law_found") (a := .int H.owners.length) (by decide) (lk_ne (x := Str.ofString "_law_hand") (a := .int i) (by decide) (lk_eq (x := Str.ofString "_law_text") (a := .str tx) (ρ := ρ)))
  have g8 := lk_eq (x := Str.ofString "_law_found") (a := .int H.owners.length) (ρ := putA (Str.ofString "_law_hand") (.int i) (putA (Str.ofString "_law_text") (.str tx) ρ))
  generalize putA (Str.ofString "_law_found") (.int H.owners.length) (putA (Str.ofString "_law_hand") (.int i) (putA (Str.ofString "_law_text") (.str tx) ρ)) = ρ₁ at g1 g2 g3 g4 g5 g6 g7 g8
  refine g_if0 (et_or (eo_F (et_notF (et_call (ev_call Wh (es_cons (ev_nm g8) es_nil) (whole_is Wh)))) (eo_F (et_cmp (ev_nm g8) (ev_bi (es_cons (ev_nm g4) es_nil) (d_lenM sl.lst w₁.tz)) (d_neF (by rw [w₁.ol]))) eo_nil))) ?_
  refine g_app (ev_nm g4) sl.at_ (ev_tup (es_cons (ev_nm g6) (es_cons (ev_nm g7) es_nil)) (Nat.le_of_ble_eq_true rfl)) (by rw [List.length_map]; exact Nat.lt_trans ht (by decide)) ?_
  have em : ts.map sv ++ [AV.tup [.int (i : Int), .str tx]] = (ts ++ [((i : Int), tx)]).map sv := by rw [List.map_append]; rfl
  rw [em]
  have cs : Chg (· = ((3, 0) : Tag)) o' σ₂ o' (upd σ₂ sL (.list ((ts ++ [((i : Int), tx)]).map sv))) := .put sl rfl
  have tl1 : (ts ++ [((i : Int), tx)]).length = ts.length + 1 := by rw [List.length_append]; rfl
  have w₃ : W6 CH CD A.x sL many (ts ++ [((i : Int), tx)]) o' (upd σ₂ sL (.list ((ts ++ [((i : Int), tx)]).map sv))) A' H' := ⟨hx, X₂.chg cs (fun _ z => by cases z), S₂, sl.put, m1, m40, by rw [tl1]; omega⟩
  have B₃ := B₂.chg cs (by decide)
  generalize upd σ₂ sL (.list ((ts ++ [((i : Int), tx)]).map sv)) = σ₃ at w₃ B₃
  have len : Ev G (n + 1) ρ₁ σ₃ (.bi "len" [(.nm "_law_sent")]) (.int (ts ++ [((i : Int), tx)]).length) := ev_bi (es_cons (ev_nm g4) es_nil) (d_lenM w₃.s.lst w₃.tz)
  have er : ((ts ++ [((i : Int), tx)]).length : Int) * ((many : Int) - 1) = (H'.road.length : Int) := by
    rw [S₂.rd, due_len S₂.hands, Int.natCast_mul, show ((many - 1 : Nat) : Int) = (many : Int) - 1 by omega]
  have mm : Ev G (n + 1) ρ₁ σ₃ (.bin .Mult (.bi "len" [(.nm "_law_sent")]) (.bin .Sub (.nm "_law_many") (.cst (.int (1))))) (.int H'.road.length) := er ▸ ev_bin len (ev_bin (ev_nm g3) ev_cst d_minus) (d_mul (by rw [tl1]; omega))
  rw [bl_ite, tt_not]
  refine tt_call St (es_cons (ev_nm g2) (es_cons (ev_nm g3) (es_cons len (es_cons mm (es_cons (ev_bin (ev_sub (ev_nm g1) (ev_nm g5) (d_ints B₃ hz (Nat.lt_of_succ_lt hk))) (ev_nm g3) (d_fdiv (by first | decide | with_reducible exact lv hn | with_reducible exact lv1 hn | with_reducible exact lv2 hn | with_reducible exact Int.natCast_nonneg _ | omega) (by first | decide | with_reducible exact lv hn | with_reducible exact lv1 hn | with_reducible exact lv2 hn | with_reducible exact Int.natCast_nonneg _ | omega))) es_nil)))) _ _ ?_)
  have hol := w₃.ol
  have hdl := S₂.dl
  rw [← hx]
  have key := strangers_ok (n := n) (cell := Int.fdiv (ns[k]'(Nat.lt_of_succ_lt hk)) many) (Φ := fun a σ₁ => ∃ b, truthV σ₁ a = some b ∧ if (!b) = true then tss G (n + 1) [.ret (some (.cst (.bool false)))] ρ₁ σ₁ (aft G (n + 1) [] K X) X else tss G (n + 1) [] ρ₁ σ₁ (aft G (n + 1) [] K X) X) (Ψ := fun c σ₁ => X c ρ₁ σ₁) (lv1 hn) E St R w₃.X w₃.small fun σ₄ x₄ => ⟨true, rfl, kk ρ₁ σ₄ o' _ A' H' ⟨w₃.ext x₄, B₃.ext x₄, g1, g2, g3, g4⟩ tl1⟩
  rw [hol, hdl] at key
  exact key
end
end Mine
set_option maxRecDepth 100000
set_option linter.unusedSimpArgs false
set_option linter.unusedVariables false
namespace Mine
open PySem PyProof.Rows
section
variable {G : PG} {n : Nat} {ρ : Loc} {σ σ' : Sto} {Φ : PE} {Ψ : PY} {CH CD x sL l f : Addr} {many : Nat} {ts : List (Int × Str)} {ns : List Int} {o o' : Own} {A : HA} {H : Hs}
theorem S6.empty (many : Nat) : S6 many (emptyHouse many) [] := by
  refine ⟨empty_len many, rfl, rfl, rfl, rfl, rfl, fun p h => (by cases h), fun i s h => ?_, fun i s h => ?_, fun i s h => ?_, fun i s h => ?_, fun i s h => ?_, fun l h => absurd h (Nat.not_lt_zero _), fun ms h => by cases h⟩ <;> (obtain ⟨_, rfl⟩ := empty_desk h)
  · rfl
  · rfl
  · show ([] : List Int) = _
    split <;> rfl
  · exact ⟨Nat.zero_le _, fun _ => rfl⟩
  · exact ⟨Nat.zero_le _, fun k hk => by cases hk⟩
theorem range_half6 {b : Int} (h : b ≤ 62) : (rangeL 1 b 2).length ≤ 31 := by
  rw [range_len]
  unfold Builtin.Range.rangeSize
  rw [if_pos (by first | decide | with_reducible exact lv hn | with_reducible exact lv1 hn | with_reducible exact lv2 hn | with_reducible exact Int.natCast_nonneg _ | omega)]
  split <;> omega
theorem law06 {fa fw fk fq fg fr fS fs fl fR fL fM : Addr} {tk : Tok} (hn : 30 ≤ n) (E : R6 G CH CD) (MD : Mk G "Desk" CD ["self", "hand"] cDesk___init__) (most : G.mg "MOST_HANDS" = some (.int 40 tk)) (Lt : Mt G CH "letters" ["self"] cHouse_letters fL) (MM : Mt G CH "mails" ["self"] cHouse_mails fM)
    (C : Fn1 G "_law_cell_at" ["_law_script", "_law_k"] c_law_cell_at fa) (Wh : Fn1 G "_law_whole" ["_law_found"] c_law_whole fw) (Km : Fn1 G "_law_mark" ["_law_found"] c_law_mark fk) (Q : Fn1 G "_law_mail" ["_law_found"] c_law_mail fq) (Sg : Fn1 G "_law_sign" ["_law_cell"] c_law_sign fg) (Ml : Fn1 G "_law_mails" ["_law_found", "_law_due"] c_law_mails fl) (Rw : Fn1 G "_law_row" ["_law_found", "_law_due"] c_law_row fR) (R : Fn1 G "_law_refused" ["_law_house", "_law_word", "_law_thing"] c_law_refused fr) (St : Fn1 G "_law_strangers" ["_law_house", "_law_many", "_law_letters", "_law_mails_here", "_law_cell"] c_law_strangers fS) (Sn : Fn1 G "_law_stands" ["_law_house", "_law_many", "_law_sent"] c_law_stands fs)
    (hl : σ l = some (.rlist (ns.map .int))) (hsz : ns.length ≤ 63) : tss G n claw [("_law_script", .ref l)] σ Ends Never := by
  obtain ⟨n, rfl⟩ : ∃ j, n = j + 2 := by first | with_reducible exact Nat.exists_eq_add_of_le' (Nat.le_trans (by decide) hn) | exact ⟨n - 2, (by first | decide | with_reducible exact lv hn | with_reducible exact lv1 hn | with_reducible exact lv2 hn | with_reducible exact Int.natCast_nonneg _ | with_reducible assumption | omega)⟩
  have A0 : At (fun _ => (9, 0)) σ (9, 0) l (.rlist (ns.map .int)) := ⟨hl, rfl⟩
  have q1 : List.lookup (Str.ofString "_law_script") [(Str.ofString "_law_script", AV.ref l)] = some (.ref l) := rfl
  generalize [(Str.ofString "_law_script", AV.ref l)] = ρ₀ at q1
  obtain ⟨v0, e0⟩ := ev_cell (n := n + 1) C A0 hsz q1
  rw [claw, bl_asg]
  refine x_bin ev_cst (x_bin (ev_bin e0 ev_cst (d_fdiv (by decide) (by decide))) (x_pick (is := [40, 5, 5, 5, 5]) (P := fun N => 1 ≤ N ∧ N ≤ 40) (o := fun _ => (9, 0)) (9, 1) (es_cons ev_cst (es_cons ev_cst (es_cons ev_cst (es_cons ev_cst (es_cons ev_cst es_nil))))) (by decide) (fun o' σ' c => ?_) (by decide) fun N o₁ σ₁ c₁ hN => ?_))
  · obtain ⟨v1, e1⟩ := ev_cell (n := n + 1) C (A0.chg c id) hsz q1
    exact ⟨_, (fmod_in v1 (m := 5) (by decide)).1, (fmod_in v1 (m := 5) (by decide)).2, ev_bin e1 ev_cst (d_fmod (by decide))⟩
  have B₁ := A0.chg c₁ id
  refine d_fmod (by first | decide | with_reducible exact lv hn | with_reducible exact lv1 hn | with_reducible exact lv2 hn | with_reducible exact Int.natCast_nonneg _ | omega) _ ?_
  obtain ⟨p1, p2⟩ := fmod_in (Int.fdiv v0 5) (m := N) (by first | decide | with_reducible exact lv hn | with_reducible exact lv1 hn | with_reducible exact lv2 hn | with_reducible exact Int.natCast_nonneg _ | omega)
  obtain ⟨many, hmany⟩ : ∃ many : Nat, (many : Int) = 1 + Int.fmod (Int.fdiv v0 5) N := ⟨(1 + Int.fmod (Int.fdiv v0 5) N).toNat, (by first | decide | with_reducible exact lv hn | with_reducible exact lv1 hn | with_reducible exact lv2 hn | with_reducible exact Int.natCast_nonneg _ | with_reducible assumption | omega)⟩
  have m1 : 1 ≤ many := by omega
  have m40 : many ≤ 40 := by omega
  rw [bn_add, ← hmany]
  clear hmany p1 p2
  rw [bl_asg]
  refine mk_call E.MH (es_cons (ev_nm lk_eq) es_nil _ _ (house_new (n := n) (o := o₁) (b := 1) (f := fa) (lv2 hn) E.MH MD E.Z most m1 m40 fun A o₂ σ₂ c₂ X₂ => ?_))
  have B₂ := B₁.chg c₂ (by decide)
  refine g_asgL (o := o₂) (3, 0) fun sL o₃ σ₃ _ c₃ S₃ => ?_
  have v0 : V6 CH CD A.x sL l many ns (putA "_law_sent" (.ref sL) (putA "_law_house" (.ref A.x) (putA "_law_many" (.int many) ρ₀))) σ₃ o₃ [] A (emptyHouse many) :=
    ⟨⟨rfl, X₂.chg c₃ fun _ => id, S6.empty many, S₃, m1, m40, Nat.zero_le _⟩, B₂.chg c₃ id, lk_ne (by decide) (lk_ne (by decide) (lk_ne (by decide) q1)), lk_ne (by decide) lk_eq, lk_ne (by decide) (lk_ne (by decide) lk_eq), lk_eq⟩
  clear e0 q1 c₁ c₂ c₃ X₂ S₃ B₁ B₂
  generalize A.x = x at v0
  generalize putA (Str.ofString "_law_sent") (.ref sL) (putA (Str.ofString "_law_house") (.ref x) (putA (Str.ofString "_law_many") (.int many) ρ₀)) = ρ at v0
  have hlen := Nat.lt_of_le_of_lt hsz (show 63 < 1000000 by decide)
  refine g_forR (lv hn) (es_cons ev_cst (es_cons (ev_bin (ev_bi (es_cons (ev_nm v0.r1) es_nil) (d_lenM (lst_r v0.B) hlen)) ev_cst d_minus) (es_cons ev_cst es_nil))) (vs := rangeL 1 ((ns.length : Int) - 1) 2) (fun P p => ⟨(by first | decide | with_reducible exact lv hn | with_reducible exact lv1 hn | with_reducible exact lv2 hn | with_reducible exact Int.natCast_nonneg _ | omega), (by first | decide | with_reducible exact lv hn | with_reducible exact lv1 hn | with_reducible exact lv2 hn | with_reducible exact Int.natCast_nonneg _ | omega), (by first | decide | with_reducible exact lv hn | with_reducible exact lv1 hn | with_reducible exact lv2 hn | with_reducible exact Int.natCast_nonneg _ | with_reducible assumption | omega), (by first | decide | with_reducible exact lv hn | with_reducible exact lv1 hn | with_reducible exact lv2 hn | with_reducible exact Int.natCast_nonneg _ | omega), (by first | decide | with_reducible exact lv hn | with_reducible exact lv1 hn | with_reducible exact lv2 hn | with_reducible exact Int.natCast_nonneg _ | with_reducible assumption | omega), (by first | decide | with_reducible exact lv hn | with_reducible exact lv1 hn | with_reducible exact lv2 hn | with_reducible exact Int.natCast_nonneg _ | omega), p⟩) (fun i ρ₅ σ₅ => ∃ o₅ ts A₅ H₅, V6 CH CD x sL l many ns ρ₅ σ₅ o₅ ts A₅ H₅ ∧ ts.length = i) ⟨o₃, [], A, _, v0, rfl⟩ ?_ ?_
  · rintro i v K₂ ρ₅ σ₅ hi hv ⟨o₅, ts, A₅, H₅, V, e₅⟩ kJ _
    obtain ⟨k, rfl, k1, k2⟩ := range_in (by decide) (List.mem_of_getElem? hv)
    obtain ⟨k, rfl⟩ := Int.eq_ofNat_of_zero_le (Int.le_trans (by decide) k1)
    have hrl := Nat.lt_of_lt_of_le hi (range_half6 (b := (ns.length : Int) - 1) (by first | decide | with_reducible exact lv hn | with_reducible exact lv1 hn | with_reducible exact lv2 hn | with_reducible exact Int.natCast_nonneg _ | omega))
    exact turn6 (lv hn) E Sg Wh St R ⟨V.w, V.B, lk_ne (by decide) V.r1, lk_ne (by decide) V.r2, lk_ne (by decide) V.r3, lk_ne (by decide) V.r4⟩ hsz (by first | decide | with_reducible exact lv hn | with_reducible exact lv1 hn | with_reducible exact lv2 hn | with_reducible exact Int.natCast_nonneg _ | omega) lk_eq (by rw [e₅]; exact Nat.lt_trans hrl (by decide)) fun ρ' σ' o' ts' A' H' V' e' => kJ _ _ ⟨o', ts', A', H', V', by rw [e', e₅]⟩
  · rintro ρ₅ σ₅ ⟨o₅, ts, A₅, H₅, V, _⟩
    obtain ⟨w, B, r1, r2, r3, r4⟩ := V
    obtain rfl := w.ax
    have hol := w.ol
    have ho : H₅.owners.length < 10000 := by rw [hol]; exact Nat.lt_of_le_of_lt w.t40 (by decide)
    have gm : ∀ {ρ : Loc} {σ : Sto}, Ev G (n + 2) ρ σ (.gl "MOST_HANDS") (.int 40) := ev_gl fun Φ p => by rw [glob_val most]; exact p
    refine g_asgM Lt (ev_nm r2) w.X.x.at_ w.X.d.at_ rfl es_nil (letters_ok (n := n + 1) w.X E.Z Lt ho ?_)
    refine g_if0 (et_or (eo_F (et_notF (et_call (ev_call Wh (es_cons (ev_nm lk_eq) es_nil) (whole_is Wh)))) (eo_F (et_cmp (ev_nm lk_eq) (ev_bi (es_cons (ev_nm (lk_ne (by decide) r4)) es_nil) (d_lenM w.s.lst w.tz)) (d_neF (by rw [hol]))) (eo_F (et_notF (et_call (ev_call Wh (es_cons gm es_nil) (whole_is Wh)))) (eo_F (et_cmp gm ev_cst (d_neF rfl)) eo_nil))))) ?_
    rw [bl_ret, tv_and, and_cons, tv_cmp, tv_meth]
    refine mk_call E.MH (es_cons ev_cst es_nil _ _ (house_new (n := n) (many := 40) (o := o₅) (b := 7) (f := fa) (lv2 hn) E.MH MD E.Z most (by decide) (by decide) fun A₆ o₆ σ₆ c₆ X₆ => ?_))
    refine mt_call Lt X₆.x.at_ X₆.d.at_ rfl ?_
    rw [sq_nil]
    refine letters_ok (n := n + 1) X₆ E.Z Lt (by decide) (ev_cst _ _ (d_eqT rfl _ ⟨true, rfl, ?_⟩))
    rw [if_pos rfl, and_one]
    have w₆ := w.chg c₆ (fun _ z => absurd (show (1 : Nat) = 7 from z) (by decide)) (by decide)
    exact tv_call Sn (es_cons (ev_nm (lk_ne (by decide) r2)) (es_cons (ev_nm (lk_ne (by decide) r3)) (es_cons (ev_nm (lk_ne (by decide) r4)) es_nil)) _ _ (stands_ok (n := n + 1) (lv1 hn) E MM Sn Wh Km Q Rw Ml w₆ fun σ' => rfl))
end
end Mine
set_option maxRecDepth 100000
set_option Elab.async false
set_option maxHeartbeats 4000000
namespace Mine
open PySem PyProof.Rows PySem.W
theorem d06 : DefIs q06 "less" ["one", "other"] cless ∧ DefIs q06 "greatest" ["marks"] cgreatest ∧ DefIs q06 "is_place" ["thing", "many"] cis_place ∧ DefIs q06 "_law_whole" ["_law_found"] c_law_whole ∧ DefIs q06 "_law_cell_at" ["_law_script", "_law_k"] c_law_cell_at ∧ DefIs q06 "_law_mark" ["_law_found"] c_law_mark ∧ DefIs q06 "_law_mail" ["_law_found"] c_law_mail ∧ DefIs q06 "_law_sign" ["_law_cell"] c_law_sign ∧ DefIs q06 "_law_mails" ["_law_found", "_law_due"] c_law_mails ∧ DefIs q06 "_law_row" ["_law_found", "_law_due"] c_law_row ∧ DefIs q06 "_law_only" ["_law_error", "_law_word"] c_law_only ∧ DefIs q06 "_law_refused" ["_law_house", "_law_word", "_law_thing"] c_law_refused ∧ DefIs q06 "_law_strangers" ["_law_house", "_law_many", "_law_letters", "_law_mails_here", "_law_cell"] c_law_strangers ∧ DefIs q06 "_law_stands" ["_law_house", "_law_many", "_law_sent"] c_law_stands ∧ DefIs q06 "law" ["_law_script"] claw := by
  unfold DefIs
  refine ⟨?_, ?_, ?_, ?_, ?_, ?_, ?_, ?_, ?_, ?_, ?_, ?_, ?_, ?_, ?_⟩ <;> kernel_rfl
theorem m06 (P : Params) : MtIs (K06 P) 210 165 "propose" ["self", "letter"] cDesk_propose ∧ MtIs (K06 P) 210 172 "open_place" ["self", "letter"] cDesk_open_place ∧ MtIs (K06 P) 210 179 "settle" ["self", "letter", "mark"] cDesk_settle ∧ MtIs (K06 P) 210 186 "least_place" ["self"] cDesk_least_place ∧ MtIs (K06 P) 210 200 "handed" ["self"] cDesk_handed ∧ MtIs (K06 P) 210 207 "clock" ["self"] cDesk_clock ∧ MtIs (K06 P) 334 240 "need_hand" ["self", "hand"] cHouse_need_hand ∧ MtIs (K06 P) 334 247 "need_letter" ["self", "letter"] cHouse_need_letter ∧ MtIs (K06 P) 334 254 "to_others" ["self", "word", "letter", "mark"] cHouse_to_others ∧ MtIs (K06 P) 334 268 "close" ["self", "letter"] cHouse_close ∧ MtIs (K06 P) 334 261 "send" ["self", "hand", "text"] cHouse_send ∧ MtIs (K06 P) 334 282 "bring" ["self", "place"] cHouse_bring ∧ MtIs (K06 P) 334 275 "mails" ["self"] cHouse_mails ∧ MtIs (K06 P) 334 324 "handed" ["self", "hand"] cHouse_handed ∧ MtIs (K06 P) 334 296 "letters" ["self"] cHouse_letters ∧ MtIs (K06 P) 334 303 "sender" ["self", "letter"] cHouse_sender ∧ MtIs (K06 P) 334 310 "text" ["self", "letter"] cHouse_text ∧ MtIs (K06 P) 334 317 "mark" ["self", "letter"] cHouse_mark ∧ MtIs (K06 P) 334 331 "clock" ["self", "hand"] cHouse_clock := by
  unfold MtIs
  refine ⟨?_, ?_, ?_, ?_, ?_, ?_, ?_, ?_, ?_, ?_, ?_, ?_, ?_, ?_, ?_, ?_, ?_, ?_, ?_⟩ <;> kernel_rfl
theorem n06 (P : Params) : MkIs (K06 P) 210 158 ["self", "hand"] cDesk___init__ ∧ MkIs (K06 P) 334 233 ["self", "many"] cHouse___init__ ∧ clsOk (K06 P) 210 deskAs = true ∧ clsOk (K06 P) 334 houseAs = true := by
  unfold MkIs
  refine ⟨?_, ?_, ?_, ?_⟩ <;> kernel_rfl
theorem g06 (P : Params) : globK (K06 P) "Desk" = some (.ref 210) ∧ globK (K06 P) "House" = some (.ref 334) ∧ globK (K06 P) "Twice" = some (.ref 92) ∧ globK (K06 P) "NotOpen" = some (.ref 104) ∧ globK (K06 P) "BadMark" = some (.ref 116) ∧ globK (K06 P) "BadCount" = some (.ref 44) ∧ globK (K06 P) "NoHand" = some (.ref 56) ∧ globK (K06 P) "NoMail" = some (.ref 80) ∧ globK (K06 P) "NoLetter" = some (.ref 68) := by
  refine ⟨?_, ?_, ?_, ?_, ?_, ?_, ?_, ?_, ?_⟩ <;> kernel_rfl
theorem exk06_BadCount (P : Params) : ExcK (K06 P) 44 := by
  constructor <;> kernel_rfl
theorem errs06_BadCount {G : PG} {P : Params} (hg : ∀ x, G.mg x = globK (K06 P) x) (hK : G.K = K06 P) : Errs G 44 "BadCount" := by
  refine ⟨by rw [hK]; exact exk06_BadCount P, ⟨44, ?_, ?_⟩, ⟨56, ?_, ?_⟩, ⟨68, ?_, ?_⟩, ⟨80, ?_, ?_⟩, ⟨92, ?_, ?_⟩, ⟨104, ?_, ?_⟩, ⟨116, ?_, ?_⟩, ⟨128, ?_, ?_⟩, ?_, ?_, ⟨31, ?_, ?_⟩⟩
  all_goals first
    | (rw [hg]; kernel_rfl)
    | (rw [hK]; kernel_rfl)
theorem exk06_NoHand (P : Params) : ExcK (K06 P) 56 := by
  constructor <;> kernel_rfl
theorem errs06_NoHand {G : PG} {P : Params} (hg : ∀ x, G.mg x = globK (K06 P) x) (hK : G.K = K06 P) : Errs G 56 "NoHand" := by
  refine ⟨by rw [hK]; exact exk06_NoHand P, ⟨44, ?_, ?_⟩, ⟨56, ?_, ?_⟩, ⟨68, ?_, ?_⟩, ⟨80, ?_, ?_⟩, ⟨92, ?_, ?_⟩, ⟨104, ?_, ?_⟩, ⟨116, ?_, ?_⟩, ⟨128, ?_, ?_⟩, ?_, ?_, ⟨31, ?_, ?_⟩⟩
  all_goals first
    | (rw [hg]; kernel_rfl)
    | (rw [hK]; kernel_rfl)
theorem exk06_NoMail (P : Params) : ExcK (K06 P) 80 := by
  constructor <;> kernel_rfl
theorem errs06_NoMail {G : PG} {P : Params} (hg : ∀ x, G.mg x = globK (K06 P) x) (hK : G.K = K06 P) : Errs G 80 "NoMail" := by
  refine ⟨by rw [hK]; exact exk06_NoMail P, ⟨44, ?_, ?_⟩, ⟨56, ?_, ?_⟩, ⟨68, ?_, ?_⟩, ⟨80, ?_, ?_⟩, ⟨92, ?_, ?_⟩, ⟨104, ?_, ?_⟩, ⟨116, ?_, ?_⟩, ⟨128, ?_, ?_⟩, ?_, ?_, ⟨31, ?_, ?_⟩⟩
  all_goals first
    | (rw [hg]; kernel_rfl)
    | (rw [hK]; kernel_rfl)
theorem exk06_NoLetter (P : Params) : ExcK (K06 P) 68 := by
  constructor <;> kernel_rfl
theorem errs06_NoLetter {G : PG} {P : Params} (hg : ∀ x, G.mg x = globK (K06 P) x) (hK : G.K = K06 P) : Errs G 68 "NoLetter" := by
  refine ⟨by rw [hK]; exact exk06_NoLetter P, ⟨44, ?_, ?_⟩, ⟨56, ?_, ?_⟩, ⟨68, ?_, ?_⟩, ⟨80, ?_, ?_⟩, ⟨92, ?_, ?_⟩, ⟨104, ?_, ?_⟩, ⟨116, ?_, ?_⟩, ⟨128, ?_, ?_⟩, ?_, ?_, ⟨31, ?_, ?_⟩⟩
  all_goals first
    | (rw [hg]; kernel_rfl)
    | (rw [hK]; kernel_rfl)
theorem ws06 : OpenLaw.wellSaid PySem.Challenge.rw_uf050023_06 = true := by kernel_rfl
theorem x06 : PySem.Challenge.rw_uf050023_06.Holds := by
  w_on
  refine holds_law ws06 fun said => ?_
  refine holds_open (q := q06) (loose := []) (Xt := fun s => xlAt q06 [] s && recOk (RowW.records (OpenRow.toRowW PySem.Challenge.rw_uf050023_06.row)) s) (XP := XL q06 []) (Yf := Hook.obs hk06) (Ya := Hook.val hk06) (YP := Hook.says hk06) (N := 7236) left06 (Hook.of hk06) (Hook.keeps hk06) (fun s e => xl_of s (Bool.and_eq_true_iff.mp e).1) XL.keeps (by rfl) (by rfl) (by rfl) (fun s e => recFacts_of (Bool.and_eq_true_iff.mp e).2) (by rfl) (by first | assumption | decide +kernel) (by decide +kernel) ⟨rfl, rfl, rfl, rfl, rfl, by decide +kernel⟩ ?hw ?hc
  case hw => w_witness2
  case hc =>
    intro w s₀ s₁ mg mb G Y fa o pm cd doc dV kV ho hd hcd hD hmg hg args vals as hpre hlay hrd hwl hlo
    have KX : Frag.In (K06 w.params) s₁.heap := kIn_of Y
    clear ho hd hcd hD
    refine Ground.open G ?_
    intro T B D TE TW
    wrow_args hpre hlay hrd hwl hlo
    rename_i ns _ _ _ _ _ _ _ l vs _ hL _ W1 _ hI _ hcond _
    have hsz : ns.length ≤ 63 := by omega
    obtain ⟨d_less, d_greatest, d_is_place, d_law_whole, d_law_cell_at, d_law_mark, d_law_mail, d_law_sign, d_law_mails, d_law_row, d_law_only, d_law_refused, d_law_strangers, d_law_stands, d_law⟩ := d06
    have nb : noB q06 (looseW q06 []) = true := by decide +kernel
    let GG := topG T PySem.Challenge.rw_uf050023_06.row.prog w _ KX nb
    have gk : ∀ x, GG.mg x = globK (K06 w.params) x := fun x => globK_of KX T.g (by kernel_rfl) x
    obtain ⟨g_Desk, g_House, g_Twice, g_NotOpen, g_BadMark, g_BadCount, g_NoHand, g_NoMail, g_NoLetter⟩ := g06 w.params
    obtain ⟨a_propose, a_open_place, a_settle, a_least_place, a_handed, a_clock, b_need_hand, b_need_letter, b_to_others, b_close, b_send, b_bring, b_mails, b_handed, b_letters, b_sender, b_text, b_mark, b_clock⟩ := m06 w.params
    obtain ⟨n_D, n_H, c_D, c_H⟩ := n06 w.params
    obtain ⟨f_less, F_less⟩ := fn1_top (G := GG) T rfl (fun t => t) _ _ _ d_less
    obtain ⟨f_greatest, F_greatest⟩ := fn1_top (G := GG) T rfl (fun t => t) _ _ _ d_greatest
    obtain ⟨f_is_place, F_is_place⟩ := fn1_top (G := GG) T rfl (fun t => t) _ _ _ d_is_place
    obtain ⟨f_law_whole, F_law_whole⟩ := fn1_top (G := GG) T rfl (fun t => t) _ _ _ d_law_whole
    obtain ⟨f_law_cell_at, F_law_cell_at⟩ := fn1_top (G := GG) T rfl (fun t => t) _ _ _ d_law_cell_at
    obtain ⟨f_law_mark, F_law_mark⟩ := fn1_top (G := GG) T rfl (fun t => t) _ _ _ d_law_mark
    obtain ⟨f_law_mail, F_law_mail⟩ := fn1_top (G := GG) T rfl (fun t => t) _ _ _ d_law_mail
    obtain ⟨f_law_sign, F_law_sign⟩ := fn1_top (G := GG) T rfl (fun t => t) _ _ _ d_law_sign
    obtain ⟨f_law_mails, F_law_mails⟩ := fn1_top (G := GG) T rfl (fun t => t) _ _ _ d_law_mails
    obtain ⟨f_law_row, F_law_row⟩ := fn1_top (G := GG) T rfl (fun t => t) _ _ _ d_law_row
    obtain ⟨f_law_only, F_law_only⟩ := fn1_top (G := GG) T rfl (fun t => t) _ _ _ d_law_only
    obtain ⟨f_law_refused, F_law_refused⟩ := fn1_top (G := GG) T rfl (fun t => t) _ _ _ d_law_refused
    obtain ⟨f_law_strangers, F_law_strangers⟩ := fn1_top (G := GG) T rfl (fun t => t) _ _ _ d_law_strangers
    obtain ⟨f_law_stands, F_law_stands⟩ := fn1_top (G := GG) T rfl (fun t => t) _ _ _ d_law_stands
    obtain ⟨tk, most⟩ := const_int T (x := "MOST_HANDS") (i := 40) (by kernel_rfl)
    have e_Twice : GG.mg "Twice" = some (.ref 92) := (gk _).trans g_Twice
    have x_Twice : ExcOk GG "Twice" 92 := exc_top (G := GG) T rfl (fun t => t) e_Twice (by kernel_rfl)
    have e_NotOpen : GG.mg "NotOpen" = some (.ref 104) := (gk _).trans g_NotOpen
    have x_NotOpen : ExcOk GG "NotOpen" 104 := exc_top (G := GG) T rfl (fun t => t) e_NotOpen (by kernel_rfl)
    have e_BadMark : GG.mg "BadMark" = some (.ref 116) := (gk _).trans g_BadMark
    have x_BadMark : ExcOk GG "BadMark" 116 := exc_top (G := GG) T rfl (fun t => t) e_BadMark (by kernel_rfl)
    have e_BadCount : GG.mg "BadCount" = some (.ref 44) := (gk _).trans g_BadCount
    have x_BadCount : ExcOk GG "BadCount" 44 := exc_top (G := GG) T rfl (fun t => t) e_BadCount (by kernel_rfl)
    have e_NoHand : GG.mg "NoHand" = some (.ref 56) := (gk _).trans g_NoHand
    have x_NoHand : ExcOk GG "NoHand" 56 := exc_top (G := GG) T rfl (fun t => t) e_NoHand (by kernel_rfl)
    have e_NoMail : GG.mg "NoMail" = some (.ref 80) := (gk _).trans g_NoMail
    have x_NoMail : ExcOk GG "NoMail" 80 := exc_top (G := GG) T rfl (fun t => t) e_NoMail (by kernel_rfl)
    have e_NoLetter : GG.mg "NoLetter" = some (.ref 68) := (gk _).trans g_NoLetter
    have x_NoLetter : ExcOk GG "NoLetter" 68 := exc_top (G := GG) T rfl (fun t => t) e_NoLetter (by kernel_rfl)
    have ZF : HF GG 334 210 := ⟨cls_of c_H, cls_of c_D, ⟨_, F_is_place⟩, ⟨_, F_less⟩, ⟨_, F_greatest⟩, ⟨_, mt_of a_propose⟩, ⟨_, mt_of a_open_place⟩, ⟨_, mt_of a_settle⟩, ⟨_, mt_of a_least_place⟩, ⟨_, mt_of a_handed⟩, ⟨_, mt_of a_clock⟩, ⟨_, mt_of b_need_hand⟩, ⟨_, mt_of b_need_letter⟩, ⟨_, mt_of b_to_others⟩, ⟨_, mt_of b_close⟩, ⟨_, e_Twice, x_Twice⟩, ⟨_, e_NotOpen, x_NotOpen⟩, ⟨_, e_BadMark, x_BadMark⟩⟩
    have MH : Mk GG "House" 334 ["self", "many"] cHouse___init__ := mk_of ((gk _).trans g_House) n_H
    have MD : Mk GG "Desk" 210 ["self", "hand"] cDesk___init__ := mk_of ((gk _).trans g_Desk) n_D
    refine law_end T (hK := KX) (e := nb) hg (fun _ => rfl) (by first | rfl | wrow_post) d_law hmg hL W1 hI ?_
    have R : R6 GG 334 210 := ⟨ZF, MH, ⟨tk, most⟩, ⟨_, mt_of b_send⟩, ⟨_, mt_of b_bring⟩, ⟨_, mt_of b_handed⟩, ⟨_, mt_of b_clock⟩, ⟨_, mt_of b_sender⟩, ⟨_, mt_of b_text⟩, ⟨_, mt_of b_mark⟩, ⟨_, F_law_only⟩, ⟨_, e_BadCount, x_BadCount, errs06_BadCount gk rfl⟩, ⟨_, e_NoHand, x_NoHand, errs06_NoHand gk rfl⟩, ⟨_, e_NoMail, x_NoMail, errs06_NoMail gk rfl⟩, ⟨_, e_NoLetter, x_NoLetter, errs06_NoLetter gk rfl⟩⟩
    exact law06 (by first | decide | with_reducible exact lv hn | with_reducible exact lv1 hn | with_reducible exact lv2 hn | with_reducible exact Int.natCast_nonneg _ | omega) R MD most (mt_of b_letters) (mt_of b_mails) F_law_cell_at F_law_whole F_law_mark F_law_mail F_law_sign F_law_mails F_law_row F_law_refused F_law_strangers F_law_stands (upd_same _ _ _) hsz
end Mine

theorem PySem.Challenge.cw_uf050023_06_holds : PySem.Challenge.rw_uf050023_06.Holds :=
  Mine.x06
