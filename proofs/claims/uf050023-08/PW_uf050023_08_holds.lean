import PyProof.Rows.All
import Wide.BridgeG
import OpenK.KMake
import OpenK.XGo
import KE.KIsAll
import PyProof.SetRoads
import PyProof.Cells
import OpenK.KMore
import PyProof.Calls
import PyProof.Rows.Tup
import PyProof.RaisesMany
import PyProof.DictKinds
import PyProof.DictList
import KE.KTryMore
import PyProof.ExcArgs
import PyProof.Rows.SetFrom
import PyProof.P3Eq
import PyProof.EqLayable
import Wide.Txt
import KE.KIntText
import PyProof.ExcBaseAll.ValueError
import PyProof.ExcClass3
import PyProof.RulesAs
import PyProof.NsDelKeeps
import PyProof.Rows.Own
import PyProof.Rows.StrNews
import PyProof.StrCalls3
import PyProof.StrCalls2
import PyProof.Rows.StrMul
import PyProof.Rows.StrJoinRep
import KE.KEqDict
import PyProof.MinMaxWalk
import PyProof.WalkInts
import KE.KDictOf
import PyProof.ZipIter
import PyProof.WalksEnum
import PyProof.WalksMore
import PyProof.StrWalks
import PyProof.EnumMake
import PyProof.Rows.Range3
import PyProof.ForAny
import PyProof.Rows.TupIter
import PyProof.CompFree
import PyProof.Rows.Nodes
import PyProof.Rows.Chain
import PyProof.Rows.TupSub
import PyProof.Rows.Method
import PyProof.Rows.Exc
import PyProof.Rows.AttrNodeAny
import PyProof.SliceSyntax
import PyProof.FactsAll.list_3
import PyProof.Rows.SeqMore
import PyProof.Rows.DictRows
import PyProof.MeetsDictList
import PyProof.FactsAll.dict_3
import PyProof.DictTable
import PyProof.DictDisplay
import PyProof.DictRoads
import PyProof.RulesAssignMore
import PyProof.Raises
import PyProof.ListIndex
import PyProof.Rows.Top
import Lean
import PySem.Challenge.RW_uf050023_08
set_option Elab.async false
set_option linter.all false
set_option maxRecDepth 100000
namespace Mine
open PySem PyProof.Rows

/-- a method's def, out of the program -/
noncomputable def clsBody (p : Program) (c : Str) : List Stmt := (p.main.body.filterMap fun st => match st with | .ClassDef n _ _ b _ _ _ _ _ _ _ => if n == c then some b else none | _ => none).flatten
noncomputable def methObj (p : Program) (c m q : Str) (pm code : Value) : Obj := match (clsBody p c).filterMap (fun st => match st with | .FunctionDef n a b _ _ _ sc _ _ _ => if n == m then some (a, b, sc) else none | _ => none) with
  | (a, b, sc) :: _ => { cls := .type "function", data := .func { name := m, qualname := q, params := a, body := .stmts b, scope := sc, globals := mainGlobals, closure := [], defaults := .none, kwdefaults := .none, pyModule := pm, code, builtins := builtinsNs } }
  | [] => default
end Mine
set_option maxRecDepth 100000
set_option Elab.async false
set_option maxHeartbeats 4000000
namespace Mine
open PySem PyProof.Rows PySem.W
/-- the classes, their namespaces, their methods and the globals, as the top leaves them -/
noncomputable def K08 : Params → W.Frag := fun P =>
  [(3,
      { cls := Value.type "dict",
        data :=
          Data.dict
            #[{ hash := PyData.keyHash P (Str.ofString "__name__"), key := Value.str (Str.ofString "__name__") 165,
                val := Value.str (Str.ofString "law_uf050023_08") 604 },
              { hash := PyData.keyHash P (Str.ofString "__doc__"), key := Value.str (Str.ofString "__doc__") 166,
                val := Value.none },
              { hash := PyData.keyHash P (Str.ofString "__package__"),
                key := Value.str (Str.ofString "__package__") 167, val := Value.none },
              { hash := PyData.keyHash P (Str.ofString "__loader__"), key := Value.str (Str.ofString "__loader__") 168,
                val := Value.builtin "__main__.__loader__#opaque" },
              { hash := PyData.keyHash P (Str.ofString "__spec__"), key := Value.str (Str.ofString "__spec__") 169,
                val := Value.none },
              { hash := PyData.keyHash P (Str.ofString "__annotations__"),
                key := Value.str (Str.ofString "__annotations__") 170, val := Value.ref 6 },
              { hash := PyData.keyHash P (Str.ofString "__builtins__"),
                key := Value.str (Str.ofString "__builtins__") 171, val := Value.ref 4 },
              { hash := PyData.keyHash P (Str.ofString "__file__"), key := Value.str (Str.ofString "__file__") 173,
                val := Value.str (Str.ofString "/claim/cut.py") 172 },
              { hash := PyData.keyHash P (Str.ofString "__cached__"), key := Value.str (Str.ofString "__cached__") 174,
                val := Value.none },
              { hash := PyData.keyHash P (Str.ofString "_wall"), key := Value.str (Str.ofString "_wall") 193,
                val := Value.ref 21 },
              { hash := PyData.keyHash P (Str.ofString "BellError"), key := Value.str (Str.ofString "BellError") 213,
                val := Value.ref 31 },
              { hash := PyData.keyHash P (Str.ofString "BadCount"), key := Value.str (Str.ofString "BadCount") 229,
                val := Value.ref 44 },
              { hash := PyData.keyHash P (Str.ofString "NoHand"), key := Value.str (Str.ofString "NoHand") 245,
                val := Value.ref 56 },
              { hash := PyData.keyHash P (Str.ofString "NoLetter"), key := Value.str (Str.ofString "NoLetter") 261,
                val := Value.ref 68 },
              { hash := PyData.keyHash P (Str.ofString "NoMail"), key := Value.str (Str.ofString "NoMail") 277,
                val := Value.ref 80 },
              { hash := PyData.keyHash P (Str.ofString "Twice"), key := Value.str (Str.ofString "Twice") 293,
                val := Value.ref 92 },
              { hash := PyData.keyHash P (Str.ofString "NotOpen"), key := Value.str (Str.ofString "NotOpen") 309,
                val := Value.ref 104 },
              { hash := PyData.keyHash P (Str.ofString "BadMark"), key := Value.str (Str.ofString "BadMark") 325,
                val := Value.ref 116 },
              { hash := PyData.keyHash P (Str.ofString "less"), key := Value.str (Str.ofString "less") 335,
                val := Value.ref 125 },
              { hash := PyData.keyHash P (Str.ofString "greatest"), key := Value.str (Str.ofString "greatest") 344,
                val := Value.ref 132 },
              { hash := PyData.keyHash P (Str.ofString "Desk"), key := Value.str (Str.ofString "Desk") 438,
                val := Value.ref 198 },
              { hash := PyData.keyHash P (Str.ofString "MOST_HANDS"), key := Value.str (Str.ofString "MOST_HANDS") 442,
                val := Value.int 40 441 },
              { hash := PyData.keyHash P (Str.ofString "is_place"), key := Value.str (Str.ofString "is_place") 450,
                val := Value.ref 209 },
              { hash := PyData.keyHash P (Str.ofString "House"), key := Value.str (Str.ofString "House") 603,
                val := Value.ref 322 },
              { hash := PyData.keyHash P (Str.ofString "_law_whole"), key := Value.str (Str.ofString "_law_whole") 612,
                val := Value.ref 333 },
              { hash := PyData.keyHash P (Str.ofString "_law_cell_at"),
                key := Value.str (Str.ofString "_law_cell_at") 620, val := Value.ref 340 },
              { hash := PyData.keyHash P (Str.ofString "_law_mark"), key := Value.str (Str.ofString "_law_mark") 627,
                val := Value.ref 347 },
              { hash := PyData.keyHash P (Str.ofString "_law_mail"), key := Value.str (Str.ofString "_law_mail") 634,
                val := Value.ref 354 },
              { hash := PyData.keyHash P (Str.ofString "_law_sign"), key := Value.str (Str.ofString "_law_sign") 642,
                val := Value.ref 361 },
              { hash := PyData.keyHash P (Str.ofString "_law_desk"), key := Value.str (Str.ofString "_law_desk") 649,
                val := Value.ref 368 },
              { hash := PyData.keyHash P (Str.ofString "_law_first"), key := Value.str (Str.ofString "_law_first") 658,
                val := Value.ref 375 },
              { hash := PyData.keyHash P (Str.ofString "_law_proposed"),
                key := Value.str (Str.ofString "_law_proposed") 666, val := Value.ref 382 },
              { hash := PyData.keyHash P (Str.ofString "_law_settled"),
                key := Value.str (Str.ofString "_law_settled") 676, val := Value.ref 389 },
              { hash := PyData.keyHash P (Str.ofString "_law_house"), key := Value.str (Str.ofString "_law_house") 682,
                val := Value.ref 394 },
              { hash := PyData.keyHash P (Str.ofString "_law_to_others"),
                key := Value.str (Str.ofString "_law_to_others") 694, val := Value.ref 401 },
              { hash := PyData.keyHash P (Str.ofString "_law_look"), key := Value.str (Str.ofString "_law_look") 703,
                val := Value.ref 408 },
              { hash := PyData.keyHash P (Str.ofString "_law_sent"), key := Value.str (Str.ofString "_law_sent") 713,
                val := Value.ref 415 },
              { hash := PyData.keyHash P (Str.ofString "_law_brought"),
                key := Value.str (Str.ofString "_law_brought") 723, val := Value.ref 422 },
              { hash := PyData.keyHash P (Str.ofString "_law_mails"), key := Value.str (Str.ofString "_law_mails") 733,
                val := Value.ref 429 },
              { hash := PyData.keyHash P (Str.ofString "_law_row"), key := Value.str (Str.ofString "_law_row") 743,
                val := Value.ref 436 },
              { hash := PyData.keyHash P (Str.ofString "_law_hand"), key := Value.str (Str.ofString "_law_hand") 753,
                val := Value.ref 443 },
              { hash := PyData.keyHash P (Str.ofString "_law_missing"),
                key := Value.str (Str.ofString "_law_missing") 762, val := Value.ref 450 },
              { hash := PyData.keyHash P (Str.ofString "_law_letter"),
                key := Value.str (Str.ofString "_law_letter") 774, val := Value.ref 457 },
              { hash := PyData.keyHash P (Str.ofString "_law_rested"),
                key := Value.str (Str.ofString "_law_rested") 784, val := Value.ref 464 },
              { hash := PyData.keyHash P (Str.ofString "_law_step"), key := Value.str (Str.ofString "_law_step") 801,
                val := Value.ref 471 },
              { hash := PyData.keyHash P (Str.ofString "law"), key := Value.str (Str.ofString "law") 816,
                val := Value.ref 478 }]
            46 }),
    (30,
      { cls := Value.type "dict",
        data :=
          Data.dict
            #[{ hash := PyData.keyHash P (Str.ofString "__module__"), key := Value.str (Str.ofString "__module__") 203,
                val := Value.str (Str.ofString "onebell.errors") 194 },
              { hash := PyData.keyHash P (Str.ofString "__firstlineno__"),
                key := Value.str (Str.ofString "__firstlineno__") 207, val := Value.int 5 206 },
              { hash := PyData.keyHash P (Str.ofString "__static_attributes__"),
                key := Value.str (Str.ofString "__static_attributes__") 208, val := Value.ref 29 },
              { hash := PyData.keyHash P (Str.ofString "__weakref__"),
                key := Value.str (Str.ofString "__weakref__") 210, val := Value.ref 32 },
              { hash := PyData.keyHash P (Str.ofString "__doc__"), key := Value.str (Str.ofString "__doc__") 211,
                val := Value.none }]
            3 }),
    (31,
      { cls := Value.type "type",
        data :=
          Data.cls
            { name := Str.ofString "BellError", bases := [Value.type "ValueError"],
              mro :=
                [Value.ref 31, Value.type "ValueError", Value.type "Exception", Value.type "BaseException",
                  Value.type "object"],
              ns := 30, qualname := Str.ofString "BellError",
              subclasses :=
                [Value.ref 44, Value.ref 56, Value.ref 68, Value.ref 80, Value.ref 92, Value.ref 104, Value.ref 116] },
        slots :=
          #[some (Value.ref 22), none, some (Value.str (Str.ofString "BellError") 196),
            some (Value.str (Str.ofString "BellError") 204), some (Value.builtin "ValueError.__new__"),
            some (Value.bool true)] }),
    (43,
      { cls := Value.type "dict",
        data :=
          Data.dict
            #[{ hash := PyData.keyHash P (Str.ofString "__module__"), key := Value.str (Str.ofString "__module__") 221,
                val := Value.str (Str.ofString "onebell.errors") 194 },
              { hash := PyData.keyHash P (Str.ofString "__firstlineno__"),
                key := Value.str (Str.ofString "__firstlineno__") 225, val := Value.int 7 224 },
              { hash := PyData.keyHash P (Str.ofString "__static_attributes__"),
                key := Value.str (Str.ofString "__static_attributes__") 226, val := Value.ref 42 },
              { hash := PyData.keyHash P (Str.ofString "__doc__"), key := Value.str (Str.ofString "__doc__") 227,
                val := Value.none }]
            2 }),
    (44,
      { cls := Value.type "type",
        data :=
          Data.cls
            { name := Str.ofString "BadCount", bases := [Value.ref 31],
              mro :=
                [Value.ref 44, Value.ref 31, Value.type "ValueError", Value.type "Exception",
                  Value.type "BaseException", Value.type "object"],
              ns := 43, qualname := Str.ofString "BadCount" },
        slots :=
          #[some (Value.ref 35), none, some (Value.str (Str.ofString "BadCount") 214),
            some (Value.str (Str.ofString "BadCount") 222), some (Value.builtin "ValueError.__new__"),
            some (Value.bool true)] }),
    (55,
      { cls := Value.type "dict",
        data :=
          Data.dict
            #[{ hash := PyData.keyHash P (Str.ofString "__module__"), key := Value.str (Str.ofString "__module__") 237,
                val := Value.str (Str.ofString "onebell.errors") 194 },
              { hash := PyData.keyHash P (Str.ofString "__firstlineno__"),
                key := Value.str (Str.ofString "__firstlineno__") 241, val := Value.int 9 240 },
              { hash := PyData.keyHash P (Str.ofString "__static_attributes__"),
                key := Value.str (Str.ofString "__static_attributes__") 242, val := Value.ref 54 },
              { hash := PyData.keyHash P (Str.ofString "__doc__"), key := Value.str (Str.ofString "__doc__") 243,
                val := Value.none }]
            2 }),
    (56,
      { cls := Value.type "type",
        data :=
          Data.cls
            { name := Str.ofString "NoHand", bases := [Value.ref 31],
              mro :=
                [Value.ref 56, Value.ref 31, Value.type "ValueError", Value.type "Exception",
                  Value.type "BaseException", Value.type "object"],
              ns := 55, qualname := Str.ofString "NoHand" },
        slots :=
          #[some (Value.ref 47), none, some (Value.str (Str.ofString "NoHand") 230),
            some (Value.str (Str.ofString "NoHand") 238), some (Value.builtin "ValueError.__new__"),
            some (Value.bool true)] }),
    (67,
      { cls := Value.type "dict",
        data :=
          Data.dict
            #[{ hash := PyData.keyHash P (Str.ofString "__module__"), key := Value.str (Str.ofString "__module__") 253,
                val := Value.str (Str.ofString "onebell.errors") 194 },
              { hash := PyData.keyHash P (Str.ofString "__firstlineno__"),
                key := Value.str (Str.ofString "__firstlineno__") 257, val := Value.int 11 256 },
              { hash := PyData.keyHash P (Str.ofString "__static_attributes__"),
                key := Value.str (Str.ofString "__static_attributes__") 258, val := Value.ref 66 },
              { hash := PyData.keyHash P (Str.ofString "__doc__"), key := Value.str (Str.ofString "__doc__") 259,
                val := Value.none }]
            2 }),
    (68,
      { cls := Value.type "type",
        data :=
          Data.cls
            { name := Str.ofString "NoLetter", bases := [Value.ref 31],
              mro :=
                [Value.ref 68, Value.ref 31, Value.type "ValueError", Value.type "Exception",
                  Value.type "BaseException", Value.type "object"],
              ns := 67, qualname := Str.ofString "NoLetter" },
        slots :=
          #[some (Value.ref 59), none, some (Value.str (Str.ofString "NoLetter") 246),
            some (Value.str (Str.ofString "NoLetter") 254), some (Value.builtin "ValueError.__new__"),
            some (Value.bool true)] }),
    (79,
      { cls := Value.type "dict",
        data :=
          Data.dict
            #[{ hash := PyData.keyHash P (Str.ofString "__module__"), key := Value.str (Str.ofString "__module__") 269,
                val := Value.str (Str.ofString "onebell.errors") 194 },
              { hash := PyData.keyHash P (Str.ofString "__firstlineno__"),
                key := Value.str (Str.ofString "__firstlineno__") 273, val := Value.int 13 272 },
              { hash := PyData.keyHash P (Str.ofString "__static_attributes__"),
                key := Value.str (Str.ofString "__static_attributes__") 274, val := Value.ref 78 },
              { hash := PyData.keyHash P (Str.ofString "__doc__"), key := Value.str (Str.ofString "__doc__") 275,
                val := Value.none }]
            2 }),
    (80,
      { cls := Value.type "type",
        data :=
          Data.cls
            { name := Str.ofString "NoMail", bases := [Value.ref 31],
              mro :=
                [Value.ref 80, Value.ref 31, Value.type "ValueError", Value.type "Exception",
                  Value.type "BaseException", Value.type "object"],
              ns := 79, qualname := Str.ofString "NoMail" },
        slots :=
          #[some (Value.ref 71), none, some (Value.str (Str.ofString "NoMail") 262),
            some (Value.str (Str.ofString "NoMail") 270), some (Value.builtin "ValueError.__new__"),
            some (Value.bool true)] }),
    (91,
      { cls := Value.type "dict",
        data :=
          Data.dict
            #[{ hash := PyData.keyHash P (Str.ofString "__module__"), key := Value.str (Str.ofString "__module__") 285,
                val := Value.str (Str.ofString "onebell.errors") 194 },
              { hash := PyData.keyHash P (Str.ofString "__firstlineno__"),
                key := Value.str (Str.ofString "__firstlineno__") 289, val := Value.int 15 288 },
              { hash := PyData.keyHash P (Str.ofString "__static_attributes__"),
                key := Value.str (Str.ofString "__static_attributes__") 290, val := Value.ref 90 },
              { hash := PyData.keyHash P (Str.ofString "__doc__"), key := Value.str (Str.ofString "__doc__") 291,
                val := Value.none }]
            2 }),
    (92,
      { cls := Value.type "type",
        data :=
          Data.cls
            { name := Str.ofString "Twice", bases := [Value.ref 31],
              mro :=
                [Value.ref 92, Value.ref 31, Value.type "ValueError", Value.type "Exception",
                  Value.type "BaseException", Value.type "object"],
              ns := 91, qualname := Str.ofString "Twice" },
        slots :=
          #[some (Value.ref 83), none, some (Value.str (Str.ofString "Twice") 278),
            some (Value.str (Str.ofString "Twice") 286), some (Value.builtin "ValueError.__new__"),
            some (Value.bool true)] }),
    (103,
      { cls := Value.type "dict",
        data :=
          Data.dict
            #[{ hash := PyData.keyHash P (Str.ofString "__module__"), key := Value.str (Str.ofString "__module__") 301,
                val := Value.str (Str.ofString "onebell.errors") 194 },
              { hash := PyData.keyHash P (Str.ofString "__firstlineno__"),
                key := Value.str (Str.ofString "__firstlineno__") 305, val := Value.int 17 304 },
              { hash := PyData.keyHash P (Str.ofString "__static_attributes__"),
                key := Value.str (Str.ofString "__static_attributes__") 306, val := Value.ref 102 },
              { hash := PyData.keyHash P (Str.ofString "__doc__"), key := Value.str (Str.ofString "__doc__") 307,
                val := Value.none }]
            2 }),
    (104,
      { cls := Value.type "type",
        data :=
          Data.cls
            { name := Str.ofString "NotOpen", bases := [Value.ref 31],
              mro :=
                [Value.ref 104, Value.ref 31, Value.type "ValueError", Value.type "Exception",
                  Value.type "BaseException", Value.type "object"],
              ns := 103, qualname := Str.ofString "NotOpen" },
        slots :=
          #[some (Value.ref 95), none, some (Value.str (Str.ofString "NotOpen") 294),
            some (Value.str (Str.ofString "NotOpen") 302), some (Value.builtin "ValueError.__new__"),
            some (Value.bool true)] }),
    (115,
      { cls := Value.type "dict",
        data :=
          Data.dict
            #[{ hash := PyData.keyHash P (Str.ofString "__module__"), key := Value.str (Str.ofString "__module__") 317,
                val := Value.str (Str.ofString "onebell.errors") 194 },
              { hash := PyData.keyHash P (Str.ofString "__firstlineno__"),
                key := Value.str (Str.ofString "__firstlineno__") 321, val := Value.int 19 320 },
              { hash := PyData.keyHash P (Str.ofString "__static_attributes__"),
                key := Value.str (Str.ofString "__static_attributes__") 322, val := Value.ref 114 },
              { hash := PyData.keyHash P (Str.ofString "__doc__"), key := Value.str (Str.ofString "__doc__") 323,
                val := Value.none }]
            2 }),
    (116,
      { cls := Value.type "type",
        data :=
          Data.cls
            { name := Str.ofString "BadMark", bases := [Value.ref 31],
              mro :=
                [Value.ref 116, Value.ref 31, Value.type "ValueError", Value.type "Exception",
                  Value.type "BaseException", Value.type "object"],
              ns := 115, qualname := Str.ofString "BadMark" },
        slots :=
          #[some (Value.ref 107), none, some (Value.str (Str.ofString "BadMark") 310),
            some (Value.str (Str.ofString "BadMark") 318), some (Value.builtin "ValueError.__new__"),
            some (Value.bool true)] }),
    (145,
      { cls := Value.type "code",
        data :=
          Data.fields
            #[Value.str (Str.ofString "__init__") 359, Value.str (Str.ofString "Desk.__init__") 360,
              Value.str (Str.ofString "/claim/cut.py") 361, Value.int 35 0, Value.int 2 0, Value.int 0 0, Value.int 0 0,
              Value.int 3 0, Value.ref 140, Value.bool true, Value.int 181 0, Value.ref 141, Value.none, Value.ref 142,
              Value.ref 143, Value.ref 144, Value.int 364 0, Value.int 35 0,
              Value.str (Str.ofString "/claim/cut.py") 365] }),
    (146, methObj PySem.Challenge.pw_uf050023_08 "Desk" "__init__" "Desk.__init__" (Value.str (Str.ofString "onebell.desk") 345) (.ref 145)),
    (152,
      { cls := Value.type "code",
        data :=
          Data.fields
            #[Value.str (Str.ofString "propose") 367, Value.str (Str.ofString "Desk.propose") 368,
              Value.str (Str.ofString "/claim/cut.py") 369, Value.int 42 0, Value.int 2 0, Value.int 0 0, Value.int 0 0,
              Value.int 3 0, Value.ref 147, Value.bool true, Value.int 181 0, Value.ref 148, Value.none, Value.ref 149,
              Value.ref 150, Value.ref 151, Value.int 372 0, Value.int 42 0,
              Value.str (Str.ofString "/claim/cut.py") 373] }),
    (153, methObj PySem.Challenge.pw_uf050023_08 "Desk" "propose" "Desk.propose" (Value.str (Str.ofString "onebell.desk") 345) (.ref 152)),
    (159,
      { cls := Value.type "code",
        data :=
          Data.fields
            #[Value.str (Str.ofString "open_place") 375, Value.str (Str.ofString "Desk.open_place") 376,
              Value.str (Str.ofString "/claim/cut.py") 377, Value.int 50 0, Value.int 2 0, Value.int 0 0, Value.int 0 0,
              Value.int 3 0, Value.ref 154, Value.bool true, Value.int 181 0, Value.ref 155, Value.none, Value.ref 156,
              Value.ref 157, Value.ref 158, Value.int 381 0, Value.int 50 0,
              Value.str (Str.ofString "/claim/cut.py") 382] }),
    (160, methObj PySem.Challenge.pw_uf050023_08 "Desk" "open_place" "Desk.open_place" (Value.str (Str.ofString "onebell.desk") 345) (.ref 159)),
    (166,
      { cls := Value.type "code",
        data :=
          Data.fields
            #[Value.str (Str.ofString "settle") 384, Value.str (Str.ofString "Desk.settle") 385,
              Value.str (Str.ofString "/claim/cut.py") 386, Value.int 56 0, Value.int 3 0, Value.int 0 0, Value.int 0 0,
              Value.int 3 0, Value.ref 161, Value.bool true, Value.int 181 0, Value.ref 162, Value.none, Value.ref 163,
              Value.ref 164, Value.ref 165, Value.int 393 0, Value.int 56 0,
              Value.str (Str.ofString "/claim/cut.py") 394] }),
    (167, methObj PySem.Challenge.pw_uf050023_08 "Desk" "settle" "Desk.settle" (Value.str (Str.ofString "onebell.desk") 345) (.ref 166)),
    (173,
      { cls := Value.type "code",
        data :=
          Data.fields
            #[Value.str (Str.ofString "least_place") 396, Value.str (Str.ofString "Desk.least_place") 397,
              Value.str (Str.ofString "/claim/cut.py") 398, Value.int 71 0, Value.int 1 0, Value.int 0 0, Value.int 0 0,
              Value.int 3 0, Value.ref 168, Value.bool true, Value.int 181 0, Value.ref 169, Value.none, Value.ref 170,
              Value.ref 171, Value.ref 172, Value.int 402 0, Value.int 71 0,
              Value.str (Str.ofString "/claim/cut.py") 403] }),
    (174, methObj PySem.Challenge.pw_uf050023_08 "Desk" "least_place" "Desk.least_place" (Value.str (Str.ofString "onebell.desk") 345) (.ref 173)),
    (180,
      { cls := Value.type "code",
        data :=
          Data.fields
            #[Value.str (Str.ofString "waiting") 405, Value.str (Str.ofString "Desk.waiting") 406,
              Value.str (Str.ofString "/claim/cut.py") 407, Value.int 80 0, Value.int 1 0, Value.int 0 0, Value.int 0 0,
              Value.int 3 0, Value.ref 175, Value.bool true, Value.int 181 0, Value.ref 176, Value.none, Value.ref 177,
              Value.ref 178, Value.ref 179, Value.int 409 0, Value.int 80 0,
              Value.str (Str.ofString "/claim/cut.py") 410] }),
    (181, methObj PySem.Challenge.pw_uf050023_08 "Desk" "waiting" "Desk.waiting" (Value.str (Str.ofString "onebell.desk") 345) (.ref 180)),
    (187,
      { cls := Value.type "code",
        data :=
          Data.fields
            #[Value.str (Str.ofString "handed") 412, Value.str (Str.ofString "Desk.handed") 413,
              Value.str (Str.ofString "/claim/cut.py") 414, Value.int 83 0, Value.int 1 0, Value.int 0 0, Value.int 0 0,
              Value.int 3 0, Value.ref 182, Value.bool true, Value.int 181 0, Value.ref 183, Value.none, Value.ref 184,
              Value.ref 185, Value.ref 186, Value.int 416 0, Value.int 83 0,
              Value.str (Str.ofString "/claim/cut.py") 417] }),
    (188, methObj PySem.Challenge.pw_uf050023_08 "Desk" "handed" "Desk.handed" (Value.str (Str.ofString "onebell.desk") 345) (.ref 187)),
    (194,
      { cls := Value.type "code",
        data :=
          Data.fields
            #[Value.str (Str.ofString "clock") 419, Value.str (Str.ofString "Desk.clock") 420,
              Value.str (Str.ofString "/claim/cut.py") 421, Value.int 86 0, Value.int 1 0, Value.int 0 0, Value.int 0 0,
              Value.int 3 0, Value.ref 189, Value.bool true, Value.int 181 0, Value.ref 190, Value.none, Value.ref 191,
              Value.ref 192, Value.ref 193, Value.int 423 0, Value.int 86 0,
              Value.str (Str.ofString "/claim/cut.py") 424] }),
    (195, methObj PySem.Challenge.pw_uf050023_08 "Desk" "clock" "Desk.clock" (Value.str (Str.ofString "onebell.desk") 345) (.ref 194)),
    (197,
      { cls := Value.type "dict",
        data :=
          Data.dict
            #[{ hash := PyData.keyHash P (Str.ofString "__module__"), key := Value.str (Str.ofString "__module__") 354,
                val := Value.str (Str.ofString "onebell.desk") 345 },
              { hash := PyData.keyHash P (Str.ofString "__firstlineno__"),
                key := Value.str (Str.ofString "__firstlineno__") 358, val := Value.int 33 357 },
              { hash := PyData.keyHash P (Str.ofString "__init__"), key := Value.str (Str.ofString "__init__") 366,
                val := Value.ref 146 },
              { hash := PyData.keyHash P (Str.ofString "propose"), key := Value.str (Str.ofString "propose") 374,
                val := Value.ref 153 },
              { hash := PyData.keyHash P (Str.ofString "open_place"), key := Value.str (Str.ofString "open_place") 383,
                val := Value.ref 160 },
              { hash := PyData.keyHash P (Str.ofString "settle"), key := Value.str (Str.ofString "settle") 395,
                val := Value.ref 167 },
              { hash := PyData.keyHash P (Str.ofString "least_place"),
                key := Value.str (Str.ofString "least_place") 404, val := Value.ref 174 },
              { hash := PyData.keyHash P (Str.ofString "waiting"), key := Value.str (Str.ofString "waiting") 411,
                val := Value.ref 181 },
              { hash := PyData.keyHash P (Str.ofString "handed"), key := Value.str (Str.ofString "handed") 418,
                val := Value.ref 188 },
              { hash := PyData.keyHash P (Str.ofString "clock"), key := Value.str (Str.ofString "clock") 425,
                val := Value.ref 195 },
              { hash := PyData.keyHash P (Str.ofString "__static_attributes__"),
                key := Value.str (Str.ofString "__static_attributes__") 431, val := Value.ref 196 },
              { hash := PyData.keyHash P (Str.ofString "__dict__"), key := Value.str (Str.ofString "__dict__") 433,
                val := Value.ref 199 },
              { hash := PyData.keyHash P (Str.ofString "__weakref__"),
                key := Value.str (Str.ofString "__weakref__") 435, val := Value.ref 200 },
              { hash := PyData.keyHash P (Str.ofString "__doc__"), key := Value.str (Str.ofString "__doc__") 436,
                val := Value.none }]
            4 }),
    (198,
      { cls := Value.type "type",
        data :=
          Data.cls
            { name := Str.ofString "Desk", bases := [Value.type "object"], mro := [Value.ref 198, Value.type "object"],
              ns := 197, qualname := Str.ofString "Desk" },
        slots :=
          #[none, none, some (Value.str (Str.ofString "Desk") 347), some (Value.str (Str.ofString "Desk") 355),
            some (Value.builtin "object.__new__"), some (Value.bool true)] }),
    (220,
      { cls := Value.type "code",
        data :=
          Data.fields
            #[Value.str (Str.ofString "__init__") 463, Value.str (Str.ofString "House.__init__") 464,
              Value.str (Str.ofString "/claim/cut.py") 465, Value.int 94 0, Value.int 2 0, Value.int 0 0, Value.int 0 0,
              Value.int 3 0, Value.ref 217, Value.bool true, Value.int 181 0, Value.ref 218, Value.none, Value.none,
              Value.none, Value.ref 219, Value.int 466 0, Value.int 94 0,
              Value.str (Str.ofString "/claim/cut.py") 467] }),
    (221, methObj PySem.Challenge.pw_uf050023_08 "House" "__init__" "House.__init__" (Value.str (Str.ofString "onebell.house") 439) (.ref 220)),
    (227,
      { cls := Value.type "code",
        data :=
          Data.fields
            #[Value.str (Str.ofString "need_hand") 469, Value.str (Str.ofString "House.need_hand") 470,
              Value.str (Str.ofString "/claim/cut.py") 471, Value.int 104 0, Value.int 2 0, Value.int 0 0,
              Value.int 0 0, Value.int 3 0, Value.ref 222, Value.bool true, Value.int 181 0, Value.ref 223, Value.none,
              Value.ref 224, Value.ref 225, Value.ref 226, Value.int 474 0, Value.int 104 0,
              Value.str (Str.ofString "/claim/cut.py") 475] }),
    (228, methObj PySem.Challenge.pw_uf050023_08 "House" "need_hand" "House.need_hand" (Value.str (Str.ofString "onebell.house") 439) (.ref 227)),
    (234,
      { cls := Value.type "code",
        data :=
          Data.fields
            #[Value.str (Str.ofString "need_letter") 477, Value.str (Str.ofString "House.need_letter") 478,
              Value.str (Str.ofString "/claim/cut.py") 479, Value.int 108 0, Value.int 2 0, Value.int 0 0,
              Value.int 0 0, Value.int 3 0, Value.ref 229, Value.bool true, Value.int 181 0, Value.ref 230, Value.none,
              Value.ref 231, Value.ref 232, Value.ref 233, Value.int 482 0, Value.int 108 0,
              Value.str (Str.ofString "/claim/cut.py") 483] }),
    (235, methObj PySem.Challenge.pw_uf050023_08 "House" "need_letter" "House.need_letter" (Value.str (Str.ofString "onebell.house") 439) (.ref 234)),
    (241,
      { cls := Value.type "code",
        data :=
          Data.fields
            #[Value.str (Str.ofString "to_others") 485, Value.str (Str.ofString "House.to_others") 486,
              Value.str (Str.ofString "/claim/cut.py") 487, Value.int 112 0, Value.int 4 0, Value.int 0 0,
              Value.int 0 0, Value.int 3 0, Value.ref 236, Value.bool true, Value.int 181 0, Value.ref 237, Value.none,
              Value.ref 238, Value.ref 239, Value.ref 240, Value.int 494 0, Value.int 112 0,
              Value.str (Str.ofString "/claim/cut.py") 495] }),
    (242, methObj PySem.Challenge.pw_uf050023_08 "House" "to_others" "House.to_others" (Value.str (Str.ofString "onebell.house") 439) (.ref 241)),
    (248,
      { cls := Value.type "code",
        data :=
          Data.fields
            #[Value.str (Str.ofString "send") 497, Value.str (Str.ofString "House.send") 498,
              Value.str (Str.ofString "/claim/cut.py") 499, Value.int 118 0, Value.int 3 0, Value.int 0 0,
              Value.int 0 0, Value.int 3 0, Value.ref 243, Value.bool true, Value.int 181 0, Value.ref 244, Value.none,
              Value.ref 245, Value.ref 246, Value.ref 247, Value.int 504 0, Value.int 118 0,
              Value.str (Str.ofString "/claim/cut.py") 505] }),
    (249, methObj PySem.Challenge.pw_uf050023_08 "House" "send" "House.send" (Value.str (Str.ofString "onebell.house") 439) (.ref 248)),
    (255,
      { cls := Value.type "code",
        data :=
          Data.fields
            #[Value.str (Str.ofString "close") 507, Value.str (Str.ofString "House.close") 508,
              Value.str (Str.ofString "/claim/cut.py") 509, Value.int 129 0, Value.int 2 0, Value.int 0 0,
              Value.int 0 0, Value.int 3 0, Value.ref 250, Value.bool true, Value.int 181 0, Value.ref 251, Value.none,
              Value.ref 252, Value.ref 253, Value.ref 254, Value.int 513 0, Value.int 129 0,
              Value.str (Str.ofString "/claim/cut.py") 514] }),
    (256, methObj PySem.Challenge.pw_uf050023_08 "House" "close" "House.close" (Value.str (Str.ofString "onebell.house") 439) (.ref 255)),
    (262,
      { cls := Value.type "code",
        data :=
          Data.fields
            #[Value.str (Str.ofString "mails") 516, Value.str (Str.ofString "House.mails") 517,
              Value.str (Str.ofString "/claim/cut.py") 518, Value.int 137 0, Value.int 1 0, Value.int 0 0,
              Value.int 0 0, Value.int 3 0, Value.ref 257, Value.bool true, Value.int 181 0, Value.ref 258, Value.none,
              Value.ref 259, Value.ref 260, Value.ref 261, Value.int 520 0, Value.int 137 0,
              Value.str (Str.ofString "/claim/cut.py") 521] }),
    (263, methObj PySem.Challenge.pw_uf050023_08 "House" "mails" "House.mails" (Value.str (Str.ofString "onebell.house") 439) (.ref 262)),
    (269,
      { cls := Value.type "code",
        data :=
          Data.fields
            #[Value.str (Str.ofString "bring") 523, Value.str (Str.ofString "House.bring") 524,
              Value.str (Str.ofString "/claim/cut.py") 525, Value.int 140 0, Value.int 2 0, Value.int 0 0,
              Value.int 0 0, Value.int 3 0, Value.ref 264, Value.bool true, Value.int 181 0, Value.ref 265, Value.none,
              Value.ref 266, Value.ref 267, Value.ref 268, Value.int 532 0, Value.int 140 0,
              Value.str (Str.ofString "/claim/cut.py") 533] }),
    (270, methObj PySem.Challenge.pw_uf050023_08 "House" "bring" "House.bring" (Value.str (Str.ofString "onebell.house") 439) (.ref 269)),
    (276,
      { cls := Value.type "code",
        data :=
          Data.fields
            #[Value.str (Str.ofString "rest") 535, Value.str (Str.ofString "House.rest") 536,
              Value.str (Str.ofString "/claim/cut.py") 537, Value.int 156 0, Value.int 1 0, Value.int 0 0,
              Value.int 0 0, Value.int 3 0, Value.ref 271, Value.bool true, Value.int 181 0, Value.ref 272, Value.none,
              Value.ref 273, Value.ref 274, Value.ref 275, Value.int 540 0, Value.int 156 0,
              Value.str (Str.ofString "/claim/cut.py") 541] }),
    (277, methObj PySem.Challenge.pw_uf050023_08 "House" "rest" "House.rest" (Value.str (Str.ofString "onebell.house") 439) (.ref 276)),
    (283,
      { cls := Value.type "code",
        data :=
          Data.fields
            #[Value.str (Str.ofString "letters") 543, Value.str (Str.ofString "House.letters") 544,
              Value.str (Str.ofString "/claim/cut.py") 545, Value.int 163 0, Value.int 1 0, Value.int 0 0,
              Value.int 0 0, Value.int 3 0, Value.ref 278, Value.bool true, Value.int 181 0, Value.ref 279, Value.none,
              Value.ref 280, Value.ref 281, Value.ref 282, Value.int 547 0, Value.int 163 0,
              Value.str (Str.ofString "/claim/cut.py") 548] }),
    (284, methObj PySem.Challenge.pw_uf050023_08 "House" "letters" "House.letters" (Value.str (Str.ofString "onebell.house") 439) (.ref 283)),
    (290,
      { cls := Value.type "code",
        data :=
          Data.fields
            #[Value.str (Str.ofString "sender") 550, Value.str (Str.ofString "House.sender") 551,
              Value.str (Str.ofString "/claim/cut.py") 552, Value.int 166 0, Value.int 2 0, Value.int 0 0,
              Value.int 0 0, Value.int 3 0, Value.ref 285, Value.bool true, Value.int 181 0, Value.ref 286, Value.none,
              Value.ref 287, Value.ref 288, Value.ref 289, Value.int 555 0, Value.int 166 0,
              Value.str (Str.ofString "/claim/cut.py") 556] }),
    (291, methObj PySem.Challenge.pw_uf050023_08 "House" "sender" "House.sender" (Value.str (Str.ofString "onebell.house") 439) (.ref 290)),
    (297,
      { cls := Value.type "code",
        data :=
          Data.fields
            #[Value.str (Str.ofString "text") 558, Value.str (Str.ofString "House.text") 559,
              Value.str (Str.ofString "/claim/cut.py") 560, Value.int 170 0, Value.int 2 0, Value.int 0 0,
              Value.int 0 0, Value.int 3 0, Value.ref 292, Value.bool true, Value.int 181 0, Value.ref 293, Value.none,
              Value.ref 294, Value.ref 295, Value.ref 296, Value.int 563 0, Value.int 170 0,
              Value.str (Str.ofString "/claim/cut.py") 564] }),
    (298, methObj PySem.Challenge.pw_uf050023_08 "House" "text" "House.text" (Value.str (Str.ofString "onebell.house") 439) (.ref 297)),
    (304,
      { cls := Value.type "code",
        data :=
          Data.fields
            #[Value.str (Str.ofString "mark") 566, Value.str (Str.ofString "House.mark") 567,
              Value.str (Str.ofString "/claim/cut.py") 568, Value.int 174 0, Value.int 2 0, Value.int 0 0,
              Value.int 0 0, Value.int 3 0, Value.ref 299, Value.bool true, Value.int 181 0, Value.ref 300, Value.none,
              Value.ref 301, Value.ref 302, Value.ref 303, Value.int 571 0, Value.int 174 0,
              Value.str (Str.ofString "/claim/cut.py") 572] }),
    (305, methObj PySem.Challenge.pw_uf050023_08 "House" "mark" "House.mark" (Value.str (Str.ofString "onebell.house") 439) (.ref 304)),
    (311,
      { cls := Value.type "code",
        data :=
          Data.fields
            #[Value.str (Str.ofString "handed") 574, Value.str (Str.ofString "House.handed") 575,
              Value.str (Str.ofString "/claim/cut.py") 576, Value.int 178 0, Value.int 2 0, Value.int 0 0,
              Value.int 0 0, Value.int 3 0, Value.ref 306, Value.bool true, Value.int 181 0, Value.ref 307, Value.none,
              Value.ref 308, Value.ref 309, Value.ref 310, Value.int 579 0, Value.int 178 0,
              Value.str (Str.ofString "/claim/cut.py") 580] }),
    (312, methObj PySem.Challenge.pw_uf050023_08 "House" "handed" "House.handed" (Value.str (Str.ofString "onebell.house") 439) (.ref 311)),
    (318,
      { cls := Value.type "code",
        data :=
          Data.fields
            #[Value.str (Str.ofString "clock") 582, Value.str (Str.ofString "House.clock") 583,
              Value.str (Str.ofString "/claim/cut.py") 584, Value.int 182 0, Value.int 2 0, Value.int 0 0,
              Value.int 0 0, Value.int 3 0, Value.ref 313, Value.bool true, Value.int 181 0, Value.ref 314, Value.none,
              Value.ref 315, Value.ref 316, Value.ref 317, Value.int 587 0, Value.int 182 0,
              Value.str (Str.ofString "/claim/cut.py") 588] }),
    (319, methObj PySem.Challenge.pw_uf050023_08 "House" "clock" "House.clock" (Value.str (Str.ofString "onebell.house") 439) (.ref 318)),
    (321,
      { cls := Value.type "dict",
        data :=
          Data.dict
            #[{ hash := PyData.keyHash P (Str.ofString "__module__"), key := Value.str (Str.ofString "__module__") 458,
                val := Value.str (Str.ofString "onebell.house") 439 },
              { hash := PyData.keyHash P (Str.ofString "__firstlineno__"),
                key := Value.str (Str.ofString "__firstlineno__") 462, val := Value.int 92 461 },
              { hash := PyData.keyHash P (Str.ofString "__init__"), key := Value.str (Str.ofString "__init__") 468,
                val := Value.ref 221 },
              { hash := PyData.keyHash P (Str.ofString "need_hand"), key := Value.str (Str.ofString "need_hand") 476,
                val := Value.ref 228 },
              { hash := PyData.keyHash P (Str.ofString "need_letter"),
                key := Value.str (Str.ofString "need_letter") 484, val := Value.ref 235 },
              { hash := PyData.keyHash P (Str.ofString "to_others"), key := Value.str (Str.ofString "to_others") 496,
                val := Value.ref 242 },
              { hash := PyData.keyHash P (Str.ofString "send"), key := Value.str (Str.ofString "send") 506,
                val := Value.ref 249 },
              { hash := PyData.keyHash P (Str.ofString "close"), key := Value.str (Str.ofString "close") 515,
                val := Value.ref 256 },
              { hash := PyData.keyHash P (Str.ofString "mails"), key := Value.str (Str.ofString "mails") 522,
                val := Value.ref 263 },
              { hash := PyData.keyHash P (Str.ofString "bring"), key := Value.str (Str.ofString "bring") 534,
                val := Value.ref 270 },
              { hash := PyData.keyHash P (Str.ofString "rest"), key := Value.str (Str.ofString "rest") 542,
                val := Value.ref 277 },
              { hash := PyData.keyHash P (Str.ofString "letters"), key := Value.str (Str.ofString "letters") 549,
                val := Value.ref 284 },
              { hash := PyData.keyHash P (Str.ofString "sender"), key := Value.str (Str.ofString "sender") 557,
                val := Value.ref 291 },
              { hash := PyData.keyHash P (Str.ofString "text"), key := Value.str (Str.ofString "text") 565,
                val := Value.ref 298 },
              { hash := PyData.keyHash P (Str.ofString "mark"), key := Value.str (Str.ofString "mark") 573,
                val := Value.ref 305 },
              { hash := PyData.keyHash P (Str.ofString "handed"), key := Value.str (Str.ofString "handed") 581,
                val := Value.ref 312 },
              { hash := PyData.keyHash P (Str.ofString "clock"), key := Value.str (Str.ofString "clock") 589,
                val := Value.ref 319 },
              { hash := PyData.keyHash P (Str.ofString "__static_attributes__"),
                key := Value.str (Str.ofString "__static_attributes__") 596, val := Value.ref 320 },
              { hash := PyData.keyHash P (Str.ofString "__dict__"), key := Value.str (Str.ofString "__dict__") 598,
                val := Value.ref 323 },
              { hash := PyData.keyHash P (Str.ofString "__weakref__"),
                key := Value.str (Str.ofString "__weakref__") 600, val := Value.ref 324 },
              { hash := PyData.keyHash P (Str.ofString "__doc__"), key := Value.str (Str.ofString "__doc__") 601,
                val := Value.none }]
            4 }),
    (322,
      { cls := Value.type "type",
        data :=
          Data.cls
            { name := Str.ofString "House", bases := [Value.type "object"], mro := [Value.ref 322, Value.type "object"],
              ns := 321, qualname := Str.ofString "House" },
        slots :=
          #[none, none, some (Value.str (Str.ofString "House") 451), some (Value.str (Str.ofString "House") 459),
            some (Value.builtin "object.__new__"), some (Value.bool true)] })]
theorem k08 : ∀ P, [3, 30, 31, 43, 44, 55, 56, 67, 68, 79, 80, 91, 92, 103, 104, 115, 116, 145, 146, 152, 153, 159, 160, 166, 167, 173, 174, 180, 181, 187, 188, 194, 195, 197, 198, 220, 221, 227, 228, 234, 235, 241, 242, 248, 249, 255, 256, 262, 263, 269, 270, 276, 277, 283, 284, 290, 291, 297, 298, 304, 305, 311, 312, 318, 319, 321, 322] = (K08 P).map (·.1) := fun P => by kernel_rfl
noncomputable def hk08 : Hook := kHook K08 [3, 30, 31, 43, 44, 55, 56, 67, 68, 79, 80, 91, 92, 103, 104, 115, 116, 145, 146, 152, 153, 159, 160, 166, 167, 173, 174, 180, 181, 187, 188, 194, 195, 197, 198, 220, 221, 227, 228, 234, 235, 241, 242, 248, 249, 255, 256, 262, 263, 269, 270, 276, 277, 283, 284, 290, 291, 297, 298, 304, 305, 311, 312, 318, 319, 321, 322] k08
noncomputable def q08 : Program := view PySem.Challenge.pw_uf050023_08 [0, 2, 3, 4, 5, 6, 7, 8, 9, 11, 12, 14, 16, 17, 18, 20, 21, 22, 23, 24, 25, 26, 27, 28, 29, 30, 31, 32, 33, 34, 35, 36, 37, 38, 39, 40, 41]
theorem left08a (w : World) : (openEnds treeTable PySem.Challenge.pw_uf050023_08 w 7480).map (fun s => seen ((recsOf q08).map (·.name)) (ownsOf q08) [] { s with gens := #[] }) = some ((expectedOf q08)) := by kernel_rfl
theorem left08b (w : World) : (openEnds treeTable PySem.Challenge.pw_uf050023_08 w 7480).map (fun s => (s.heap.keysOk (looseW q08 []) ((recsOf q08).map (·.name)) ((litsOf q08).map (·.1)) ((clssOf q08 (looseW q08 [])).map (·.name)) && s.heap.accountedOkI (importedModules PySem.Challenge.pw_uf050023_08.main.body) && s.heap.isNs mainGlobals && s.heap.isNs builtinsNs && tablesOk q08 s.heap && (fun s => xlAt q08 [] s && recOk (RowW.records (OpenRow.toRowW PySem.Challenge.rw_uf050023_08.row)) s) s && (if true then s.gens.size == 0 else !leftWithCleanup s.gens), wideSeen q08 s, clsSeenW q08 [] s)) = some (((true), (wideGood q08), (clsGoodW q08 []))) := by kernel_rfl
theorem left08c (w : World) : (openEnds treeTable PySem.Challenge.pw_uf050023_08 w 7480).map (fun s => tabsOk q08 s) = some ((true)) := by kernel_rfl
theorem left08d (w : World) : (openEnds treeTable PySem.Challenge.pw_uf050023_08 w 7480).map (fun s => plainSeenE q08 (looseW q08 []) s) = some ((plainGoodE q08 (looseW q08 []))) := by kernel_rfl
theorem left08e (w : World) : (openEnds treeTable PySem.Challenge.pw_uf050023_08 w 7480).map (fun s => (s.heap.bltView, pinSeenD q08 (drecsOf q08) s, plainSeenD q08 [] s, Hook.obs hk08 s)) = some (((bltViewBooted), (pinGoodD (drecsOf q08)), (plainGoodD q08 []), Hook.val hk08 w)) := by kernel_rfl
theorem left_join {ε α₁ α₂ α₃ α₄ α₅ α₆ α₇ α₈ α₉ α₁₀ : Type} {o : Option ε} {f₁ : ε → α₁} {f₂ : ε → α₂} {f₃ : ε → α₃} {f₄ : ε → α₄} {f₅ : ε → α₅} {f₆ : ε → α₆} {f₇ : ε → α₇} {f₈ : ε → α₈} {f₉ : ε → α₉} {f₁₀ : ε → α₁₀} {a₁ : α₁} {a₂ : α₂} {a₃ : α₃} {a₄ : α₄} {a₅ : α₅} {a₆ : α₆} {a₇ : α₇} {a₈ : α₈} {a₉ : α₉} {a₁₀ : α₁₀}
    (h1 : o.map f₁ = some a₁) (h2 : o.map (fun s => (f₃ s, f₈ s, f₉ s)) = some (a₃, a₈, a₉)) (h3 : o.map f₄ = some a₄) (h4 : o.map f₆ = some a₆) (h5 : o.map (fun s => (f₂ s, f₅ s, f₇ s, f₁₀ s)) = some (a₂, a₅, a₇, a₁₀)) :
    o.map (fun s => ((f₁ s, f₂ s, f₃ s, f₄ s, f₅ s, f₆ s, f₇ s, f₈ s, f₉ s), f₁₀ s)) = some ((a₁, a₂, a₃, a₄, a₅, a₆, a₇, a₈, a₉), a₁₀) := by
  cases o with
  | none => cases h4
  | some s =>
    cases Option.some.inj h1
    cases Option.some.inj h2
    cases Option.some.inj h3
    cases Option.some.inj h4
    cases Option.some.inj h5
    rfl
theorem left08 : LeftO PySem.Challenge.pw_uf050023_08 q08 [] (fun s => xlAt q08 [] s && recOk (RowW.records (OpenRow.toRowW PySem.Challenge.rw_uf050023_08.row)) s) (Hook.obs hk08) (Hook.val hk08) 7480 := fun w => left_join (left08a w) (left08b w) (left08c w) (left08d w) (left08e w)
end Mine
set_option maxRecDepth 100000
namespace Mine
open PySem PyProof.Rows
/-- the goal as a variable -/
theorem byP {G : Prop} (h : ∀ P : Prop, (G → P) → P) : G := h G id

theorem lv {a b n : Nat} (h : b ≤ n) (q : a ≤ b := by decide) : a ≤ n := Nat.le_trans q h
theorem lv1 {a b n : Nat} (h : b ≤ n + 1) (q : a + 1 ≤ b := by decide) : a ≤ n := Nat.le_of_succ_le_succ (Nat.le_trans q h)
theorem lv2 {a b n : Nat} (h : b ≤ n + 2) (q : a + 2 ≤ b := by decide) : a ≤ n := by omega
/-- abstract values: tuples by structure, all else by value (no tokens) -/
inductive AV where
  | none
  | bool (b : Bool)
  | int (i : Int)
  | str (s : Str)
  | tup (vs : List AV)
  | ref (a : Addr)
  | val (v : Value)
  | exn (e : Addr) (cls : Value)
  deriving Inhabited

abbrev Hid := Addr → Option Obj
/-- of the same class, with the same dict -/
noncomputable def Same2 (o' o : Obj) : Prop := o'.cls = o.cls ∧ o'.dict = o.dict
theorem Same2.rfl {o : Obj} : Same2 o o := ⟨Eq.refl _, Eq.refl _⟩
theorem Same2.trans {a b c : Obj} (x : Same2 a b) (y : Same2 b c) : Same2 a c := ⟨x.1.trans y.1, x.2.trans y.2⟩
theorem same2_map (f : Array Value → Array Value) (o : Obj) : Same2 (Obj.mapFields f o) o := by
  obtain ⟨c, d, dt, sl⟩ := o; cases dt <;> exact .rfl
/-- an exception's fields -/
noncomputable def ExcVs (vs : Array Value) : Prop := 5 < vs.size ∧ vs[2]? = some .none

mutual
noncomputable def Rel (H : Hid) (h : Heap) : AV → Value → Prop
  | .none, v => v = .none
  | .bool b, v => v = .bool b
  | .int i, v => ∃ t, v = .int i t
  | .str s, v => ∃ t, v = .str s t
  | .tup vs, v => ∃ a items, v = .ref a ∧ IsTup h a items ∧ H a = none ∧ RelL H h vs items.toList
  | .ref a, v => v = .ref a
  | .val u, v => v = u
  | .exn e cls, v => v = .ref e ∧ ∃ C o vs, cls = .ref C ∧ h.get? e = some o ∧ (o.cls = cls ∧ o.dict = none) ∧ o.data = .fields vs
noncomputable def RelL (H : Hid) (h : Heap) : List AV → List Value → Prop
  | [], vs => vs = []
  | a :: as, vs => ∃ v r, vs = v :: r ∧ Rel H h a v ∧ RelL H h as r
end

/-- tuples stay, records stay records of their class -/
structure Grow (H : Hid) (h h' : Heap) : Prop where
  tup : ∀ a items, H a = none → IsTup h a items → IsTup h' a items
  recs : ∀ a o vs C, h.get? a = some o → o.cls = .ref C → o.data = .fields vs → ∃ o' vs', h'.get? a = some o' ∧ Same2 o' o ∧ o'.data = .fields vs'
theorem Grow.refl (H : Hid) (h : Heap) : Grow H h h := ⟨fun _ _ _ x => x, fun _ o vs _ e _ q => ⟨o, vs, e, .rfl, q⟩⟩
theorem Grow.trans {H : Hid} {h h' h'' : Heap} (x : Grow H h h') (y : Grow H h' h'') : Grow H h h'' :=
  ⟨fun a i n z => y.tup a i n (x.tup a i n z), fun a o vs C e z q => by
    obtain ⟨o', vs', e', c, q'⟩ := x.recs a o vs C e z q
    obtain ⟨o'', vs'', e'', c', q''⟩ := y.recs a o' vs' C e' (c.1.trans z) q'
    exact ⟨o'', vs'', e'', c'.trans c, q''⟩⟩

mutual
theorem Rel.grow {H : Hid} {h h' : Heap} (g : Grow H h h') : ∀ {a : AV} {v : Value}, Rel H h a v → Rel H h' a v
  | .none, _, r => by simpa [Rel] using r
  | .bool _, _, r => by simpa [Rel] using r
  | .int _, _, r => by simpa [Rel] using r
  | .str _, _, r => by simpa [Rel] using r
  | .tup vs, _, r => by
    simp only [Rel] at r ⊢
    obtain ⟨a, items, e, t, n, l⟩ := r
    exact ⟨a, items, e, g.tup a items n t, n, RelL.grow g l⟩
  | .ref _, _, r => by simpa [Rel] using r
  | .val _, _, r => by simpa [Rel] using r
  | .exn _ _, _, r => by
    simp only [Rel] at r ⊢
    obtain ⟨e, C, o, vs, z, a, b, c⟩ := r
    obtain ⟨o', vs', a', b', c'⟩ := g.recs _ o vs C a (b.1.trans z) c
    exact ⟨e, C, o', vs', z, a', ⟨b'.1.trans b.1, b'.2.trans b.2⟩, c'⟩
theorem RelL.grow {H : Hid} {h h' : Heap} (g : Grow H h h') : ∀ {as : List AV} {vs : List Value}, RelL H h as vs → RelL H h' as vs
  | [], _, r => by simpa [RelL] using r
  | a :: as, _, r => by
    simp only [RelL] at r ⊢
    obtain ⟨v, rest, e, r1, r2⟩ := r
    exact ⟨v, rest, e, Rel.grow g r1, RelL.grow g r2⟩
end

theorem RelL.length {H : Hid} {h : Heap} : ∀ {as : List AV} {vs : List Value}, RelL H h as vs → vs.length = as.length
  | [], _, r => by simp only [RelL] at r; subst r; rfl
  | a :: as, _, r => by
    simp only [RelL] at r
    obtain ⟨v, rest, rfl, _, r2⟩ := r
    simp [RelL.length r2]
theorem RelL.get {H : Hid} {h : Heap} : ∀ {as : List AV} {vs : List Value} (i : Nat) {a : AV}, RelL H h as vs → as[i]? = some a → ∃ v, vs[i]? = some v ∧ Rel H h a v
  | [], _, i, a, r, e => by simp at e
  | b :: as, _, i, a, r, e => by
    simp only [RelL] at r
    obtain ⟨v, rest, rfl, r1, r2⟩ := r
    cases i with
    | zero => simp at e; subst e; exact ⟨v, by simp, r1⟩
    | succ i => simp at e; obtain ⟨u, e1, e2⟩ := RelL.get i r2 e; exact ⟨u, by simpa using e1, e2⟩
theorem RelL.append {H : Hid} {h : Heap} : ∀ {as bs : List AV} {vs ws : List Value}, RelL H h as vs → RelL H h bs ws → RelL H h (as ++ bs) (vs ++ ws)
  | [], _, _, _, r, r' => by simp only [RelL] at r; subst r; simpa using r'
  | a :: as, _, _, _, r, r' => by
    simp only [RelL] at r
    obtain ⟨v, rest, rfl, r1, r2⟩ := r
    simp only [List.cons_append, RelL]
    exact ⟨v, _, rfl, r1, RelL.append r2 r'⟩
theorem RelL.one {H : Hid} {h : Heap} {a : AV} {v : Value} (r : Rel H h a v) : RelL H h [a] [v] := by simp only [RelL]; exact ⟨v, [], rfl, r, rfl⟩
theorem RelL.nil {H : Hid} {h : Heap} : RelL H h [] [] := by simp [RelL]
theorem RelL.cons {H : Hid} {h : Heap} {a : AV} {v : Value} {as : List AV} {vs : List Value} (r : Rel H h a v) (rs : RelL H h as vs) : RelL H h (a :: as) (v :: vs) := by
  simp only [RelL]; exact ⟨v, vs, rfl, r, rs⟩
theorem RelL.set {H : Hid} {h : Heap} : ∀ {as : List AV} {vs : List Value} (n : Nat) {a : AV} {v : Value}, RelL H h as vs → Rel H h a v → RelL H h (as.set n a) (vs.set n v)
  | [], _, n, _, _, r, _ => by simp only [RelL] at r; subst r; simp [RelL]
  | a :: as, _, 0, _, _, r, q => by
    simp only [RelL] at r
    obtain ⟨v, rest, rfl, r1, r2⟩ := r
    exact RelL.cons q r2
  | a :: as, _, n + 1, _, _, r, q => by
    simp only [RelL] at r
    obtain ⟨v, rest, rfl, r1, r2⟩ := r
    exact RelL.cons r1 (RelL.set n r2 q)
theorem RelL.eraseIdx {H : Hid} {h : Heap} : ∀ {as : List AV} {vs : List Value} (n : Nat), RelL H h as vs → RelL H h (as.eraseIdx n) (vs.eraseIdx n)
  | [], _, n, r => by simp only [RelL] at r; subst r; simp [RelL]
  | a :: as, _, 0, r => by
    simp only [RelL] at r
    obtain ⟨v, rest, rfl, r1, r2⟩ := r
    simpa using r2
  | a :: as, _, n + 1, r => by
    simp only [RelL] at r
    obtain ⟨v, rest, rfl, r1, r2⟩ := r
    exact RelL.cons r1 (RelL.eraseIdx n r2)

noncomputable def RelO (H : Hid) (h : Heap) : Option AV → Option Value → Prop
  | none, none => True
  | some a, some v => Rel H h a v
  | _, _ => False
theorem RelO.grow {H : Hid} {h h' : Heap} (g : Grow H h h') {a : Option AV} {v : Option Value} (r : RelO H h a v) : RelO H h' a v := by
  cases a <;> cases v <;> simp only [RelO] at r ⊢
  exact r.grow g


mutual
/-- what is hidden may turn, if no tuple of it -/
theorem Rel.dom {H H' : Hid} {h : Heap} (d : ∀ a items, IsTup h a items → H a = none → H' a = none) : ∀ {a : AV} {v : Value}, Rel H h a v → Rel H' h a v
  | .none, _, r => by simpa [Rel] using r
  | .bool _, _, r => by simpa [Rel] using r
  | .int _, _, r => by simpa [Rel] using r
  | .str _, _, r => by simpa [Rel] using r
  | .tup vs, _, r => by
    simp only [Rel] at r ⊢
    obtain ⟨a, items, e, t, n, l⟩ := r
    exact ⟨a, items, e, t, d a items t n, RelL.dom d l⟩
  | .ref _, _, r => by simpa [Rel] using r
  | .val _, _, r => by simpa [Rel] using r
  | .exn _ _, _, r => by simpa [Rel] using r
theorem RelL.dom {H H' : Hid} {h : Heap} (d : ∀ a items, IsTup h a items → H a = none → H' a = none) : ∀ {as : List AV} {vs : List Value}, RelL H h as vs → RelL H' h as vs
  | [], _, r => by simpa [RelL] using r
  | a :: as, _, r => by
    simp only [RelL] at r ⊢
    obtain ⟨v, rest, e, r1, r2⟩ := r
    exact ⟨v, rest, e, Rel.dom d r1, RelL.dom d r2⟩
end
theorem RelO.dom {H H' : Hid} {h : Heap} (d : ∀ a items, IsTup h a items → H a = none → H' a = none) {a : Option AV} {v : Option Value} (r : RelO H h a v) : RelO H' h a v := by
  cases a <;> cases v <;> simp only [RelO] at r ⊢
  exact r.dom d

/-- abstract mutable objects -/
inductive Cell where
  | list (vs : List AV)
  | rlist (vs : List AV)
  | dictI (kvs : List (Int × AV))
  | dictS (kvs : List (Str × AV))
  | inst (C d : Addr)
  | ns (m : List (Str × AV))

/-- ours to change -/
noncomputable def Cell.own : Cell → Bool
  | .rlist _ => false
  | _ => true
abbrev Loc := List (Str × AV)
/-- a name bound -/
noncomputable def putA (x : Str) (a : AV) : Loc → Loc
  | [] => [(x, a)]
  | (y, b) :: r => if y = x then (y, a) :: r else (y, b) :: putA x a r
theorem putA_lookup (x : Str) (a : AV) : ∀ (m : Loc) (y : Str), (putA x a m).lookup y = if y = x then some a else m.lookup y
  | [], y => by
    by_cases q : y = x
    · simp [putA, q]
    · have : (y == x) = false := by simpa using q
      simp [putA, List.lookup_cons, q, this]
  | (z, b) :: r, y => by
    unfold putA
    split
    · rename_i e; subst e
      rw [List.lookup_cons, List.lookup_cons]
      by_cases q : y = z
      · simp [q]
      · have : (y == z) = false := by simpa using q
        simp [this, q]
    · rename_i e
      rw [List.lookup_cons, List.lookup_cons, putA_lookup x a r y]
      by_cases q : y = z
      · subst q; simp [e]
      · have : (y == z) = false := by simpa using q
        simp [this]
abbrev Sto := Addr → Option Cell
/-- a list to read -/
noncomputable def lstOf (σ : Sto) (a : Addr) : Option (List AV) := match σ a with
  | some (.list vs) => some vs
  | some (.rlist vs) => some vs
  | _ => none
theorem lstOf_list {σ : Sto} {a : Addr} {vs : List AV} (h : σ a = some (.list vs)) : lstOf σ a = some vs := by unfold lstOf; rw [h]
noncomputable def upd (σ : Sto) (a : Addr) (c : Cell) : Sto := fun b => if b = a then some c else σ b
theorem upd_same (σ : Sto) (a : Addr) (c : Cell) : upd σ a c a = some c := by simp [upd]
theorem upd_ne {σ : Sto} {a b : Addr} {c : Cell} (h : b ≠ a) : upd σ a c b = σ b := by simp [upd, h]
noncomputable def bnames : List Str := ["len", "range", "isinstance", "max", "min", "int", "str", "list", "dict", "set", "sorted", "all", "enumerate", "zip", "bool", "tuple"]
set_option genInjectivity false in
structure PG where
  prog : Program
  w : World
  T : Heap → Prop
  mg : Str → Option Value
  mb : Str → Option Value
  K : List (Addr × Obj)
  inK : ∀ {h : Heap}, T h → ∀ a o, K.lookup a = some o → h.get? a = some o
  bi : ∀ x : Str, x ≠ "__name__" → mb x = bootBuiltins x
  nob : ∀ x ∈ bnames, mg x = none
  keeps : ∀ {h h' : Heap}, T h → h.StaysIn h' → T h'
  hg : ∀ {h : Heap}, T h → h.Ns mainGlobals mg
  hb : ∀ {h : Heap}, T h → h.Ns builtinsNs mb
  hlim : ∀ {h : Heap}, T h → h.NoLimit
abbrev PG.M (G : PG) : Model := model G.prog G.w

section
variable (G : PG)

noncomputable def ListAt (H : Hid) (h : Heap) (a : Addr) (vs : List AV) : Prop := ∃ items n, h.get? a = some ⟨.type "list", none, .seq items n, #[]⟩ ∧ RelL H h vs items.toList
noncomputable def EntRel (H : Hid) (h : Heap) : List DictEntry → List (Str × AV) → Prop
  | [], [] => True
  | e :: es, kv :: m => (∃ t, e.key = .str kv.1 t) ∧ Rel H h kv.2 e.val ∧ EntRel H h es m
  | _, _ => False
noncomputable def NsAt (H : Hid) (h : Heap) (a : Addr) (m : List (Str × AV)) : Prop := ∃ es n, h.get? a = some ⟨.type "dict", none, .dict es n, #[]⟩ ∧ EntRel H h es.toList m
noncomputable def DictIAt (H : Hid) (h : Heap) (a : Addr) (kvs : List (Int × AV)) : Prop := ∃ vs : List (Int × Value), h.DictOf (intKind G.prog G.w) a vs ∧ vs.map (·.1) = kvs.map (·.1) ∧ RelL H h (kvs.map (·.2)) (vs.map (·.2))
noncomputable def DictSAt (H : Hid) (h : Heap) (a : Addr) (kvs : List (Str × AV)) : Prop := ∃ vs : List (Str × Value), h.DictOf (strKind G.prog G.w) a vs ∧ vs.map (·.1) = kvs.map (·.1) ∧ RelL H h (kvs.map (·.2)) (vs.map (·.2))
noncomputable def CellAt (H : Hid) (h : Heap) (a : Addr) : Cell → Prop
  | .list vs => ListAt H h a vs
  | .rlist vs => ListAt H h a vs
  | .dictI kvs => DictIAt G H h a kvs
  | .dictS kvs => DictSAt G H h a kvs
  | .inst C d => h.get? a = some { cls := .ref C, dict := some d, data := .plain }
  | .ns m => NsAt H h a m

/-- the frame at hand -/
structure FrameAt (H : Hid) (h : Heap) (env : Env) (ρ : Loc) : Prop where
  ns : ∃ m, h.Ns env.locals m ∧ ∀ x, env.kindOf x = some .local → x ≠ ".0" → RelO H h (ρ.lookup x) (m x)
  cells : ∀ x, env.kindOf x = some .cell ∨ env.kindOf x = some .free → ∃ c v, env.cells.lookup x = some c ∧ h.IsCell c v ∧ RelO H h (ρ.lookup x) v
  there : ∀ x ∈ env.cells, ∃ v, h.IsCell x.2 v

structure St (B : Heap) (H : Hid) (env : Env) (ρ : Loc) (σ : Sto) (s : Shared) : Prop where
  keep : B.StaysIn s.heap
  hid : ∀ a o, H a = some o → ∃ sl, s.heap.get? a = some { o with slots := sl } ∧ ((∀ es n, o.data ≠ .dict es n) → sl = o.slots)
  frame : FrameAt H s.heap env ρ
  store : ∀ a c, σ a = some c → CellAt G H s.heap a c ∧ (c.own = true → B.get? a = none) ∧ H a = none ∧ a ≠ env.locals ∧ ∀ x ∈ env.cells, x.2 ≠ a
  root : ∃ o, B.get? mainGlobals = some o
  low : ∀ a c, σ a = some c → c.own = true → mainGlobals < a

structure EnvOk (B : Heap) (H : Hid) (env : Env) : Prop where
  kind : env.scope.kind = .function
  glob : env.globals = mainGlobals
  bltn : env.builtins = builtinsNs
  loc : B.get? env.locals = none ∧ H env.locals = none
  apart : ∀ x ∈ env.cells, x.2 ≠ env.locals
  own : ∀ x ∈ env.cells, B.get? x.2 = none ∧ H x.2 = none

/-- a frame of a def: its cells are its own -/
structure FrameOk (B : Heap) (H : Hid) (env : Env) : Prop extends EnvOk B H env where
  fr : env.frame = some env.locals
  nodup : env.cells.Pairwise fun x y => x.2 ≠ y.2

structure Step (H : Hid) (s s' : Shared) : Prop where
  grow : Grow H s.heap s'.heap
  gens : s'.gens = s.gens
  os : s'.os = s.os
theorem Step.refl (H : Hid) (s : Shared) : Step H s s := ⟨.refl _ _, rfl, rfl⟩
theorem Step.trans {H : Hid} {s s' s'' : Shared} (x : Step H s s') (y : Step H s' s'') : Step H s s'' := ⟨x.grow.trans y.grow, y.gens.trans x.gens, y.os.trans x.os⟩

/-- the frames below: each is hidden -/
noncomputable def FramesIn (B : Heap) (H : Hid) (l : List Env) : Prop := ∀ e ∈ l, e.scope.kind ≠ .module ∧ ∃ L o, e.frame = some L ∧ B.get? L = none ∧ H L = some o ∧ ∃ es n, o.data = .dict es n
structure AOk (B : Heap) (H : Hid) (env : Env) (n : Nat) (A : Around) : Prop where
  depth : A.depth + 4 * n ≤ 900
  units : A.units + 40 * n ≤ 9000
  hand : A.handled = none ∨ n < 10 ∧ ∃ e o vs, A.handled = some (.ref e) ∧ H e = some o ∧ o.data = .fields vs ∧ 5 < vs.size ∧ vs[2]? = some .none
  frames : ∃ fe outer, A.frames = some (fe :: outer) ∧ FramesIn B H outer ∧ (env.frame = some env.locals → fe = env) ∧ (env.frame ≠ some env.locals → FramesIn B H [fe])

/-- an exception that flies: its object -/
structure Mine1 (B : Heap) (H : Hid) (σ : Sto) (a : Addr) : Prop where
  base : B.get? a = none
  hid : H a = none
  sto : σ a = none
structure TbAt (B : Heap) (H : Hid) (σ : Sto) (h : Heap) (e T : Addr) : Prop where
  new : Mine1 B H σ T
  ne : T ≠ e
  at_ : ∃ o ts, h.get? T = some o ∧ o.cls = .type "traceback" ∧ o.data = .fields ts ∧ 3 < ts.size
structure Flies (B : Heap) (H : Hid) (σ : Sto) (h : Heap) (e : Addr) (cls : Value) : Prop where
  new : Mine1 B H σ e
  ncls : ∃ C, cls = .ref C
  at_ : ∃ o vs, h.get? e = some o ∧ (o.cls = cls ∧ o.dict = none) ∧ o.data = .fields vs ∧ ExcVs vs ∧ (vs[1]? = some .none ∨ ∃ T, vs[1]? = some (.ref T) ∧ TbAt B H σ h e T)
structure FliesT (B : Heap) (H : Hid) (σ : Sto) (h : Heap) (e : Addr) (cls : Value) : Prop where
  new : Mine1 B H σ e
  ncls : ∃ C, cls = .ref C
  at_ : ∃ o vs, h.get? e = some o ∧ (o.cls = cls ∧ o.dict = none) ∧ o.data = .fields vs ∧ ExcVs vs ∧ ∃ T, vs[1]? = some (.ref T) ∧ TbAt B H σ h e T
theorem FliesT.flies {B : Heap} {H : Hid} {σ : Sto} {h : Heap} {e : Addr} {cls : Value} (x : FliesT B H σ h e cls) : Flies B H σ h e cls :=
  let ⟨n, c, o, vs, a, b, d, f, T, g⟩ := x; ⟨n, c, o, vs, a, b, d, f, .inr ⟨T, g⟩⟩
abbrev PE := AV → Sto → Prop
abbrev PX := Value → Loc → Sto → Prop

noncomputable def QE (B : Heap) (H : Hid) (env : Env) (ρ : Loc) (Φ : PE) (s : Shared) (v : Value) (s' : Shared) : Prop :=
  ∃ a σ', Rel H s'.heap a v ∧ St G B H env ρ σ' s' ∧ Step H s s' ∧ Φ a σ'
noncomputable def QX (B : Heap) (H : Hid) (env : Env) (Ψ : PX) (s : Shared) (e : Value) (s' : Shared) : Prop :=
  ∃ ea cls ρ' σ', e = .ref ea ∧ Flies B H σ' s'.heap ea cls ∧ St G B H env ρ' σ' s' ∧ Step H s s' ∧ Ψ cls ρ' σ'

/-- a tree of a value has Φ behind it -/
noncomputable def WE (n : Nat) (env : Env) (t : Sem Value) (ρ : Loc) (σ : Sto) (Φ : PE) (Ψ : PX) : Prop :=
  ∀ B H A s, G.T B → EnvOk B H env → AOk B H env n A → St G B H env ρ σ s → wpAny G.M A t (QE G B H env ρ Φ s) (QX G B H env Ψ s) s
noncomputable def WB (n : Nat) (env : Env) (t : Sem Bool) (ρ : Loc) (σ : Sto) (Φ : Bool → Sto → Prop) (Ψ : PX) : Prop :=
  ∀ B H A s, G.T B → EnvOk B H env → AOk B H env n A → St G B H env ρ σ s → wpAny G.M A t (fun b s' => ∃ σ', St G B H env ρ σ' s' ∧ Step H s s' ∧ Φ b σ') (QX G B H env Ψ s) s
/-- a statement's end -/
inductive Fl where
  | next | brk | cont
  | ret (a : AV)
noncomputable def Fl.val : Fl → AV
  | .ret a => a
  | _ => .none
noncomputable def RelF (H : Hid) (h : Heap) : Fl → Flow → Prop
  | .next, f => f = .next
  | .brk, f => f = .brk
  | .cont, f => f = .cont
  | .ret a, f => ∃ v, f = .ret v ∧ Rel H h a v
abbrev PS := Fl → Loc → Sto → Prop
noncomputable def WS (n : Nat) (env : Env) (t : Sem Flow) (ρ : Loc) (σ : Sto) (Φ : PS) (Ψ : PX) : Prop :=
  ∀ B H A s, G.T B → FrameOk B H env → AOk B H env n A → St G B H env ρ σ s →
    wpAny G.M A t (fun f s' => ∃ fl ρ' σ', RelF H s'.heap fl f ∧ St G B H env ρ' σ' s' ∧ Step H s s' ∧ Φ fl ρ' σ') (QX G B H env Ψ s) s

/-- a call: from any frame -/
noncomputable def WC (n : Nat) (f : AV) (args : List AV) (σ : Sto) (Φ : PE) (Ψ : Value → Sto → Prop) : Prop :=
  ∀ B H A env ρ s vs fv, G.T B → EnvOk B H env → AOk B H env n A → St G B H env ρ σ s → RelL H s.heap args vs → Rel H s.heap f fv →
    wpAny G.M A (call fv vs) (QE G B H env ρ Φ s) (QX G B H env (fun c ρ' σ' => ρ' = ρ ∧ Ψ c σ') s) s
end

end Mine
set_option maxRecDepth 100000
namespace Mine
open PySem PyProof.Rows

variable {G : PG}

theorem Grow.of_keep {H : Hid} {h h' : Heap} (k : ∀ b o, h.get? b = some o → h'.get? b = some o) : Grow H h h' := ⟨fun _ _ _ x => x.keeps k, fun a o vs _ e _ q => ⟨o, vs, k a o e, .rfl, q⟩⟩
/-- one object turned that is no tuple and no record -/
theorem Grow.of_keepBut {H : Hid} {h h' : Heap} {a : Addr} (k : ∀ b o, b ≠ a → h.get? b = some o → h'.get? b = some o) (ht : ∀ items, ¬ IsTup h a items) (hr : ∀ o vs, h.get? a = some o → o.data ≠ .fields vs) : Grow H h h' :=
  ⟨fun b i _ x => by
    have nb : b ≠ a := fun e => ht i (e ▸ x)
    obtain ⟨o', ho', r⟩ := x
    exact ⟨o', k b o' nb ho', r⟩,
   fun b o vs _ e _ q => ⟨o, vs, k b o (fun z => hr o vs (z ▸ e) q) e, .rfl, q⟩⟩
theorem EntRel.grow {H : Hid} {h h' : Heap} (g : Grow H h h') : ∀ {es : List DictEntry} {m : List (Str × AV)}, EntRel H h es m → EntRel H h' es m
  | [], [], _ => trivial
  | _ :: _, _ :: _, ⟨a, b, c⟩ => ⟨a, b.grow g, c.grow g⟩
  | [], _ :: _, x => x.elim
  | _ :: _, [], x => x.elim
theorem EntRel.dom {H H' : Hid} {h : Heap} (d : ∀ a items, IsTup h a items → H a = none → H' a = none) : ∀ {es : List DictEntry} {m : List (Str × AV)}, EntRel H h es m → EntRel H' h es m
  | [], [], _ => trivial
  | _ :: _, _ :: _, ⟨a, b, c⟩ => ⟨a, b.dom d, c.dom d⟩
  | [], _ :: _, x => x.elim
  | _ :: _, [], x => x.elim
theorem EntRel.length {H : Hid} {h : Heap} : ∀ {es : List DictEntry} {m : List (Str × AV)}, EntRel H h es m → es.length = m.length
  | [], [], _ => rfl
  | _ :: _, _ :: _, ⟨_, _, c⟩ => by simp [c.length]
  | [], _ :: _, x => x.elim
  | _ :: _, [], x => x.elim

theorem ListAt.keep {H : Hid} {h h' : Heap} {a : Addr} {vs : List AV} (x : ListAt H h a vs) (k : ∀ o, h.get? a = some o → h'.get? a = some o) (g : Grow H h h') : ListAt H h' a vs := by
  obtain ⟨items, n, ho, r⟩ := x
  exact ⟨items, n, k _ ho, r.grow g⟩

theorem CellAt.keep {H : Hid} {h h' : Heap} {a : Addr} {c : Cell} (x : CellAt G H h a c) (k : ∀ o, h.get? a = some o → h'.get? a = some o) (g : Grow H h h') : CellAt G H h' a c := by
  cases c with
  | list vs => exact ListAt.keep x k g
  | rlist vs => exact ListAt.keep x k g
  | dictI kvs =>
    obtain ⟨vs, ⟨o, es, ep, ho, r⟩, e, l⟩ := x
    exact ⟨vs, ⟨o, es, ep, k _ ho, r⟩, e, l.grow g⟩
  | dictS kvs =>
    obtain ⟨vs, ⟨o, es, ep, ho, r⟩, e, l⟩ := x
    exact ⟨vs, ⟨o, es, ep, k _ ho, r⟩, e, l.grow g⟩
  | inst C d => exact k _ x
  | ns m =>
    obtain ⟨es, n, ho, r⟩ := x
    exact ⟨es, n, k _ ho, r.grow g⟩

theorem CellAt.there {H : Hid} {h : Heap} {a : Addr} {c : Cell} (x : CellAt G H h a c) : ∃ o, h.get? a = some o ∧ (∀ items, ¬ IsTup h a items) ∧ ∀ vs, o.data ≠ .fields vs := by
  have nt : ∀ o, h.get? a = some o → o.cls ≠ .type "tuple" → ∀ items, ¬ IsTup h a items := fun o e c items t => by
    obtain ⟨o', e', c', _⟩ := t
    rw [e] at e'; cases e'; exact c c'
  cases c with
  | list vs => obtain ⟨items, n, ho, _⟩ := x; exact ⟨_, ho, nt _ ho (by simp), by simp⟩
  | rlist vs => obtain ⟨items, n, ho, _⟩ := x; exact ⟨_, ho, nt _ ho (by simp), by simp⟩
  | dictI kvs => obtain ⟨vs, ⟨o, es, ep, ho, he, hd, _⟩, _⟩ := x; exact ⟨_, ho, nt _ ho (by rw [he.1]; simp), by simp [hd]⟩
  | dictS kvs => obtain ⟨vs, ⟨o, es, ep, ho, he, hd, _⟩, _⟩ := x; exact ⟨_, ho, nt _ ho (by rw [he.1]; simp), by simp [hd]⟩
  | inst C d => exact ⟨_, x, nt _ x (by simp), by simp⟩
  | ns m => obtain ⟨es, n, ho, _⟩ := x; exact ⟨_, ho, nt _ ho (by simp), by simp⟩

theorem FrameAt.keep {H : Hid} {h h' : Heap} {env : Env} {ρ : Loc} (x : FrameAt H h env ρ) (k : ∀ b o, (b = env.locals ∨ ∃ y ∈ env.cells, y.2 = b) → h.get? b = some o → ∃ sl, h'.get? b = some { o with slots := sl }) (g : Grow H h h') : FrameAt H h' env ρ := by
  obtain ⟨⟨m, ⟨o, es, ep, ho, hd, hs, hf⟩, hm⟩, hc, ht⟩ := x
  refine ⟨⟨m, ?_, fun x e z => (hm x e z).grow g⟩, fun x e => ?_, fun x hx => ?_⟩
  · obtain ⟨sl, ho'⟩ := k _ _ (.inl rfl) ho
    exact ⟨_, es, ep, ho', hd, hs, hf⟩
  · obtain ⟨c, v, e1, ⟨oc, hoc, hdc⟩, r⟩ := hc x e
    obtain ⟨sl, hoc'⟩ := k _ _ (.inr ⟨_, mem_of_lookup e1, rfl⟩) hoc
    exact ⟨c, v, e1, ⟨_, hoc', hdc⟩, r.grow g⟩
  · obtain ⟨v, o, ho, hd⟩ := ht x hx
    obtain ⟨sl, ho'⟩ := k _ _ (.inr ⟨_, hx, rfl⟩) ho
    exact ⟨v, _, ho', hd⟩

theorem St.change {B : Heap} {H : Hid} {env : Env} {ρ : Loc} {σ σ' : Sto} {s s' : Shared} (S : St G B H env ρ σ s) (W : Addr → Prop)
    (k : ∀ b o, ¬ W b → s.heap.get? b = some o → s'.heap.get? b = some o) (wB : ∀ b, W b → B.get? b = none ∧ H b = none) (wL : ¬ W env.locals) (wc : ∀ x ∈ env.cells, ¬ W x.2) (g : Grow H s.heap s'.heap)
    (hσ : ∀ a c, σ' a = some c → (σ a = some c ∧ ¬ W a) ∨ (CellAt G H s'.heap a c ∧ (c.own = true → B.get? a = none) ∧ H a = none ∧ a ≠ env.locals ∧ ∀ x ∈ env.cells, x.2 ≠ a)) (hl : ∀ a c, σ' a = some c → c.own = true → mainGlobals < a) : St G B H env ρ σ' s' := by
  refine ⟨fun b o e => k b o (fun q => ?_) (S.keep b o e), fun a o e => ?_, S.frame.keep (fun b o q e => ⟨o.slots, k b o (fun w => ?_) e⟩) g, fun a c e => ?_, S.root, hl⟩
  · rw [(wB b q).1] at e; cases e
  · obtain ⟨sl, e', z⟩ := S.hid a o e
    exact ⟨sl, k a _ (fun q => by rw [(wB a q).2] at e; cases e) e', z⟩
  · rcases q with rfl | ⟨y, hy, rfl⟩
    · exact wL w
    · exact wc y hy w
  · rcases hσ a c e with ⟨e', nw⟩ | q
    · obtain ⟨q1, q2⟩ := S.store a c e'
      exact ⟨q1.keep (fun o e => k a o nw e) g, q2⟩
    · exact q

theorem St.same {B : Heap} {H : Hid} {env : Env} {ρ : Loc} {σ : Sto} {s s' : Shared} (S : St G B H env ρ σ s) (k : ∀ b o, s.heap.get? b = some o → s'.heap.get? b = some o) : St G B H env ρ σ s' :=
  S.change (fun _ => False) (fun b o _ e => k b o e) (fun _ x => x.elim) id (fun _ _ => id) (.of_keep k) (fun _ _ e => .inl ⟨e, id⟩) S.low
theorem St.tok {B : Heap} {H : Hid} {env : Env} {ρ : Loc} {σ : Sto} {s : Shared} (S : St G B H env ρ σ s) (t : Nat) : St G B H env ρ σ { s with toks := t } := S.same fun _ _ e => e
theorem Step.tok (H : Hid) (s : Shared) (t : Nat) : Step H s { s with toks := t } := ⟨.refl _ _, rfl, rfl⟩
theorem Step.keeps {H : Hid} {s s' : Shared} (k : ∀ b o, s.heap.get? b = some o → s'.heap.get? b = some o) (g : s'.gens = s.gens := by rfl) (o : s'.os = s.os := by rfl) : Step H s s' := ⟨.of_keep k, g, o⟩
theorem Step.push {H : Hid} {s : Shared} (o : Obj) : Step H s { s with heap := s.heap.push o } := .keeps fun _ _ e => Heap.get?_push_of_some o e

theorem St.locals_lt {B : Heap} {H : Hid} {env : Env} {ρ : Loc} {σ : Sto} {s : Shared} (S : St G B H env ρ σ s) : env.locals < s.heap.objs.size := let ⟨_, hn, _⟩ := S.frame.ns; hn.lt
theorem St.sto_lt {B : Heap} {H : Hid} {env : Env} {ρ : Loc} {σ : Sto} {s : Shared} (S : St G B H env ρ σ s) {a : Addr} {c : Cell} (e : σ a = some c) : a < s.heap.objs.size := by
  obtain ⟨o, ho, _⟩ := (S.store a c e).1.there
  exact Heap.lt_size ho
theorem St.hid_lt {B : Heap} {H : Hid} {env : Env} {ρ : Loc} {σ : Sto} {s : Shared} (S : St G B H env ρ σ s) {a : Addr} {o : Obj} (e : H a = some o) : a < s.heap.objs.size := by
  obtain ⟨_, ho, _⟩ := S.hid a o e
  exact Heap.lt_size ho
theorem none_of_not_some {α : Type} {x : Option α} (h : ∀ a, x ≠ some a) : x = none := by
  cases x with
  | none => rfl
  | some a => exact absurd rfl (h a)
theorem St.fresh_hid {B : Heap} {H : Hid} {env : Env} {ρ : Loc} {σ : Sto} {s : Shared} (S : St G B H env ρ σ s) : H s.heap.objs.size = none :=
  none_of_not_some fun c e => Nat.lt_irrefl _ (S.hid_lt e)


theorem St.cell_lt {B : Heap} {H : Hid} {env : Env} {ρ : Loc} {σ : Sto} {s : Shared} (S : St G B H env ρ σ s) {x : Str × Addr} (e : x ∈ env.cells) : x.2 < s.heap.objs.size := by
  obtain ⟨v, hc⟩ := S.frame.there x e
  exact hc.lt
theorem St.push {B : Heap} {H : Hid} {env : Env} {ρ : Loc} {σ : Sto} {s : Shared} (S : St G B H env ρ σ s) (o : Obj) : St G B H env ρ σ { s with heap := s.heap.push o } :=
  S.same fun _ _ e => Heap.get?_push_of_some o e
/-- a new object into the store -/
theorem St.new {B : Heap} {H : Hid} {env : Env} {ρ : Loc} {σ : Sto} {s s' : Shared} {a : Addr} (S : St G B H env ρ σ s) (k : ∀ b o, s.heap.get? b = some o → s'.heap.get? b = some o) (ha : s.heap.objs.size ≤ a) {c : Cell}
    (x : CellAt G H s'.heap a c) : St G B H env ρ (upd σ a c) s' := by
  have big : mainGlobals < s.heap.objs.size := let ⟨_, e⟩ := S.root; Heap.lt_size (S.keep _ _ e)
  refine S.change (fun _ => False) (fun b o _ e => k b o e) (fun _ x => x.elim) id (fun _ _ => id) (.of_keep k) (fun b c' e => ?_) (fun b c' e z => by
    by_cases q : b = a
    · subst q; exact Nat.lt_of_lt_of_le big ha
    · rw [upd_ne q] at e; exact S.low b c' e z)
  by_cases q : b = a
  · subst q
    rw [upd_same] at e; cases e
    refine .inr ⟨x, fun _ => ?_, ?_, ?_, fun y hy => ?_⟩
    · exact none_of_not_some fun o e => Nat.lt_irrefl _ (Nat.lt_of_lt_of_le (Heap.lt_size (S.keep _ _ e)) ha)
    · exact none_of_not_some fun o e => Nat.lt_irrefl _ (Nat.lt_of_lt_of_le (S.hid_lt e) ha)
    · exact Nat.ne_of_gt (Nat.lt_of_lt_of_le S.locals_lt ha)
    · exact Nat.ne_of_lt (Nat.lt_of_lt_of_le (S.cell_lt hy) ha)
  · rw [upd_ne q] at e
    exact .inl ⟨e, id⟩
theorem St.fresh {B : Heap} {H : Hid} {env : Env} {ρ : Loc} {σ : Sto} {s : Shared} {a : Addr} (S : St G B H env ρ σ s) (ha : s.heap.objs.size ≤ a) : σ a = none :=
  none_of_not_some fun _ e => Nat.lt_irrefl _ (Nat.lt_of_lt_of_le (S.sto_lt e) ha)
/-- an object of the store turned -/
theorem St.put {B : Heap} {H : Hid} {env : Env} {ρ : Loc} {σ : Sto} {s s' : Shared} {a : Addr} {c₀ c : Cell} (S : St G B H env ρ σ s) (ha : σ a = some c₀) (hw : c₀.own = true := by rfl)
    (k : ∀ b o, b ≠ a → s.heap.get? b = some o → s'.heap.get? b = some o) (x : CellAt G H s'.heap a c) : St G B H env ρ (upd σ a c) s' ∧ Grow H s.heap s'.heap := by
  obtain ⟨q, q1, q2, q3, q4⟩ := S.store a c₀ ha
  obtain ⟨o, ho, ht, hr⟩ := q.there
  have g : Grow H s.heap s'.heap := .of_keepBut k ht fun o' vs e => by rw [ho] at e; cases e; exact hr vs
  refine ⟨S.change (fun b => b = a) (fun b o nb e => k b o nb e) (fun b e => e ▸ ⟨q1 hw, q2⟩) (fun e => q3 e.symm) (fun y hy e => q4 y hy e) g (fun b c' e => ?_) (fun b c' e w => by
    by_cases z : b = a
    · subst z; exact S.low b _ ha hw
    · rw [upd_ne z] at e; exact S.low b c' e w), g⟩
  by_cases z : b = a
  · subst z
    rw [upd_same] at e; cases e
    exact .inr ⟨x, fun _ => q1 hw, q2, q3, q4⟩
  · rw [upd_ne z] at e
    exact .inl ⟨e, z⟩


/-! ### exceptions on their way -/
/-- h' is h but for the frames' slots and two records of an exception -/
noncomputable def Noted (F : List Addr) (X : Addr → Prop) (h h' : Heap) : Prop := ∀ b o, ¬ X b → h.get? b = some o → (∃ sl, h'.get? b = some { o with slots := sl }) ∧ (b ∉ F → h'.get? b = some o)
theorem Noted.keeps {F : List Addr} {X : Addr → Prop} {h h' : Heap} (k : ∀ b o, ¬ X b → h.get? b = some o → h'.get? b = some o) : Noted F X h h' := fun b o n e => ⟨⟨o.slots, k b o n e⟩, fun _ => k b o n e⟩

/-- the state behind it -/
theorem St.noted {B : Heap} {H : Hid} {env : Env} {ρ : Loc} {σ : Sto} {s s' : Shared} {F : List Addr} {X : Addr → Prop} (S : St G B H env ρ σ s) (n : Noted F X s.heap s'.heap)
    (fB : ∀ a ∈ F, B.get? a = none ∧ σ a = none ∧ ∀ o, s.heap.get? a = some o → ∃ es n, o.data = .dict es n) (hX : ∀ a, X a → Mine1 B H σ a ∧ a ≠ env.locals ∧ ∀ x ∈ env.cells, x.2 ≠ a)
    (hR : ∀ a, X a → ∃ o vs o' vs', s.heap.get? a = some o ∧ o.data = .fields vs ∧ s'.heap.get? a = some o' ∧ Same2 o' o ∧ o'.data = .fields vs') : St G B H env ρ σ s' ∧ Grow H s.heap s'.heap := by
  have hT : ∀ a items, X a → ¬ IsTup s.heap a items := fun a items x t => by
    obtain ⟨o, vs, _, _, h1, h2, _⟩ := hR a x
    obtain ⟨o1, h3, _, m, h4⟩ := t
    rw [h1] at h3; cases h3; rw [h2] at h4; cases h4
  have g : Grow H s.heap s'.heap := ⟨fun a items _ q => by
    obtain ⟨o, ho, hc, m, hd⟩ := id q
    obtain ⟨⟨sl, e⟩, _⟩ := n a o (fun z => hT a items z q) ho
    exact ⟨_, e, hc, m, hd⟩, fun a o vs _ e _ q => by
    by_cases z : X a
    · obtain ⟨o1, vs1, o', vs', h1, _, h3, h4, h5⟩ := hR a z
      rw [e] at h1; cases h1
      exact ⟨o', vs', h3, h4, h5⟩
    · obtain ⟨⟨sl, e'⟩, _⟩ := n a o z e
      exact ⟨_, vs, e', ⟨rfl, rfl⟩, q⟩⟩
  refine ⟨⟨fun b o e => ?_, fun a o e => ?_, S.frame.keep (fun b o q e => (n b o (fun z => ?_) e).1) g, fun a c e => ?_, S.root, S.low⟩, g⟩
  · refine (n b o (fun z => ?_) (S.keep b o e)).2 fun z => ?_
    · rw [(hX b z).1.base] at e; cases e
    · rw [(fB b z).1] at e; cases e
  · obtain ⟨sl, e', z⟩ := S.hid a o e
    obtain ⟨⟨sl', e''⟩, kk⟩ := n a _ (fun z => by rw [(hX a z).1.hid] at e; cases e) e'
    refine ⟨sl', e'', fun nd => ?_⟩
    have := kk fun q => by
      obtain ⟨es, m, q⟩ := (fB a q).2.2 _ e'
      exact nd es m q
    rw [e''] at this
    exact (congrArg Obj.slots (Option.some.inj this)).trans (z nd)
  · rcases q with rfl | ⟨y, hy, rfl⟩
    · exact (hX _ z).2.1 rfl
    · exact (hX _ z).2.2 y hy rfl
  · obtain ⟨q1, q2⟩ := S.store a c e
    refine ⟨q1.keep (fun o e' => (n a o (fun z => ?_) e').2 fun z => ?_) g, q2⟩
    · rw [(hX a z).1.sto] at e; cases e
    · rw [(fB a z).2.1] at e; cases e
section
variable {B : Heap} {H : Hid} {env : Env} {ρ : Loc} {σ : Sto} {s s₁ : Shared} {Φ : PE} {Ψ : PX}
theorem QE.step (x : Step H s s₁) {v : Value} {s' : Shared} (q : QE G B H env ρ Φ s₁ v s') : QE G B H env ρ Φ s v s' := let ⟨a, σ', r, S, st, p⟩ := q; ⟨a, σ', r, S, x.trans st, p⟩
theorem QX.step (x : Step H s s₁) {v : Value} {s' : Shared} (q : QX G B H env Ψ s₁ v s') : QX G B H env Ψ s v s' := let ⟨a, c, ρ', σ', e, f, S, st, p⟩ := q; ⟨a, c, ρ', σ', e, f, S, x.trans st, p⟩
theorem qe (S : St G B H env ρ σ s₁) (x : Step H s s₁) {a : AV} {v : Value} (r : Rel H s₁.heap a v) (p : Φ a σ) : QE G B H env ρ Φ s v s₁ := ⟨a, σ, r, S, x, p⟩
end
end Mine
set_option maxRecDepth 100000
namespace Mine
open PySem PyProof.Rows

variable {G : PG}
section
variable {B : Heap} {H : Hid} {env : Env} {ρ : Loc} {σ : Sto} {s : Shared} {n : Nat} {A : Around} {E : Value → Shared → Prop} {M : Model}

theorem funFrames_of {l : List Env} (S : St G B H env ρ σ s) (hl : FramesIn B H l) : s.heap.FunFrames B l := by
  induction l with
  | nil => trivial
  | cons e r ih =>
    obtain ⟨hk, L, o, hf, hb, hH, es, m, hd⟩ := hl e (.head _)
    obtain ⟨sl, ho, _⟩ := S.hid L o hH
    exact ⟨hk, ⟨L, _, hf, hb, ho, fun vs q => by rw [show _ = _ from hd] at q; cases q⟩, ih fun x hx => hl x (.tail _ hx)⟩

theorem funFrames_here {outer : List Env} (S : St G B H env ρ σ s) (F : FrameOk B H env) (hl : FramesIn B H outer) : s.heap.FunFrames B (env :: outer) := by
  obtain ⟨m, ⟨o, es, ep, ho, hd, _⟩, _⟩ := S.frame.ns
  exact ⟨by rw [F.kind]; decide, ⟨env.locals, o, F.fr, F.loc.1, ho, fun vs q => by rw [hd] at q; cases q⟩, funFrames_of S hl⟩

theorem frames_noSto {outer : List Env} (S : St G B H env ρ σ s) (F : FrameOk B H env) (hl : FramesIn B H outer) : ∀ a ∈ (env :: outer).filterMap (·.frame), B.get? a = none ∧ σ a = none ∧ ∀ o, s.heap.get? a = some o → ∃ es n, o.data = .dict es n := by
  intro a ha
  obtain ⟨e, he, hf⟩ := List.mem_filterMap.mp ha
  rcases List.mem_cons.mp he with rfl | he
  · rw [F.fr] at hf; cases hf
    exact ⟨F.loc.1, none_of_not_some fun c q => (S.store _ _ q).2.2.2.1 rfl, fun o ho => by
      obtain ⟨m, ⟨o', es, ep, ho', hd, _⟩, _⟩ := S.frame.ns
      rw [ho] at ho'; cases ho'; exact ⟨_, _, hd⟩⟩
  · obtain ⟨_, L, o, hf', hb, hH, es, m, hd⟩ := hl e he
    rw [hf'] at hf; cases hf
    exact ⟨hb, none_of_not_some (fun c q => by have := (S.store _ _ q).2.2.1; rw [hH] at this; cases this), fun o' ho' => by
      obtain ⟨sl, ho, _⟩ := S.hid _ o hH
      rw [ho'] at ho; cases ho; exact ⟨es, m, hd⟩⟩

/-- an exception's record is none of the frame's -/
theorem fields_apart {a : Addr} {o : Obj} {vs : Array Value} (S : St G B H env ρ σ s) (ho : s.heap.get? a = some o) (hd : o.data = .fields vs) : a ≠ env.locals ∧ ∀ x ∈ env.cells, x.2 ≠ a := by
  refine ⟨fun q => ?_, fun x hx q => ?_⟩
  · obtain ⟨m, ⟨o', es, ep, ho', hd', _⟩, _⟩ := S.frame.ns
    rw [← q, ho] at ho'; cases ho'; rw [hd] at hd'; cases hd'
  · obtain ⟨v, o', ho', hd'⟩ := S.frame.there x hx
    rw [q, ho] at ho'; cases ho'; rw [hd] at hd'; cases hd'

theorem note_entry {outer : List Env} {e : Addr} {oe : Obj} {vs : Array Value} {head : Value} {hadNext : Bool} {Q : Unit → Shared → Prop}
    (hfr : A.frames = some (env :: outer)) (hl : s.heap.FunFrames B (env :: outer)) (hf : env.frame = some env.locals)
    (he : s.heap.get? e = some oe) (hd : oe.data = .fields vs) (hsz : ExcVs vs)
    (h : ∀ h' T oe' vs' oT ts, Noted ((env :: outer).filterMap (·.frame)) (fun b => b = e) s.heap h' → s.heap.get? T = none → s.heap.objs.size ≤ T → h'.get? e = some oe' → Same2 oe' oe → oe'.data = .fields vs' → ExcVs vs' → vs'[1]? = some (.ref T) → T ≠ e →
      h'.get? T = some oT → oT.cls = .type "traceback" → oT.data = .fields ts → 3 < ts.size → Q () { s with heap := h' }) :
    wpAny M A (do let a ← frameOf env; let pl ← entryPlaceOf env.locals hadNext; let b ← EntryCells.newEntry head a .none (rawInt env.locals) .none pl; setField (.ref e) 1 b) Q E s := by
  have hene : e ∉ (env :: outer).filterMap (·.frame) := fun hm => by
    obtain ⟨_, o, ho, hnf⟩ := hl.mem hm
    rw [he] at ho; injection ho with ho; subst ho; exact hnf vs hd
  refine wpAny_bind (wpAny_frameOf_fun hfr hl hf fun h₁ hs₁ => ?_)
  refine wpAny_bind (wpAny_entryPlaceOf fun pl hpl => ?_)
  unfold EntryCells.newEntry newFields
  refine wpAny_bind (wpAny_newObj_type ?_ (hpl.sizeOk5 _ _ _ _ _))
  have he₁ : h₁.get? e = some oe := (hs₁.2.1 e hene).trans he
  have he₂ := Heap.get?_push_of_some (h := h₁) { cls := .type "traceback", dict := none, data := .fields ([head, .ref env.locals, .none, rawInt env.locals, .none] ++ (if pl.isEmpty then List.replicate 6 Value.none else pl)).toArray } he₁
  have hsz1 := hsz.1
  refine wpAny_setField he₂ hd (by first | decide | (with_reducible first | exact lv hn | exact lv1 hn | exact lv2 hn | exact Int.natCast_nonneg _) | omega) ?_
  have hTe : h₁.objs.size ≠ e := Nat.ne_of_gt (Heap.lt_size he₁)
  have hd₃ := Obj.data_mapFields hd (·.setIfInBounds 1 (Value.ref h₁.objs.size))
  have he₃ := Heap.get?_update_self (Obj.mapFields (·.setIfInBounds 1 (Value.ref h₁.objs.size))) he₂ (Obj.isFreed_of_fields hd₃)
  have hT₃ := (Heap.get?_update_other (h₁.push { cls := .type "traceback", dict := none, data := .fields ([head, .ref env.locals, .none, rawInt env.locals, .none] ++ (if pl.isEmpty then List.replicate 6 Value.none else pl)).toArray })
    (Obj.mapFields (·.setIfInBounds 1 (Value.ref h₁.objs.size))) (Ne.symm hTe)).trans (Heap.get?_push_size h₁ rfl)
  refine h _ h₁.objs.size _ _ _ _ (fun b o nb hb => ?_) ?_ ?_ he₃ (same2_map _ _) hd₃ ⟨by rw [Array.size_setIfInBounds]; exact hsz1, by rw [Array.getElem?_setIfInBounds_ne (by decide)]; exact hsz.2⟩ (by rw [Array.getElem?_setIfInBounds_self_of_lt (by first | decide | (with_reducible first | exact lv hn | exact lv1 hn | exact lv2 hn | exact Int.natCast_nonneg _) | omega)]) hTe hT₃ rfl rfl (by simp only [List.size_toArray, List.length_append, List.length_cons, List.length_nil]; omega)
  · have nb' : b ≠ e := nb
    obtain ⟨sl, e1⟩ := hs₁.2.2 b o hb
    refine ⟨⟨sl, ?_⟩, fun q => ?_⟩
    · rw [Heap.get?_update_other _ _ (Ne.symm nb')]; exact Heap.get?_push_of_some _ e1
    · rw [Heap.get?_update_other _ _ (Ne.symm nb')]; exact Heap.get?_push_of_some _ ((hs₁.2.1 b q).trans hb)
  · exact Heap.get?_none_of_le (by rw [hs₁.1]; exact Nat.le_refl _)
  · rw [hs₁.1]; exact Nat.le_refl _

theorem mine_new {a : Addr} (S : St G B H env ρ σ s) (ha : s.heap.objs.size ≤ a) : Mine1 B H σ a :=
  ⟨none_of_not_some fun o e => Nat.lt_irrefl _ (Nat.lt_of_lt_of_le (Heap.lt_size (S.keep _ _ e)) ha), none_of_not_some fun o e => Nat.lt_irrefl _ (Nat.lt_of_lt_of_le (S.hid_lt e) ha), S.fresh ha⟩

theorem note_frame {e : Addr} {cls : Value} {Q : Unit → Shared → Prop} (hA : AOk B H env n A) (F : FrameOk B H env) (S : St G B H env ρ σ s) (f : Flies B H σ s.heap e cls)
    (h : ∀ s', St G B H env ρ σ s' → FliesT B H σ s'.heap e cls → Step H s s' → Q () s') : wpAny M A (noteFrame (.ref e) env) Q E s := by
  obtain ⟨fe, outer, hfr, hin, hfe, _⟩ := hA.frames
  obtain rfl := hfe F.fr
  obtain ⟨new, ncls, oe, vs, he, hc, hd, hsz, hh⟩ := f
  have ae := fields_apart S he hd
  unfold noteFrame
  simp only [F.fr]
  rcases hh with h1 | ⟨T, h1, newT, hTe, oT, ts, hT, hTc, hTd, hTs⟩
  · refine wpAny_bind (wpAny_field he hd h1 ?_)
    rw [if_neg (by decide)]
    refine note_entry hfr (funFrames_here S F hin) F.fr he hd hsz fun h' T oe' vs' oT ts nt tn tl e1 e2 e3 e4 e5 e6 e7 e8 e9 e10 => ?_
    obtain ⟨S', g⟩ := S.noted (s' := { s with heap := h' }) nt (frames_noSto S F hin) (fun a q => by obtain rfl : a = e := q; exact ⟨new, ae⟩) (fun a q => by
      obtain rfl : a = e := q
      exact ⟨oe, vs, oe', vs', he, hd, e1, e2, e3⟩)
    exact h _ S' ⟨new, ncls, oe', vs', e1, ⟨e2.1.trans hc.1, e2.2.trans hc.2⟩, e3, e4, T, e5, mine_new S tl, e6, oT, ts, e7, e8, e9, e10⟩ ⟨g, rfl, rfl⟩
  · refine wpAny_bind (wpAny_field he hd h1 ?_)
    rw [if_pos (show (Value.ref T != Value.none) = true from by simp)]
    obtain ⟨x3, h3⟩ : ∃ x, ts[3]? = some x := ⟨ts[3], by simp [hTs]⟩
    refine wpAny_bind (wpAny_field hT hTd h3 ?_)
    by_cases q : (x3 == rawInt fe.locals) = true
    · rw [if_pos q]
      exact wpAny_pure (h s S ⟨new, ncls, oe, vs, he, hc, hd, hsz, T, h1, newT, hTe, oT, ts, hT, hTc, hTd, hTs⟩ (.refl _ _))
    · rw [if_neg q]
      refine wpAny_bind (wpAny_setField hT hTd hTs ?_)
      have aT := fields_apart S hT hTd
      have other : ∀ b, b ≠ T → (s.heap.update T (Obj.mapFields (·.setIfInBounds 3 Value.none))).get? b = s.heap.get? b := fun b hb => Heap.get?_update_other _ _ (Ne.symm hb)
      have n1 : Noted ((fe :: outer).filterMap (·.frame)) (fun b => b = e ∨ b = T) s.heap (s.heap.update T (Obj.mapFields (·.setIfInBounds 3 Value.none))) := .keeps fun b o nb e => by
        rw [other b fun z => nb (.inr z)]; exact e
      have hdT := Obj.data_mapFields hTd (·.setIfInBounds 3 Value.none)
      have noT : ∀ a, a = e ∨ a = T → ∃ o vs o' vs', s.heap.get? a = some o ∧ o.data = .fields vs ∧ (s.heap.update T (Obj.mapFields (·.setIfInBounds 3 Value.none))).get? a = some o' ∧ Same2 o' o ∧ o'.data = .fields vs' := fun a q => by
        rcases q with rfl | rfl
        · exact ⟨oe, vs, oe, vs, he, hd, (other a (Ne.symm hTe)).trans he, .rfl, hd⟩
        · exact ⟨oT, ts, _, _, hT, hTd, Heap.get?_update_self _ hT (Obj.isFreed_of_fields hdT), same2_map _ _, hdT⟩
      have hX : ∀ a, a = e ∨ a = T → Mine1 B H σ a ∧ a ≠ fe.locals ∧ ∀ x ∈ fe.cells, x.2 ≠ a := fun a q => by
        rcases q with rfl | rfl
        · exact ⟨new, ae⟩
        · exact ⟨newT, aT⟩
      obtain ⟨S₁, g₁⟩ := S.noted (s' := { s with heap := s.heap.update T (Obj.mapFields (·.setIfInBounds 3 Value.none)) }) n1 (frames_noSto S F hin) hX noT
      refine note_entry hfr (funFrames_here S₁ F hin) F.fr ((other e (Ne.symm hTe)).trans he) hd hsz fun h' T' oe' vs' oT' ts' nt tn tl e1 e2 e3 e4 e5 e6 e7 e8 e9 e10 => ?_
      obtain ⟨S', g⟩ := S₁.noted (s' := { s with heap := h' }) nt (frames_noSto S₁ F hin) (fun a q => hX a (.inl q)) (fun a q => by
        obtain rfl : a = e := q
        exact ⟨oe, vs, oe', vs', (other a (Ne.symm hTe)).trans he, hd, e1, e2, e3⟩)
      exact h _ S' ⟨new, ncls, oe', vs', e1, ⟨e2.1.trans hc.1, e2.2.trans hc.2⟩, e3, e4, T', e5, mine_new S₁ tl, e6, oT', ts', e7, e8, e9, e10⟩ ⟨g₁.trans g, rfl, rfl⟩

theorem set_flight {e : Addr} {cls : Value} {fl : Option Addr} {Q : Unit → Shared → Prop} (S : St G B H env ρ σ s) (f : FliesT B H σ s.heap e cls)
    (h : ∀ s', St G B H env ρ σ s' → FliesT B H σ s'.heap e cls → Step H s s' → Q () s') : wpAny M A (setFlight (.ref e) fl) Q E s := by
  obtain ⟨new, ncls, oe, vs, he, hc, hd, hsz, T, h1, newT, hTe, oT, ts, hT, hTc, hTd, hTs⟩ := f
  unfold setFlight
  refine wpAny_bind (wpAny_field he hd h1 ?_)
  rw [if_pos (show (Value.ref T != Value.none) = true from by simp)]
  refine wpAny_setField hT hTd hTs ?_
  have aT := fields_apart S hT hTd
  have other : ∀ b v, b ≠ T → (s.heap.update T (Obj.mapFields (·.setIfInBounds 3 v))).get? b = s.heap.get? b := fun b v hb => Heap.get?_update_other _ _ (Ne.symm hb)
  have hd₃ := Obj.data_mapFields hTd (·.setIfInBounds 3 (fl.elim Value.none fun f => rawInt f))
  obtain ⟨S₁, g₁⟩ := S.noted (F := []) (X := fun b => b = T) (s' := { s with heap := s.heap.update T (Obj.mapFields (·.setIfInBounds 3 (fl.elim Value.none fun f => rawInt f))) }) (.keeps fun b o nb e => by rw [show _ = s.heap.get? b from other b _ nb]; exact e) (fun _ z => nomatch z) (fun a q => by obtain rfl : a = T := q; exact ⟨newT, aT⟩) (fun a q => by
    obtain rfl : a = T := q
    exact ⟨oT, ts, _, _, hT, hTd, Heap.get?_update_self _ hT (Obj.isFreed_of_fields hd₃), same2_map _ _, hd₃⟩)
  exact h _ S₁ ⟨new, ncls, oe, vs, (other e _ (Ne.symm hTe)).trans he, hc, hd, hsz, T, h1, newT, hTe, _, _, Heap.get?_update_self _ hT (Obj.isFreed_of_fields hd₃), (Obj.cls_mapFields _ _).trans hTc, hd₃, by rw [Array.size_setIfInBounds]; exact hTs⟩ ⟨g₁, rfl, rfl⟩
end
end Mine
set_option maxRecDepth 100000
namespace Mine
open PySem PyProof.Rows

variable {G : PG}

/-! ### binding plain parameters -/
theorem lookup_zip_isSome : ∀ {ns : List Str} {vs : List Value} {n : Str}, vs.length = ns.length → n ∈ ns → ((ns.zip vs).lookup n).isSome = true
  | [], _, n, _, h => nomatch h
  | m :: ns, [], n, e, _ => by simp at e
  | m :: ns, v :: vs, n, e, h => by
    rw [List.zip_cons_cons, List.lookup_cons]
    cases q : n == m with
    | true => rfl
    | false =>
      rcases List.mem_cons.mp h with rfl | h
      · simp at q
      · exact lookup_zip_isSome (by simpa using e) h

theorem bound_zip : ∀ (ns : List Str) (vs : List Value) (pre : List (Str × Value)), vs.length = ns.length → ns.Nodup → (∀ n ∈ ns, pre.lookup n = none) →
    ns.filterMap (fun n => ((pre ++ ns.zip vs).lookup n).map (n, ·)) = ns.zip vs
  | [], _, _, _, _, _ => by simp
  | n :: ns, [], _, e, _, _ => by simp at e
  | n :: ns, v :: vs, pre, e, nd, hp => by
    obtain ⟨h1, h2⟩ := List.nodup_cons.mp nd
    have q : (pre ++ (n :: ns).zip (v :: vs)).lookup n = some v := by
      rw [List.lookup_append, hp n (.head _), List.zip_cons_cons, List.lookup_cons]; simp
    rw [List.filterMap_cons, q]
    simp only [Option.map_some, List.zip_cons_cons]
    congr 1
    have := bound_zip ns vs (pre ++ [(n, v)]) (by simpa using e) h2 fun m hm => by
      rw [List.lookup_append, hp m (.tail _ hm), List.lookup_cons]
      have : (m == n) = false := by
        cases z : m == n with
        | false => rfl
        | true => rw [beq_iff_eq.mp z] at hm; exact absurd hm h1
      simp [this]
    rw [List.append_assoc] at this
    exact this

structure PlainParams (p : Arguments) : Prop where
  po : p.posonlyargs = []
  va : p.vararg = none
  ko : p.kwonlyargs = []
  kw : p.kwarg = none
  nodup : (p.args.map (·.arg)).Nodup

theorem bind_plain {fd : FuncData} {vs : List Value} (P : PlainParams fd.params) (hd : fd.defaults = .none) (hl : vs.length = fd.params.args.length) :
    bindArgs fd ⟨vs, []⟩ = pure ((fd.params.args.map (·.arg)).zip vs) := by
  obtain ⟨p1, p2, p3, p4, p5⟩ := P
  have hl' : vs.length = (fd.params.args.map (·.arg)).length := by simpa using hl
  obtain ⟨nm, qn, ⟨po, as, va, ko, kd, kw, df⟩, a3, a4, a5, a6, a7, a8, a9, a10, a11, a12, a13, a14⟩ := fd
  cases p1; cases p2; cases p3; cases p4; cases hd
  dsimp only at hl' p5 ⊢
  generalize hns : as.map (·.arg) = ns at hl' p5 ⊢
  have h1 : ¬ ((decide (vs.length > ns.length) && (none : Option Arg).isNone) = true) := by simp [hl']
  have h2 : ¬ ((!(((ns.take (ns.length - (List.drop (([] : List Value).length - ns.length) ([] : List Value)).length)).filter fun n => ((ns.zip vs).lookup n).isNone).isEmpty)) = true) := by
    have hm : ((ns.take (ns.length - (List.drop (([] : List Value).length - ns.length) ([] : List Value)).length)).filter fun n => ((ns.zip vs).lookup n).isNone) = [] := by
      rw [List.filter_eq_nil_iff]
      intro n hn
      have := lookup_zip_isSome hl' (List.mem_of_mem_take hn)
      simp [Option.isSome_iff_ne_none] at this
      simpa using this
    rw [hm]; exact Bool.false_ne_true
  have b := bound_zip _ vs [] hl' p5 (fun _ _ => rfl)
  rw [List.nil_append] at b
  have e : bindArgs ⟨nm, qn, ⟨[], as, none, [], kd, none, df⟩, a3, a4, a5, a6, .none, a8, a9, a10, a11, a12, a13, a14⟩ ⟨vs, []⟩ = pure ((ns ++ []).filterMap fun n => ((ns.zip vs).lookup n).map (n, ·)) := by
    subst hns
    refine Eq.trans (if_neg h1) ?_
    refine Eq.trans (if_neg h2) ?_
    have hz : (List.drop ((as.map (·.arg)).length - (List.drop (([] : List Value).length - (as.map (·.arg)).length) ([] : List Value)).length) (as.map (·.arg))).zip (List.drop (([] : List Value).length - (as.map (·.arg)).length) ([] : List Value)) = [] := by rw [List.drop_nil, List.zip_nil_right]
    refine Eq.trans (b := (forIn (m := Sem) ([] : List (Str × Value)) ((as.map (·.arg)).zip vs) _ >>= _)) (congrArg (fun z => (forIn (m := Sem) z ((as.map (·.arg)).zip vs) _ >>= _ : Sem (List (Str × Value)))) hz) rfl
  rw [e, List.append_nil, b]

/-! ### the frame of a call -/
theorem lookup_none_of_notMem {α : Type} : ∀ {l : List (Str × α)} {x : Str}, x ∉ l.map (·.1) → l.lookup x = none
  | [], _, _ => rfl
  | (n, v) :: r, x, h => by
    rw [List.lookup_cons]
    have : (x == n) = false := by
      cases q : x == n with
      | false => rfl
      | true => exact absurd (by rw [beq_iff_eq.mp q]; simp) h
    rw [this]
    exact lookup_none_of_notMem fun z => h (by simp only [List.map_cons, List.mem_cons]; exact .inr z)
theorem bindL_lookup (k : Str → Option NameKind) : ∀ (b : List (Str × Value)) (m : Str → Option Value) (x : Str), (b.map (·.1)).Nodup → k x = some .local → bindL k b m x = (b.lookup x).or (m x)
  | [], _, _, _, _ => rfl
  | (n, v) :: r, m, x, nd, hx => by
    obtain ⟨h1, h2⟩ := List.nodup_cons.mp nd
    rw [bindL, bindL_lookup k r _ x h2 hx, List.lookup_cons]
    by_cases q : x = n
    · subst q
      rw [lookup_none_of_notMem h1, if_pos hx]
      simp
    · have : (x == n) = false := by simpa using q
      rw [this]
      split
      · simp [q]
      · rfl
theorem bindC_lookup (k : Str → Option NameKind) : ∀ (b : List (Str × Value)) (m : Str → Option Value) (x : Str), (b.map (·.1)).Nodup → k x ≠ some .local → bindC k b m x = (b.lookup x).or (m x)
  | [], _, _, _, _ => rfl
  | (n, v) :: r, m, x, nd, hx => by
    obtain ⟨h1, h2⟩ := List.nodup_cons.mp nd
    rw [bindC, bindC_lookup k r _ x h2 hx, List.lookup_cons]
    by_cases q : x = n
    · subst q
      rw [lookup_none_of_notMem h1, if_neg hx]
      simp
    · have : (x == n) = false := by simpa using q
      rw [this]
      split
      · rfl
      · simp [q]
theorem relO_zip {H : Hid} {h : Heap} : ∀ {ns : List Str} {as : List AV} {vs : List Value} (x : Str), RelL H h as vs → RelO H h ((ns.zip as).lookup x) ((ns.zip vs).lookup x)
  | [], _, _, _, _ => by simp [RelO]
  | n :: ns, [], _, x, r => by simp only [RelL] at r; subst r; simp [RelO]
  | n :: ns, a :: as, _, x, r => by
    simp only [RelL] at r
    obtain ⟨v, rest, rfl, r1, r2⟩ := r
    rw [List.zip_cons_cons, List.zip_cons_cons, List.lookup_cons, List.lookup_cons]
    cases x == n with
    | true => exact r1
    | false => exact relO_zip x r2
theorem zip_keys {α β : Type} : ∀ {ns : List α} {vs : List β}, vs.length = ns.length → (ns.zip vs).map (·.1) = ns
  | [], _, _ => by simp
  | n :: ns, [], e => by simp at e
  | n :: ns, v :: vs, e => by simp [zip_keys (ns := ns) (vs := vs) (by simpa using e)]

structure IsDef (G : PG) (f : Addr) (fd : FuncData) (body : List Stmt) : Prop where
  at_ : ∀ {B : Heap}, G.T B → ∃ o, B.get? f = some o ∧ o.data = .func fd
  code : ∀ {B : Heap}, G.T B → B.CodeRec fd.code fd.qualname
  body : fd.body = .stmts body
  params : PlainParams fd.params
  dflt : fd.defaults = .none
  clo : fd.closure = []
  glob : fd.globals = mainGlobals
  bltn : fd.builtins = builtinsNs
  co : fd.scope.isCoroutine = false
  gen : fd.scope.isGenerator = false
  kind : fd.scope.kind = .function
  pk : ∀ x ∈ fd.params.args, fd.scope.names.lookup x.arg = some .local ∨ fd.scope.names.lookup x.arg = some .cell
  nofree : ∀ x, fd.scope.names.lookup x ≠ some .free
  nodup : ∀ n, ((cellsFrom n fd.scope.names []).map (·.1)).Nodup

theorem cellsFrom_some' {x : Str} : ∀ (names : List (Str × NameKind)) (n : Nat) (acc : List (Str × Addr)), names.lookup x = some .cell ∨ (acc.lookup x).isSome = true → ((cellsFrom n names acc).lookup x).isSome = true
  | [], _, _, h => h.elim (fun e => by cases e) id
  | (y, k) :: r, n, acc, h => by
    unfold cellsFrom
    by_cases hk : (k == .cell) = true
    · rw [if_pos hk]
      refine cellsFrom_some' r (n + 1) ((y, n) :: acc) ?_
      by_cases hy : (x == y) = true
      · exact .inr (by rw [List.lookup_cons, hy]; rfl)
      · refine h.imp (fun e => ?_) fun e => ?_
        · rw [List.lookup_cons] at e; simpa only [hy] using e
        · rw [List.lookup_cons]; simpa only [hy] using e
    · rw [if_neg hk]
      refine cellsFrom_some' r n acc ?_
      by_cases hy : (x == y) = true
      · refine .inr (h.elim (fun e => ?_) id)
        rw [List.lookup_cons, hy] at e
        exact absurd (by rw [Option.some.inj e]; rfl) hk
      · refine h.imp (fun e => ?_) id
        rw [List.lookup_cons] at e; simpa only [hy] using e
theorem lookup_of_mem_nodup' {α : Type} : ∀ {l : List (Str × α)} {x : Str × α}, (l.map (·.1)).Nodup → x ∈ l → l.lookup x.1 = some x.2
  | y :: r, x, nd, h => by
    obtain ⟨h1, h2⟩ := List.nodup_cons.mp nd
    rw [List.lookup_cons]
    rcases List.mem_cons.mp h with rfl | h
    · simp
    · have : (x.1 == y.1) = false := by
        cases q : x.1 == y.1 with
        | false => rfl
        | true => exact absurd (by show y.1 ∈ _; rw [← beq_iff_eq.mp q]; exact List.mem_map_of_mem h) h1
      rw [this]
      exact lookup_of_mem_nodup' h2 h

open Classical in
/-- what a call hides -/
noncomputable def hideH (H : Hid) (env : Env) (s : Shared) : Hid := fun a => if (H a).isSome = true ∨ a = env.locals ∨ (∃ x ∈ env.cells, x.2 = a) then s.heap.get? a else none

section
variable {B : Heap} {H : Hid} {env : Env} {ρ : Loc} {σ : Sto} {s : Shared} {n : Nat} {A : Around}
theorem hide_none {a : Addr} (h : hideH H env s a = none) (S : St G B H env ρ σ s) : H a = none ∧ a ≠ env.locals ∧ ∀ x ∈ env.cells, x.2 ≠ a := by
  refine ⟨none_of_not_some fun o q => ?_, fun q => ?_, fun x hx q => ?_⟩
  · obtain ⟨sl, e, _⟩ := S.hid a o q
    rw [hideH, if_pos (.inl (by rw [q]; rfl)), e] at h; cases h
  · obtain ⟨m, ⟨o, _, _, e, _⟩, _⟩ := S.frame.ns
    rw [hideH, if_pos (.inr (.inl q)), q, e] at h; cases h
  · obtain ⟨v, o, e, _⟩ := S.frame.there x hx
    rw [hideH, if_pos (.inr (.inr ⟨x, hx, q⟩)), ← q, e] at h; cases h
theorem hide_tup {a : Addr} {items : Array Value} (S : St G B H env ρ σ s) (t : IsTup s.heap a items) (h : H a = none) : hideH H env s a = none := by
  obtain ⟨o, ho, hc, m, hd⟩ := t
  rw [hideH, if_neg]
  rintro (q | q | ⟨x, hx, q⟩)
  · rw [h] at q; cases q
  · obtain ⟨_, ⟨o', _, _, e, hd', _⟩, _⟩ := S.frame.ns
    rw [q, e] at ho; cases ho; rw [hd] at hd'; cases hd'
  · obtain ⟨v, o', e, hd'⟩ := S.frame.there x hx
    rw [q, ho] at e; cases e; rw [hd] at hd'; cases hd'
theorem hide_sto {a : Addr} {c : Cell} (S : St G B H env ρ σ s) (e : σ a = some c) : hideH H env s a = none := by
  obtain ⟨_, _, q1, q2, q3⟩ := S.store a c e
  rw [hideH, if_neg]
  rintro (q | q | ⟨x, hx, q⟩)
  · rw [q1] at q; cases q
  · exact q2 q
  · exact q3 x hx q
theorem hide_some {a : Addr} {o : Obj} (h : hideH H env s a = some o) : s.heap.get? a = some o := by
  unfold hideH at h
  split at h
  · exact h
  · cases h
theorem CellAt.dom {H' : Hid} {h : Heap} {a : Addr} {c : Cell} (d : ∀ a items, IsTup h a items → H a = none → H' a = none) (x : CellAt G H h a c) : CellAt G H' h a c := by
  cases c with
  | list vs => obtain ⟨items, n, ho, r⟩ := x; exact ⟨items, n, ho, r.dom d⟩
  | rlist vs => obtain ⟨items, n, ho, r⟩ := x; exact ⟨items, n, ho, r.dom d⟩
  | dictI kvs => obtain ⟨vs, q, e, l⟩ := x; exact ⟨vs, q, e, l.dom d⟩
  | dictS kvs => obtain ⟨vs, q, e, l⟩ := x; exact ⟨vs, q, e, l.dom d⟩
  | inst C d => exact x
  | ns m => obtain ⟨es, n, ho, r⟩ := x; exact ⟨es, n, ho, r.dom d⟩

/-- behind the call the caller's state stands again -/
theorem St.back {env' : Env} {ρ' : Loc} {σ' : Sto} {s' : Shared} (S : St G B H env ρ σ s) (S' : St G B (hideH H env s) env' ρ' σ' s') (g : Grow (hideH H env s) s.heap s'.heap) :
    St G B H env ρ σ' s' ∧ Grow H s.heap s'.heap := by
  have g' : Grow H s.heap s'.heap := ⟨fun a items q t => g.tup a items (hide_tup S t q) t, g.recs⟩
  refine ⟨⟨S'.keep, fun a o e => ?_, S.frame.keep (fun b o q e => ?_) g', fun a c e => ?_, S.root, S'.low⟩, g'⟩
  · obtain ⟨sl, e', z⟩ := S.hid a o e
    obtain ⟨sl', e'', z'⟩ := S'.hid a _ (show hideH H env s a = some _ by rw [hideH, if_pos (.inl (by rw [e]; rfl)), e'])
    exact ⟨sl', e'', fun nd => (z' nd).trans (z nd)⟩
  · have hq : hideH H env s b = some o := by
      rw [hideH, if_pos, e]
      rcases q with q | q
      · exact .inr (.inl q)
      · exact .inr (.inr q)
    obtain ⟨sl, h, _⟩ := S'.hid b o hq
    exact ⟨sl, h⟩
  · obtain ⟨q1, q2, q3, _⟩ := S'.store a c e
    obtain ⟨z1, z2, z3⟩ := hide_none q3 S
    exact ⟨q1.dom fun b items _ q => (hide_none q S).1, q2, z1, z2, z3⟩
end

section
variable {B : Heap} {H : Hid} {env : Env} {ρ : Loc} {σ : Sto} {s : Shared} {n : Nat} {A : Around} {f : Addr} {fd : FuncData} {body : List Stmt}

/-- the callee's state at its start -/
theorem St.enter {args : List AV} {vs : List Value} {s₁ : Shared} (D : IsDef G f fd body) (S : St G B H env ρ σ s) (r : RelL H s.heap args vs) (hl : args.length = fd.params.args.length)
    (x : InCallC s (callEnvC fd s.heap.objs.size f).locals (bindL (callEnvC fd s.heap.objs.size f).kindOf ((fd.params.args.map (·.arg)).zip vs) fun _ => none) (callEnvC fd s.heap.objs.size f).cells
        (bindC (callEnvC fd s.heap.objs.size f).kindOf ((fd.params.args.map (·.arg)).zip vs) fun _ => none) s₁) :
    St G B (hideH H env s) (callEnvC fd s.heap.objs.size f) ((fd.params.args.map (·.arg)).zip args) σ s₁ ∧ Step (hideH H env s) s s₁ := by
  have k : ∀ b o, s.heap.get? b = some o → s₁.heap.get? b = some o := x.toInCall.keep
  have hz : vs.length = (fd.params.args.map (·.arg)).length := by rw [r.length, hl]; simp
  have nd : (((fd.params.args.map (·.arg)).zip vs).map (·.1)).Nodup := by rw [zip_keys hz]; exact D.params.nodup
  have r₁ : RelL (hideH H env s) s₁.heap args vs := (r.dom fun a items t q => hide_tup S t q).grow (.of_keep k)
  have hL : ∀ c, c ∈ (callEnvC fd s.heap.objs.size f).cells → s.heap.objs.size < c.2 := fun c hc => x.above c.1 c.2 hc
  have cellAt : ∀ c, c ∈ (callEnvC fd s.heap.objs.size f).cells → ∃ v, s₁.heap.IsCell c.2 v := fun c hc => ⟨_, x.cell c.1 c.2 (lookup_of_mem_nodup' (D.nodup _) hc)⟩
  refine ⟨⟨fun b o e => k b o (S.keep b o e), fun a o e => ⟨o.slots, k a o (hide_some e), fun _ => rfl⟩, ⟨⟨_, x.toInCall.ns, fun y hy _ => ?_⟩, fun y hy => ?_, cellAt⟩, fun a c e => ?_, S.root, S.low⟩, ?_⟩
  · rw [bindL_lookup _ _ _ y nd hy, Option.or_none]
    exact relO_zip y r₁
  · have hc : (callEnvC fd s.heap.objs.size f).kindOf y = some .cell := hy.elim id fun q => absurd q (D.nofree y)
    have hs := cellsFrom_some' (x := y) fd.scope.names (s.heap.objs.size + 1) [] (.inl hc)
    obtain ⟨c, hc'⟩ := Option.isSome_iff_exists.mp hs
    refine ⟨c, _, hc', x.cell y c hc', ?_⟩
    rw [bindC_lookup _ _ _ y nd (by rw [hc]; decide), Option.or_none]
    exact relO_zip y r₁
  · obtain ⟨q1, q2, q3, q4, q5⟩ := S.store a c e
    have hlt := S.sto_lt e
    refine ⟨(q1.dom fun b items t q => hide_tup S t q).keep (fun o e => k a o e) (.of_keep k), q2, hide_sto S e, ?_, fun y hy z => ?_⟩
    · exact Nat.ne_of_lt hlt
    · have := hL y hy; rw [z] at this; exact Nat.lt_irrefl _ (Nat.lt_trans this hlt)
  · obtain ⟨h', tk, rfl⟩ := x.toInCall.same
    exact .keeps k

/-- a call as a code: from any frame -/
noncomputable def CC (G : PG) (n : Nat) (f : AV) (args : List AV) (σ : Sto) (Φ : PE) (Ψ : Value → Sto → Prop) : Prop :=
  ∀ B H A env ρ s vs fv, G.T B → EnvOk B H env → AOk B H env n A → St G B H env ρ σ s → RelL H s.heap args vs → Rel H s.heap f fv →
    codeAny G.M A (.call fv ⟨vs, []⟩) (fun r s' => match r with | .ok (.ret v) => QE G B H env ρ Φ s v s' | .ok _ => False | .error e => QX G B H env (fun c ρ' σ' => ρ' = ρ ∧ Ψ c σ') s e s') s
theorem CC.wc {f : AV} {args : List AV} {Φ : PE} {Ψ : Value → Sto → Prop} (h : CC G n f args σ Φ Ψ) : WC G n f args σ Φ Ψ := fun B H A env ρ s vs fv a b c d e f => wpAny_call (h B H A env ρ s vs fv a b c d e f)
theorem cc_def {args : List AV} {Φ : PE} {Ψ : Value → Sto → Prop} (D : IsDef G f fd body) (hl : args.length = fd.params.args.length)
    (h : ∀ env : Env, env.scope = fd.scope → WS G n env (execs body env) ((fd.params.args.map (·.arg)).zip args) σ (fun fl _ σ' => Φ fl.val σ') (fun c _ σ' => Ψ c σ')) :
    CC G (n + 1) (.ref f) args σ Φ Ψ := by
  intro B H A env ρ s vs fv hT hE hA S r rf
  simp only [Rel] at rf; subst rf
  obtain ⟨o, ho, hd⟩ := D.at_ hT
  have hroom : A.depth < recursionLimit := by have := hA.depth; unfold recursionLimit; omega
  refine (codeAny_call_cells hroom (S.keep _ _ ho) hd ((G.hlim hT).keeps S.keep) ((D.code hT).keeps S.keep) D.body (bind_plain D.params D.dflt (by rw [r.length, hl])) D.clo (fun x hx => ?_) (fun s₁ x => ?_) D.co D.gen D.kind)
  · have hx' : x.1 ∈ fd.params.args.map (·.arg) := (List.of_mem_zip (show (x.1, x.2) ∈ _ from hx)).1
    obtain ⟨p, hp, hp'⟩ := List.mem_map.mp hx'
    rw [← hp']
    rcases D.pk p hp with q | q
    · exact .inl q
    · exact .inr ⟨q, cellsFrom_some' _ _ _ (.inl q)⟩
  · obtain ⟨S₁, st₁⟩ := S.enter D r hl x
    have hL : ∀ c, c ∈ (callEnvC fd s.heap.objs.size f).cells → s.heap.objs.size < c.2 := fun c hc => x.above c.1 c.2 hc
    have hbig : ∀ a, s.heap.objs.size ≤ a → B.get? a = none ∧ hideH H env s a = none := fun a ha => by
      refine ⟨none_of_not_some fun o e => Nat.lt_irrefl _ (Nat.lt_of_lt_of_le (Heap.lt_size (S.keep _ _ e)) ha), none_of_not_some fun o e => Nat.lt_irrefl _ (Nat.lt_of_lt_of_le (Heap.lt_size (hide_some e)) ha)⟩
    have F : FrameOk B (hideH H env s) (callEnvC fd s.heap.objs.size f) :=
      { kind := D.kind, glob := D.glob, bltn := D.bltn, loc := hbig _ (Nat.le_refl _), apart := fun y hy => Nat.ne_of_gt (hL y hy), fr := rfl, own := fun y hy => hbig _ (Nat.le_of_lt (hL y hy)), nodup := x.apart }
    obtain ⟨fe, outer, hfr, hin, hfe, hfe'⟩ := hA.frames
    have up : ∀ l, FramesIn B H l → FramesIn B (hideH H env s) l := fun l hl' e he => by
      obtain ⟨h1, L, o, h2, h3, h4, h5⟩ := hl' e he
      obtain ⟨sl, h6, _⟩ := S.hid L o h4
      exact ⟨h1, L, { o with slots := sl }, h2, h3, (by rw [hideH, if_pos (.inl (by rw [h4]; rfl)), h6]), h5⟩
    have hA' : AOk B (hideH H env s) (callEnvC fd s.heap.objs.size f) n (A.deeper (callEnvC fd s.heap.objs.size f)) := by
      refine ⟨?_, ?_, ?_, callEnvC fd s.heap.objs.size f, fe :: outer, Around.frames_deeper hfr, ?_, fun _ => rfl, fun q => absurd rfl q⟩
      · have := hA.depth; show A.depth + 1 + 4 * n ≤ 900; omega
      · have := hA.units; show A.units + 3 + 40 * n ≤ 9000; omega
      · rcases hA.hand with q | ⟨q, e, o, vs, h1, h2, h3⟩
        · exact .inl q
        · obtain ⟨sl, h6, _⟩ := S.hid e o h2
          exact .inr ⟨(by first | decide | (with_reducible first | exact lv hn | exact lv1 hn | exact lv2 hn | exact Int.natCast_nonneg _) | omega), e, { o with slots := sl }, vs, h1, (by rw [hideH, if_pos (.inl (by rw [h2]; rfl)), h6]), h3⟩
      · intro e he
        rcases List.mem_cons.mp he with rfl | he
        · by_cases q : env.frame = some env.locals
          · obtain rfl := hfe q
            obtain ⟨m, ⟨o, es, ep, e1, e2, _⟩, _⟩ := S.frame.ns
            exact ⟨by rw [hE.kind]; decide, e.locals, o, q, hE.loc.1, (by rw [hideH, if_pos (.inr (.inl rfl)), e1]), es, ep, e2⟩
          · exact up _ (hfe' q) e (.head _)
        · exact up _ hin e he
    refine wpAny_mono (h _ rfl B (hideH H env s) _ s₁ hT F hA' S₁) (fun fl s' q => ?_) (fun e s' q => ?_)
    · obtain ⟨fl', ρ', σ', rf, S', st', p⟩ := q
      obtain ⟨S'', g⟩ := S.back S' (st₁.grow.trans st'.grow)
      refine ⟨fl'.val, σ', ?_, S'', ⟨g, st'.gens.trans st₁.gens, st'.os.trans st₁.os⟩, p⟩
      cases fl' with
      | ret a => obtain ⟨v, rfl, ra⟩ := rf; exact ra.dom fun b items _ q => (hide_none q S).1
      | next => cases rf; simp [Rel, Fl.val]
      | brk => cases rf; simp [Rel, Fl.val]
      | cont => cases rf; simp [Rel, Fl.val]
    · obtain ⟨ea, cls, ρ', σ', rfl, fl, S', st', p⟩ := q
      unfold leaving
      refine wpAny_bind (note_frame hA' F S' fl fun s₂ S₂ f₂ st₂ => set_flight S₂ f₂ fun s₃ S₃ f₃ st₃ => ?_)
      obtain ⟨S'', g⟩ := S.back S₃ (((st₁.grow.trans st'.grow).trans st₂.grow).trans st₃.grow)
      have hn : ∀ a, Mine1 B (hideH H env s) σ' a → Mine1 B H σ' a := fun a z => ⟨z.base, (hide_none z.hid S).1, z.sto⟩
      obtain ⟨new, ncls, oe, vs', he, hc, hd', hsz, T, h1, newT, hTe, oT, ts, hT', hTc, hTd, hTs⟩ := f₃
      exact ⟨ea, cls, ρ, σ', rfl, ⟨hn _ new, ncls, oe, vs', he, hc, hd', hsz, .inr ⟨T, h1, hn _ newT, hTe, oT, ts, hT', hTc, hTd, hTs⟩⟩, S'',
        ⟨g, ((st₃.gens.trans st₂.gens).trans st'.gens).trans st₁.gens, ((st₃.os.trans st₂.os).trans st'.os).trans st₁.os⟩, rfl, p⟩
theorem wc_def {args : List AV} {Φ : PE} {Ψ : Value → Sto → Prop} (D : IsDef G f fd body) (hl : args.length = fd.params.args.length)
    (h : ∀ env : Env, env.scope = fd.scope → WS G n env (execs body env) ((fd.params.args.map (·.arg)).zip args) σ (fun fl _ σ' => Φ fl.val σ') (fun c _ σ' => Ψ c σ')) :
    WC G (n + 1) (.ref f) args σ Φ Ψ := (cc_def D hl h).wc
end
end Mine
set_option maxRecDepth 100000
namespace Mine
open PySem PySem.Spec PySem.Calls PyProof.Rows PySem.W

section
variable {prog : Program} {w : World} {A : Around} {E : Value → Shared → Prop} {s : Shared} {K : Frag} {x D : Addr} {ox : Obj}
theorem findObj_none {C : Addr} {a g : Value} {name : Str} (hc : (clsIn K C).isSome = true) (ha : findIn K (.ref C) name = some (some a)) (hg : specialIn K a "__get__" = some (some g)) (ht : takesIn K a = some true) : findObj K C none name = some (.bind g a) := by
  obtain ⟨cd, hc⟩ := Option.isSome_iff_exists.mp hc
  unfold findObj
  rw [hc, Option.bind_some, ha, Option.bind_some]
  simp [hg, ht]
theorem check_exn {rest : List Value} {Q : Unit → Shared → Prop} (L0 : Looks (model prog w) s.heap (typeOf (.ref x)) (.ref D)) (L4 : Looks (model prog w) s.heap (isSubtype (.ref D) (.type "BaseException")) true)
    (ha : argsOk "BaseException.__getattribute__" ⟨.ref x :: rest, []⟩) (hq : Q () s) : wpAny (model prog w) A (checkBuiltinCall "BaseException.__getattribute__" ⟨.ref x :: rest, []⟩) Q E s := by
  have hk : builtinKind "BaseException.__getattribute__" = some .slot := by decide +kernel
  have hs : splitId "BaseException.__getattribute__" = some ("BaseException", "__getattribute__") := by decide +kernel
  obtain ⟨hh, g, d, t, os⟩ := s
  simp only [checkBuiltinCall, hk, hs]
  refine wpAny_bind ?_
  unfold isInstance
  refine wpAny_bind (L0.at (L4.at ?_))
  rw [if_neg (by decide)]
  cases hsig : Manifest.signature? "BaseException.__getattribute__" with
  | none => exact wpAny_pure hq
  | some sig =>
    simp only [argsOk, hsig] at ha
    have h2 : Bind.checkArgs "BaseException.__getattribute__" sig ⟨.ref x :: rest, []⟩ = pure () := ha
    show wpAny _ _ (Bind.checkArgs "BaseException.__getattribute__" sig ⟨.ref x :: rest, []⟩) Q E _
    rw [h2]; exact wpAny_pure hq
theorem exn_attr {Q : Option Value → Shared → Prop} (X : K.In s.heap) (I : InstAt s.heap x ox D none) (hga : findIn K (.ref D) "__getattribute__" = some (some (.builtin "BaseException.__getattribute__"))) (hgt : findIn K (.ref D) "__getattr__" = some none)
    (hf : findObj K D none "__class__" = some (.bind (.builtin "getset_descriptor.__get__") (.builtin "object.__class__"))) (hsub : subIn K (.ref D) (.type "BaseException") = some true) (hm : mroIn K D (.type "object") = some true)
    (h : Q (some (.ref D)) { s with toks := s.toks + 1 }) : wpAny (model prog w) A (getAttr? (.ref x) "__class__") Q E s := by
  obtain ⟨hh, g, d, t, os⟩ := s
  have L0 := I.type (M := model prog w)
  have L1 := looks_findIn (M := model prog w) X hga
  have L2 := looks_findIn (M := model prog w) X hgt
  have L3 := looks_find (M := model prog w) X I hf
  have L4 : Looks (model prog w) hh (isSubtype (.ref D) (.type "BaseException")) true := looks_subIn X hsub
  unfold getAttr? getAttrBy? getAttrBy
  refine wpAny_bind (wpAny_mkText (wpAny_bind (wpAny_attempt (wpAny_holding (wpAny_bind (L0.at (wpAny_bind (L1.at ?_))))))))
  show wpAny _ _ (getAttrByItsOwn _ _ _ _ _ _) _ _ _
  unfold getAttrByItsOwn hookBefore
  rw [if_pos (by rfl)]
  refine wpAny_bind (L2.at ?_)
  refine wpAny_bind (wpAny_attempt (wpAny_holding ?_))
  unfold callGetattribute
  rw [if_neg (by decide)]
  unfold boundAndCalled
  rw [F.excAttr_ValueError.ga.bind (.ref x)]
  refine wpAny_bind (wpAny_pure ?_)
  refine wpAny_call (codeAny_call_builtin F.excAttr_ValueError.ga.plain F.entry_bexc_ga (check_exn (s := ⟨hh, g, d, t + 1, os⟩) L0 L4 (F.args_bexc_ga _ _) ?_))
  refine wpAny_bind (wpAny_pure (wpAny_bind (wpAny_pure (wpAny_bind (L0.at (wpAny_bind (L3.at ?_)))))))
  show wpAny _ _ (holding [Value.builtin "object.__class__"] (call (.builtin "getset_descriptor.__get__") [.builtin "object.__class__", .ref x, .ref D]) >>= ret) _ _ _
  refine wpAny_bind (wpAny_holding (wpAny_call (class_get (s := ⟨hh, g, d, t + 1, os⟩) (ox := ox) (od := none) X I hm ?_)))
  refine wpAny_pure ?_
  exact handed_on rfl (wpAny_pure h)
/-- an exception's class, as isinstance asks for it -/
structure ExcK (K : Frag) (D : Addr) : Prop where
  ga : findIn K (.ref D) "__getattribute__" = some (some (.builtin "BaseException.__getattribute__"))
  gt : findIn K (.ref D) "__getattr__" = some none
  dct : hasDictIn K D = true
  cl : findIn K (.ref D) "__class__" = some (some (.builtin "object.__class__"))
  get : specialIn K (.builtin "object.__class__") "__get__" = some (some (.builtin "getset_descriptor.__get__"))
  tk : takesIn K (.builtin "object.__class__") = some true
  sub : subIn K (.ref D) (.type "BaseException") = some true
  mro : mroIn K D (.type "object") = some true
theorem kitx_exn {K : Frag} {x D : Addr} {ox : Obj} (e : ExcK K D) : KitX K (.ref x) (.ref D) (fun h => W.InstAt h x ox D none) where
  ty := fun _ _ _ I => I.type
  it := fun _ _ X _ => by
    obtain ⟨cdD, hcD, _⟩ := any_some e.dct
    unfold clsIn at hcD
    split at hcD
    · rename_i c' d' cd' sl' ho
      intro A' Q' E' s' k q
      unfold isType loadHead
      exact wpAny_bind (wpAny_loadPart (k _ _ (X _ _ ho)) (wpAny_pure q))
    · cases hcD
  ne := fun h tp dd its n sl X htp => by
    obtain ⟨cdD, hcD, _⟩ := any_some e.dct
    refine Bool.eq_false_iff.mpr fun q => ?_
    have e : D = tp := Value.ref.inj (beq_iff_eq.mp q)
    subst e
    unfold clsIn at hcD
    split at hcD
    · rename_i c' d' cd' sl' ho
      have z := (X _ _ ho).symm.trans htp
      cases z
    · cases hcD
  ca := fun X I k => exn_attr X I e.ga e.gt (findObj_none (by obtain ⟨cd, hc, _⟩ := any_some e.dct; rw [hc]; rfl) e.cl e.get e.tk) e.sub e.mro k
theorem inst_exn {h : Heap} {x D : Addr} {o : Obj} {vs : Array Value} (ho : h.get? x = some o) (hc : o.cls = .ref D) (hn : o.dict = none) (hd : o.data = .fields vs) : W.InstAt h x o D none where
  at_ := ho
  cls := hc
  no := by unfold notCls; rw [hd]
  dict := by rw [hn]; trivial
end
end Mine
set_option maxRecDepth 100000
namespace Mine
open PySem PyProof.Rows

set_option genSizeOf false
set_option genSizeOfSpec false
set_option genInjectivity false
inductive Ex where
  | nm (x : Str)
  | gl (x : Str)
  | cst (a : AV)
  | bin (op : Operator) (l r : Ex)
  | cmp (op : CmpOp) (l r : Ex)
  | cmp2 (o1 o2 : CmpOp) (l m r : Ex)
  | and_ (es : List Ex)
  | or_ (es : List Ex)
  | not_ (e : Ex)
  | neg (e : Ex)
  | sub (e i : Ex)
  | slc (e : Ex) (lo hi : Option Ex)
  | attr (e : Ex) (a : Str)
  | call (f : Str) (args : List Ex)
  | bi (f : Str) (args : List Ex)
  | bik (f : Str) (arg : Ex) (k : Str) (v : Ex)
  | meth (o : Ex) (m : Str) (args : List Ex)
  | list (es : List Ex)
  | tup (es : List Ex)
  | dict (ks vs : List Ex)
  | comp (elt : Ex) (x : Str) (iter : Ex) (ifs : List Ex)

inductive Sm where
  | asg (x : Str) (e : Ex)
  | asgT (xs : List Str) (e : Ex)
  | sattr (o : Ex) (a : Str) (e : Ex)
  | sitem (o i e : Ex)
  | expr (e : Ex)
  | ite (c : Ex) (t f : List Sm)
  | for_ (x : Str) (it : Ex) (body : List Sm)
  | forT (xs : List Str) (it : Ex) (body : List Sm)
  | while_ (c : Ex) (body : List Sm)
  | ret (e : Option Ex)
  | raise (cls : Str) (msg : Str)
  | try_ (body : List Sm) (cls : Str) (name : Str) (h : List Sm)

set_option genSizeOf true
set_option genSizeOfSpec true
set_option genInjectivity true
/-! ### Operations on values -/
noncomputable def mapO {α β : Type} (f : α → Option β) : List α → Option (List β)
  | [] => some []
  | a :: r => (f a).bind fun b => (mapO f r).map (b :: ·)

theorem mapO_cons {α β : Type} {f : α → Option β} {a : α} {l : List α} {r : List β} (h : mapO f (a :: l) = some r) : ∃ b bs, f a = some b ∧ mapO f l = some bs ∧ r = b :: bs := by
  obtain ⟨b, h1, h2⟩ := Option.bind_eq_some_iff.mp h
  obtain ⟨bs, h3, rfl⟩ := Option.map_eq_some_iff.mp h2
  exact ⟨b, bs, h1, h3, rfl⟩
noncomputable def datum (σ : Sto) : Nat → AV → Option PyData
  | 0, _ => none
  | _ + 1, .none => some .none
  | _ + 1, .bool b => some (.bool b)
  | _ + 1, .int i => some (.int i)
  | _ + 1, .str x => some (.str x)
  | k + 1, .tup vs => (mapO (datum σ k) vs).map .tuple
  | k + 1, .ref a => match lstOf σ a with
    | some vs => (mapO (datum σ k) vs).map .list
    | none => none
  | _ + 1, .val _ => none
  | _ + 1, .exn _ _ => none

noncomputable def truthV (σ : Sto) : AV → Option Bool
  | .none => some false
  | .bool b => some b
  | .int i => some (i != 0)
  | _ => none

/-- one pair is less than the other -/
noncomputable def ltM (p q : Int × Int) : Bool := if p.1 = q.1 then decide (p.2 < q.2) else decide (p.1 < q.1)
noncomputable def step1 (acc m : Int × Int) : Int × Int := if ltM acc m = true then m else acc
/-- two ints -/
noncomputable def int2 (a b : AV) (k : Int → Int → Prop) : Prop := match a with
  | .int i => match b with
    | .int j => k i j
    | _ => False
  | _ => False
theorem int2_of {a b : AV} {k : Int → Int → Prop} (h : int2 a b k) : ∃ i j, a = .int i ∧ b = .int j ∧ k i j := by
  cases a with
  | int i => cases b with
    | int j => exact ⟨i, j, rfl, rfl, h⟩
    | _ => exact h.elim
  | _ => exact h.elim
/-- == -/
abbrev eqD (σ : Sto) (a b : AV) (Φ : Bool → Prop) : Prop := ∃ da db, datum σ 6 a = some da ∧ datum σ 6 b = some db ∧ SeqAt.shaped da = true ∧ SeqAt.shaped db = true ∧ Φ (PyData.eqv da db)
noncomputable def eqV (σ : Sto) (a b : AV) (Φ : Bool → Prop) : Prop := match a with
  | .int i => match b with
    | .int j => Φ (i == j)
    | _ => eqD σ a b Φ
  | .str x => match b with
    | .str y => Φ (x == y)
    | _ => eqD σ a b Φ
  | .bool x => match b with
    | .bool y => Φ (x == y)
    | _ => eqD σ a b Φ
  | .none => match b with
    | .none => Φ true
    | _ => eqD σ a b Φ
  | .ref x => eqD σ a b Φ ∨ ∃ y kvs, b = .ref y ∧ σ x = some (.dictI kvs) ∧ σ y = some (.dictI []) ∧ Φ kvs.isEmpty
  | _ => eqD σ a b Φ
theorem eqV_ref {σ : Sto} {x : Addr} {b : AV} {Φ : Bool → Prop} (h : eqD σ (.ref x) b Φ) : eqV σ (.ref x) b Φ := .inl h

noncomputable def inV (G : PG) (σ : Sto) (a b : AV) (Φ : Bool → Prop) : Prop :=
  match b with
  | .ref l => match lstOf σ l with
    | some _ => False
    | none => match σ l with
      | some (.dictI kvs) => ∃ i, a = .int i ∧ Φ (kvs.any fun kv => kv.1 == i)
      | _ => False
  | _ => False

noncomputable def AV.isNone : AV → Bool
  | .none => true
  | _ => false
noncomputable def AV.novalue : AV → Bool
  | .val _ => false
  | _ => true

noncomputable def cmpV (G : PG) (op : CmpOp) (a b : AV) (σ : Sto) (Φ : Bool → Prop) : Prop :=
  match op with
  | .Eq => eqV σ a b Φ
  | .NotEq => eqV σ a b fun r => Φ (!r)
  | .Lt => match a with
    | .int i => match b with
      | .int j => Φ (decide (i < j))
      | _ => False
    | .tup xs => match b with
      | .tup ys => ∃ p q : Int × Int, xs = [.int p.1, .int p.2] ∧ ys = [.int q.1, .int q.2] ∧ Φ (ltM p q)
      | _ => False
    | _ => False
  | .LtE => int2 a b fun i j => Φ (decide (i ≤ j))
  | .Gt => match a with
    | .int i => match b with
      | .int j => Φ (decide (i > j))
      | _ => False
    | _ => False
  | .GtE => match a with
    | .int i => match b with
      | .int j => Φ (decide (i ≥ j))
      | _ => False
    | _ => False
  | .Is => match b with
    | .none => a.novalue = true ∧ Φ a.isNone
    | .bool y => match a with
      | .bool x => Φ (x == y)
      | _ => False
    | _ => False
  | .IsNot => match b with
    | .none => a.novalue = true ∧ Φ (!a.isNone)
    | .bool y => match a with
      | .bool x => Φ (!(x == y))
      | _ => False
    | _ => False
  | .In => inV G σ a b Φ
  | .NotIn => inV G σ a b fun r => Φ (!r)

noncomputable def newList (σ : Sto) (vs : List AV) (Φ : PE) : Prop := vs.length ≤ sizeLine ∧ ∀ a, σ a = none → Φ (.ref a) (upd σ a (.list vs))

noncomputable def addV (a b : AV) (σ : Sto) (Φ : PE) : Prop := match a with
  | .int i => match b with
    | .int j => Φ (.int (i + j)) σ
    | _ => False
  | .str x => match b with
    | .str y => x.length + y.length ≤ sizeLine ∧ Φ (.str (x ++ y)) σ
    | _ => False
  | .ref a => match b with
    | .ref b => match lstOf σ a with
      | some xs => match lstOf σ b with
        | some ys => newList σ (xs ++ ys) Φ
        | none => False
      | none => False
    | _ => False
  | _ => False
noncomputable def binV (op : Operator) (a b : AV) (σ : Sto) (Φ : PE) : Prop :=
  match op with
  | .Add => addV a b σ Φ
  | .Sub => int2 a b fun i j => Φ (.int (i - j)) σ
  | .Mult => (int2 a b fun i j => i.natAbs < 2 ^ 63 ∧ Φ (.int (i * j)) σ) ∨ ∃ x k, a = .str x ∧ b = .int k ∧ 0 ≤ k ∧ k ≤ 100 ∧ x.length ≤ 100 ∧ Φ (.str (Txt.mul x k)) σ
  | .FloorDiv => int2 a b fun i j => j ≠ 0 ∧ j.natAbs < 2 ^ 200 ∧ Φ (.int (Int.fdiv i j)) σ
  | .Mod => int2 a b fun i j => j ≠ 0 ∧ Φ (.int (Int.fmod i j)) σ
  | .Pow => False
  | _ => False


abbrev PY := Value → Sto → Prop

/-- an item by its place -/
noncomputable def idx {α : Type} (vs : List α) (k : Int) : Option α := (seqIndex? k vs.length).bind fun j => vs[j]?
noncomputable def subV (a i : AV) (σ : Sto) (Φ : PE) : Prop := match a with
  | .tup vs => match i with
    | .int k => ∃ v, -(2 ^ 62) ≤ k ∧ k < 2 ^ 62 ∧ idx vs k = some v ∧ Φ v σ
    | _ => False
  | .ref l => match i with
    | .int k => match lstOf σ l with
      | some vs => ∃ v, -(2 ^ 62) ≤ k ∧ k < 2 ^ 62 ∧ idx vs k = some v ∧ Φ v σ
      | none => match σ l with
        | some (.dictI kvs) => ∃ v, kvs.lookup k = some v ∧ Φ v σ
        | _ => False
    | .str k => match σ l with
      | some (.dictS kvs) => ∃ v, kvs.lookup k = some v ∧ Φ v σ
      | _ => False
    | _ => False
  | .str x => match i with
    | .int k => 0 ≤ k ∧ k < x.length ∧ k < 2 ^ 62 ∧ Φ (.str (Txt.item x k)) σ
    | _ => False
  | _ => False
/-- a cut of a list by places from nought on -/
noncomputable def cutL {α : Type} (vs : List α) (lo hi : Option Int) : List α := (vs.take ((hi.getD (vs.length : Int)).toNat)).drop ((lo.getD 0).toNat)
noncomputable def optI : Option AV → Option (Option Int)
  | none => some none
  | some (.int k) => some (some k)
  | _ => none
noncomputable def slcV (a : AV) (lo hi : Option AV) (σ : Sto) (Φ : PE) : Prop :=
  match optI lo, optI hi with
  | some l, some h => match a with
    | .ref r => match lstOf σ r with
      | some vs => (∀ k, l = some k → 0 ≤ k) ∧ (∀ k, h = some k → 0 ≤ k) ∧ vs.length ≤ sizeLine ∧ newList σ (cutL vs l h) Φ
      | _ => False
    | _ => False
  | _, _ => False

/-- an attribute of an own instance -/
noncomputable def AttrOk (G : PG) (C : Addr) (a : Str) : Prop := W.plainGet G.K C a = true ∧ W.hasDictIn G.K C = true ∧ W.findIn G.K (.ref C) a = some none
noncomputable def attrV (G : PG) (o : AV) (a : Str) (σ : Sto) (Φ : PE) : Prop :=
  match o with
  | .ref x => match σ x with
    | some (.inst C d) => match σ d with
      | some (.ns m) => ∃ v, m.lookup a = some v ∧ v.novalue = true ∧ AttrOk G C a ∧ Φ v σ
      | _ => False
    | _ => False
  | _ => False

noncomputable def avOf : Value → AV
  | .ref a => .ref a
  | .int i _ => .int i
  | .str x _ => .str x
  | v => .val v
noncomputable def globV (G : PG) (x : Str) (Φ : AV → Prop) : Prop :=
  match G.mg x with
  | some v => Φ (avOf v)
  | none => ∃ v, bootBuiltins x = some v ∧ Φ (.val v)

/-- isinstance -/
noncomputable def kindV (σ : Sto) : AV → Option Value
  | .none => some (.type "NoneType")
  | .bool _ => some (.type "bool")
  | .int _ => some (.type "int")
  | .str _ => some (.type "str")
  | .tup _ => some (.type "tuple")
  | .ref a => match lstOf σ a with
    | some _ => some (.type "list")
    | none => match σ a with
      | some (.dictI _) => some (.type "dict")
      | some (.dictS _) => some (.type "dict")
      | _ => none
  | .val _ => none
  | .exn _ c => some c

noncomputable def AV.exnK (K : List (Addr × Obj)) : AV → Prop
  | .exn _ c => ∃ D, c = .ref D ∧ ExcK K D
  | _ => True

noncomputable def arg1 (as : List AV) (k : AV → Prop) : Prop := match as with
  | [a] => k a
  | _ => False
theorem arg1_of {as : List AV} {k : AV → Prop} (h : arg1 as k) : ∃ a, as = [a] ∧ k a := by
  cases as with
  | nil => exact h.elim
  | cons a r => cases r with
    | nil => exact ⟨a, rfl, h⟩
    | cons _ _ => exact h.elim
noncomputable def arg2 (as : List AV) (k : AV → AV → Prop) : Prop := match as with
  | [a, b] => k a b
  | _ => False
theorem arg2_of {as : List AV} {k : AV → AV → Prop} (h : arg2 as k) : ∃ a b, as = [a, b] ∧ k a b := by
  cases as with
  | nil => exact h.elim
  | cons a r => cases r with
    | nil => exact h.elim
    | cons b r => cases r with
      | nil => exact ⟨a, b, rfl, h⟩
      | cons _ _ => exact h.elim
/-- a list to read -/
noncomputable def onLst (σ : Sto) (a : AV) (k : List AV → Prop) : Prop := match a with
  | .ref l => match lstOf σ l with
    | some vs => k vs
    | none => False
  | _ => False
theorem onLst_of {σ : Sto} {a : AV} {k : List AV → Prop} (h : onLst σ a k) : ∃ l vs, a = .ref l ∧ lstOf σ l = some vs ∧ k vs := by
  cases a with
  | ref l =>
    replace h : (match lstOf σ l with | some vs => k vs | none => False) := h
    cases e : lstOf σ l with
    | none => rw [e] at h; exact h.elim
    | some vs => rw [e] at h; exact ⟨l, vs, rfl, e, h⟩
  | _ => exact h.elim
theorem onLst_mk {σ : Sto} {l : Addr} {vs : List AV} {k : List AV → Prop} (e : lstOf σ l = some vs) (h : k vs) : onLst σ (.ref l) k := by
  show (match lstOf σ l with | some vs => k vs | none => False)
  rw [e]; exact h
noncomputable def lenV (a : AV) (σ : Sto) (Φ : PE) : Prop := match a with
  | .tup vs => vs.length < 2 ^ 62 ∧ Φ (.int vs.length) σ
  | .str x => x.length < 2 ^ 62 ∧ Φ (.int x.length) σ
  | .ref l => onLst σ (.ref l) fun vs => vs.length < 2 ^ 62 ∧ Φ (.int vs.length) σ
  | _ => False
noncomputable def isiV (G : PG) (a b : AV) (σ : Sto) (Φ : PE) : Prop := match b with
  | .val c => ∃ T t b, c = .type T ∧ kindV σ a = some t ∧ W.kitOne G.K t (.type T) = some b ∧ a.exnK G.K ∧ Φ (.bool b) σ
  | .ref C => ∃ t b, kindV σ a = some t ∧ W.kitOne G.K t (.ref C) = some b ∧ a.exnK G.K ∧ Φ (.bool b) σ
  | _ => False
noncomputable def intV (a : AV) (σ : Sto) (Φ : PE) : Prop := match a with
  | .bool b => Φ (.int (if b then 1 else 0)) σ
  | _ => False
noncomputable def biV2 (f : Str) (as : List AV) (σ : Sto) (Φ : PE) : Prop :=
  if f = "dict" then arg1 as fun a => ∃ x kvs, a = .ref x ∧ σ x = some (.dictI kvs) ∧ kvs.length ≤ sizeLine ∧ ∀ b, σ b = none → Φ (.ref b) (upd σ b (.dictI kvs)) else
  False
noncomputable def maxI (_ : Nat) (_ : List AV) (_ : Sto) (_ : PE) : Prop := False
noncomputable def maxL (n : Nat) (as : List AV) (σ : Sto) (Φ : PE) : Prop := maxI n as σ Φ ∨ arg1 as fun a => onLst σ a fun vs => 10 ≤ n ∧ ∃ p ps, vs = ((p :: ps).map fun p => .tup [.int p.1, .int p.2]) ∧ Φ (.tup [.int (ps.foldl step1 p).1, .int (ps.foldl step1 p).2]) σ
noncomputable def biV (G : PG) (n : Nat) (f : Str) (as : List AV) (σ : Sto) (Φ : PE) : Prop :=
  if f = "len" then arg1 as fun a => lenV a σ Φ
  else if f = "isinstance" then arg2 as fun a b => isiV G a b σ Φ
  else if f = "list" then arg1 as fun a => onLst σ a fun vs => newList σ vs Φ
  else if f = "max" then maxL n as σ Φ ∨ arg2 as fun a b => int2 a b fun i j => 10 ≤ n ∧ Φ (.int (max i j)) σ
  else if f = "min" then arg2 as fun a b => int2 a b fun i j => 10 ≤ n ∧ Φ (.int (min i j)) σ
  else if f = "all" then False
  else if f = "int" then arg1 as fun a => intV a σ Φ
  else if f = "str" then arg1 as fun a => ∃ i, a = .int i ∧ i.natAbs.log2 < 1920 ∧ Φ (.str (Str.ofString (toString i))) σ
  else biV2 f as σ Φ

inductive Src where
  | vals (vs : List AV)
  | lst (a : Addr)
  | zip (a b : Addr)
  | enum (a : Addr)
noncomputable def Src.pair : Src → Bool
  | .vals _ => false
  | .lst _ => false
  | .zip _ _ => true
  | .enum _ => true
noncomputable def Src.items (σ : Sto) : Src → Option (List AV)
  | .vals vs => some vs
  | .lst a => lstOf σ a
  | .zip a b => match lstOf σ a, lstOf σ b with
    | some xs, some ys => some (List.zipWith (fun x y => .tup [x, y]) xs ys)
    | _, _ => none
  | .enum a => match lstOf σ a with
    | some xs => some (xs.zipIdx.map fun p => .tup [.int p.2, p.1])
    | _ => none
/-- the ints of a range -/
noncomputable def rangeL (a b c : Int) : List AV := (List.range (Builtin.Range.rangeSize a b c).toNat).map fun (i : Nat) => .int (a + i * c)
noncomputable def rangeV (as : List AV) (Φ : List AV → Prop) : Prop :=
  match as with
  | [.int b] => -(2 ^ 62) ≤ b ∧ b < 2 ^ 62 ∧ Φ (rangeL 0 b 1)
  | [.int a, .int b, .int c] => -(2 ^ 62) ≤ a ∧ a < 2 ^ 62 ∧ -(2 ^ 62) ≤ b ∧ b < 2 ^ 62 ∧ 0 < c ∧ c < 1000 ∧ Φ (rangeL a b c)
  | _ => False

/-- a list's own methods -/
noncomputable def listM (m : Str) (x : Addr) (vs : List AV) (as : List AV) (σ : Sto) (Φ : PE) : Prop :=
  if m = "append" then match as with
    | [a] => vs.length < sizeLine ∧ Φ .none (upd σ x (.list (vs ++ [a])))
    | _ => False
  else if m = "pop" then match as with
    | [.int k] => ∃ v, 0 ≤ k ∧ k < vs.length ∧ k < 2 ^ 62 ∧ vs.length ≤ sizeLine ∧ vs[k.toNat]? = some v ∧ Φ v (upd σ x (.list (vs.eraseIdx k.toNat)))
    | _ => False
  else if m = "clear" then match as with
    | [] => vs.length ≤ sizeLine ∧ Φ .none (upd σ x (.list []))
    | _ => False
  else False
/-- a method is found, then the arguments are reckoned, then it is called -/
noncomputable def methV (G : PG) (n : Nat) (o : AV) (m : Str) (σ : Sto) (ev : (List AV → Sto → Prop) → Prop) (Φ : PE) (Ψ : PY) : Prop :=
  match o with
  | .ref x => match σ x with
    | some (.inst C d) => match σ d with
      | some (.ns l) => ∃ f, l.lookup m = none ∧ W.plainGet G.K C m = true ∧ W.findIn G.K (.ref C) m = some (some (.ref f)) ∧ W.isFn G.K (.ref f) = true ∧ W.keepIn G.K (.ref f) = true ∧ ev fun as σ₁ => WC G n (.ref f) (.ref x :: as) σ₁ Φ Ψ
      | _ => False
    | some (.list _) => (m = "append" ∨ m = "pop" ∨ m = "clear") ∧ ev fun as σ₁ => match σ₁ x with
      | some (.list vs) => listM m x vs as σ₁ Φ
      | _ => False
    | some (.dictS _) => m = "get" ∧ ev fun as σ₁ => ∃ kvs y d, σ₁ x = some (.dictS kvs) ∧ as = [.str y, d] ∧ Φ ((kvs.lookup y).getD d) σ₁
    | some (.dictI _) => m = "pop" ∧ ev fun as σ₁ => ∃ kvs i v, σ₁ x = some (.dictI kvs) ∧ as = [.int i] ∧ kvs.lookup i = some v ∧ kvs.length ≤ sizeLine ∧ Φ v (upd σ₁ x (.dictI (kvs.filter fun kv => decide (kv.1 ≠ i))))
    | _ => False
  | _ => False


/-- a def, or a class of ours -/
noncomputable def KeepOk (G : PG) (fa : Addr) : Prop := W.keepIn G.K (.ref fa) = true ∨ ∀ B, G.T B → ∃ o fd, B.get? fa = some o ∧ o.data = .func fd

set_option genInjectivity false in
structure Tr where
  v : Loc → Sto → PE → PY → Prop
  t : Loc → Sto → (Bool → Sto → Prop) → PY → Prop
  i : Loc → Sto → (Src → Sto → Prop) → PY → Prop
noncomputable def Tr.test (v : Loc → Sto → PE → PY → Prop) : Loc → Sto → (Bool → Sto → Prop) → PY → Prop := fun ρ σ Φ Ψ => v ρ σ (fun a σ₁ => ∃ b, truthV σ₁ a = some b ∧ Φ b σ₁) Ψ
noncomputable def Tr.iter (n : Nat) (v : Loc → Sto → PE → PY → Prop) : Loc → Sto → (Src → Sto → Prop) → PY → Prop := fun ρ σ Φ Ψ => v ρ σ (fun a σ₁ => match a with | .ref l => Φ (.lst l) σ₁ | _ => False) Ψ
noncomputable def Tr.plain (n : Nat) (v : Loc → Sto → PE → PY → Prop) : Tr := ⟨v, Tr.test v, Tr.iter n v⟩

noncomputable def seqV : List Tr → Loc → Sto → (List AV → Sto → Prop) → PY → Prop
  | [], _, σ, Φ, _ => Φ [] σ
  | e :: es, ρ, σ, Φ, Ψ => e.v ρ σ (fun a σ₁ => seqV es ρ σ₁ (fun as σ₂ => Φ (a :: as) σ₂) Ψ) Ψ
noncomputable def andV : List Tr → Loc → Sto → PE → PY → Prop
  | [], _, _, _, _ => False
  | [e], ρ, σ, Φ, Ψ => e.v ρ σ Φ Ψ
  | e :: e' :: es, ρ, σ, Φ, Ψ => e.v ρ σ (fun a σ₁ => ∃ b, truthV σ₁ a = some b ∧ if b = true then andV (e' :: es) ρ σ₁ Φ Ψ else Φ a σ₁) Ψ
noncomputable def orV : List Tr → Loc → Sto → PE → PY → Prop
  | [], _, _, _, _ => False
  | [e], ρ, σ, Φ, Ψ => e.v ρ σ Φ Ψ
  | e :: e' :: es, ρ, σ, Φ, Ψ => e.v ρ σ (fun a σ₁ => ∃ b, truthV σ₁ a = some b ∧ if b = true then Φ a σ₁ else orV (e' :: es) ρ σ₁ Φ Ψ) Ψ
noncomputable def allT : List Tr → Loc → Sto → (Bool → Sto → Prop) → PY → Prop
  | [], _, σ, Φ, _ => Φ true σ
  | e :: es, ρ, σ, Φ, Ψ => e.t ρ σ (fun b σ₁ => if b = true then allT es ρ σ₁ Φ Ψ else Φ false σ₁) Ψ
noncomputable def anyT : List Tr → Loc → Sto → (Bool → Sto → Prop) → PY → Prop
  | [], _, σ, Φ, _ => Φ false σ
  | e :: es, ρ, σ, Φ, Ψ => e.t ρ σ (fun b σ₁ => if b = true then Φ true σ₁ else anyT es ρ σ₁ Φ Ψ) Ψ
noncomputable def optV : Option Tr → Loc → Sto → (Option AV → Sto → Prop) → PY → Prop
  | none, _, σ, Φ, _ => Φ none σ
  | some e, ρ, σ, Φ, Ψ => e.v ρ σ (fun a σ₁ => Φ (some a) σ₁) Ψ
/-- a comprehension by what holds between its turns -/
noncomputable def compV (elt : Tr) (x : Str) (it : Tr) (ifs : List Tr) (ρ : Loc) (σ : Sto) (Φ : PE) (Ψ : PY) : Prop :=
  it.i ρ σ (fun src σ₁ => src.pair = false ∧ ∃ vs, src.items σ₁ = some vs ∧ ∃ I : List AV → List AV → Sto → Prop, I vs [] σ₁ ∧
      (∀ rest acc σ₂, I rest acc σ₂ → src.items σ₂ = some vs) ∧
      (∀ v rest acc σ₂, I (v :: rest) acc σ₂ → acc.length < sizeLine ∧ allT ifs (putA x v ρ) σ₂ (fun b σ₃ => if b = true then elt.v (putA x v ρ) σ₃ (fun a σ₄ => I rest (acc ++ [a]) σ₄) (fun _ _ => False) else I rest acc σ₃) (fun _ _ => False)) ∧
      (∀ acc σ₂, I [] acc σ₂ → ∀ a, σ₂ a = none → Φ (.ref a) (upd σ₂ a (.list acc)))) Ψ

noncomputable def biI (G : PG) (n : Nat) (f : Str) (args : List Tr) (ρ : Loc) (σ : Sto) (Φ : Src → Sto → Prop) (Ψ : PY) : Prop :=
  if f = "range" then seqV args ρ σ (fun as σ₁ => 10 ≤ n ∧ rangeV as fun vs => Φ (.vals vs) σ₁) Ψ
  else Tr.iter n (fun ρ σ Φ Ψ => seqV args ρ σ (fun as σ₁ => biV G n f as σ₁ Φ) Ψ) ρ σ Φ Ψ

noncomputable def putI {α : Type} [DecidableEq α] (k : α) (v : AV) : List (α × AV) → List (α × AV)
  | [] => [(k, v)]
  | (j, u) :: r => if j = k then (j, v) :: r else (j, u) :: putI k v r
noncomputable def strKs : List Ex → Option (List Str)
  | [] => some []
  | .cst (.str k) :: r => (strKs r).map (k :: ·)
  | _ => none
noncomputable def putAll {α : Type} [DecidableEq α] : List α → List AV → List (α × AV) → List (α × AV)
  | k :: ks, v :: vs, m => putAll ks vs (putI k v m)
  | _, _, m => m
noncomputable def dictV {α : Type} [DecidableEq α] (mk : List (α × AV) → Cell) (ks : List α) (vs : List Tr) (ρ : Loc) (σ : Sto) (Φ : PE) (Ψ : PY) : Prop :=
  ∀ a, σ a = none → seqV vs ρ (upd σ a (mk [])) (fun as σ₁ => σ₁ a = some (mk []) ∧ Φ (.ref a) (upd σ₁ a (mk (putAll ks as [])))) Ψ
noncomputable def dictD (ks : List Ex) (vs : List Tr) (ρ : Loc) (σ : Sto) (Φ : PE) (Ψ : PY) : Prop :=
  match ks with
  | [] => vs = [] ∧ ∀ a, σ a = none → Φ (.ref a) (upd σ a (.dictI []))
  | k :: ks => match strKs (k :: ks) with
    | some l => dictV .dictS l vs ρ σ Φ Ψ
    | none => False

mutual
noncomputable def tr (G : PG) (n : Nat) : Ex → Tr
  | .nm x => .plain n fun ρ σ Φ _ => match ρ.lookup x with
    | some a => Φ a σ
    | none => False
  | .gl x => .plain n fun _ σ Φ _ => globV G x fun a => Φ a σ
  | .cst a => .plain n fun _ σ Φ _ => Φ a σ
  | .bin op l r => .plain n fun ρ σ Φ Ψ => (tr G n l).v ρ σ (fun a σ₁ => (tr G n r).v ρ σ₁ (fun b σ₂ => binV op a b σ₂ Φ) Ψ) Ψ
  | .cmp op l r => .plain n fun ρ σ Φ Ψ => (tr G n l).v ρ σ (fun a σ₁ => (tr G n r).v ρ σ₁ (fun b σ₂ => cmpV G op a b σ₂ fun q => Φ (.bool q) σ₂) Ψ) Ψ
  | .cmp2 o1 o2 l m r => .plain n fun ρ σ Φ Ψ => (tr G n l).v ρ σ (fun a σ₁ => (tr G n m).v ρ σ₁ (fun b σ₂ => cmpV G o1 a b σ₂ fun q =>
      if q = true then (tr G n r).v ρ σ₂ (fun c σ₃ => cmpV G o2 b c σ₃ fun q' => Φ (.bool q') σ₃) Ψ else Φ (.bool false) σ₂) Ψ) Ψ
  | .and_ es => { Tr.plain n (andV (trs G n es)) with t := allT (trs G n es) }
  | .or_ es => { Tr.plain n (orV (trs G n es)) with t := anyT (trs G n es) }
  | .not_ e => { Tr.plain n (fun ρ σ Φ Ψ => (tr G n e).v ρ σ (fun a σ₁ => ∃ b, truthV σ₁ a = some b ∧ Φ (.bool (!b)) σ₁) Ψ) with t := fun ρ σ Φ Ψ => (tr G n e).t ρ σ (fun b σ₁ => Φ (!b) σ₁) Ψ }
  | .neg e => .plain n fun ρ σ Φ Ψ => (tr G n e).v ρ σ (fun a σ₁ => match a with | .int i => Φ (.int (-i)) σ₁ | _ => False) Ψ
  | .sub e i => .plain n fun ρ σ Φ Ψ => (tr G n e).v ρ σ (fun a σ₁ => (tr G n i).v ρ σ₁ (fun k σ₂ => subV a k σ₂ Φ) Ψ) Ψ
  | .slc e lo hi => .plain n fun ρ σ Φ Ψ => (tr G n e).v ρ σ (fun a σ₁ => optV (tro G n lo) ρ σ₁ (fun l σ₂ => optV (tro G n hi) ρ σ₂ (fun h σ₃ => slcV a l h σ₃ Φ) Ψ) Ψ) Ψ
  | .attr e a => .plain n fun ρ σ Φ Ψ => (tr G n e).v ρ σ (fun o σ₁ => attrV G o a σ₁ Φ) Ψ
  | .call f args => .plain n fun ρ σ Φ Ψ => ∃ fa, G.mg f = some (.ref fa) ∧ KeepOk G fa ∧ seqV (trs G n args) ρ σ (fun as σ₁ => WC G n (.ref fa) as σ₁ Φ Ψ) Ψ
  | .bi f args => { Tr.plain n (fun ρ σ Φ Ψ => seqV (trs G n args) ρ σ (fun as σ₁ => biV G n f as σ₁ Φ) Ψ) with i := biI G n f (trs G n args) }
  | .bik _ _ _ _ => .plain n fun _ _ _ _ => False
  | .meth o m args => .plain n fun ρ σ Φ Ψ => (tr G n o).v ρ σ (fun a σ₁ => methV G n a m σ₁ (fun k => seqV (trs G n args) ρ σ₁ k Ψ) Φ Ψ) Ψ
  | .list es => .plain n fun ρ σ Φ Ψ => seqV (trs G n es) ρ σ (fun as σ₁ => newList σ₁ as Φ) Ψ
  | .tup es => .plain n fun ρ σ Φ Ψ => seqV (trs G n es) ρ σ (fun as σ₁ => as.length ≤ sizeLine ∧ Φ (.tup as) σ₁) Ψ
  | .dict ks vs => .plain n (dictD ks (trs G n vs))
  | .comp elt x it ifs => .plain n (compV (tr G n elt) x (tr G n it) (trs G n ifs))
noncomputable def trs (G : PG) (n : Nat) : List Ex → List Tr
  | [] => []
  | e :: es => tr G n e :: trs G n es
noncomputable def tro (G : PG) (n : Nat) : Option Ex → Option Tr
  | none => none
  | some e => some (tr G n e)
end

/-- what a statement says -/
abbrev TS := Loc → Sto → PS → PX → Prop
noncomputable def sattrV (G : PG) (o : AV) (x : Str) (a : AV) (σ : Sto) (Φ : Sto → Prop) : Prop :=
  match o with
  | .ref r => match σ r with
    | some (.inst C d) => match σ d with
      | some (.ns m) => m.length < 1000 ∧ W.findIn G.K (.ref C) "__setattr__" = some (some (.builtin "object.__setattr__")) ∧ W.plainOver G.K C = true ∧ W.takerIn G.K C x = some none ∧ W.hasDictIn G.K C = true ∧ Φ (upd σ d (.ns (putA x a m)))
      | _ => False
    | _ => False
  | _ => False
noncomputable def sitemV (o i a : AV) (σ : Sto) (Φ : Sto → Prop) : Prop :=
  match o with
  | .ref r => match σ r with
    | some (.list vs) => match i with
      | .int k => 0 ≤ k ∧ k < vs.length ∧ k < 2 ^ 62 ∧ Φ (upd σ r (.list (vs.set k.toNat a)))
      | _ => False
    | some (.dictI kvs) => match i with
      | .int k => kvs.length < sizeLine ∧ Φ (upd σ r (.dictI (putI k a kvs)))
      | _ => False
    | some (.dictS kvs) => match i with
      | .str k => kvs.length < sizeLine ∧ Φ (upd σ r (.dictS (putI k a kvs)))
      | _ => False
    | _ => False
  | _ => False
/-- an exception class of ours under ValueError -/
noncomputable def bmVE : List Value := [.type "ValueError", .type "Exception", .type "BaseException", .type "object"]
noncomputable def ExcOk (G : PG) (x : Str) (C : Addr) : Prop := ∀ B, G.T B → OwnCls x C bmVE "ValueError.__new__" G.mg B
noncomputable def loopV (src : Src) (bind : AV → Loc → Option Loc) (body : TS) (ρ : Loc) (σ : Sto) (Φ : PS) (Ψ : PX) : Prop :=
  ∃ vs, src.items σ = some vs ∧ ∃ I : List AV → Loc → Sto → Prop, I vs ρ σ ∧ (∀ rest ρ₂ σ₂, I rest ρ₂ σ₂ → src.items σ₂ = some vs) ∧
    (∀ v rest ρ₂ σ₂, I (v :: rest) ρ₂ σ₂ → ∃ ρ₃, bind v ρ₂ = some ρ₃ ∧ body ρ₃ σ₂ (fun fl ρ₄ σ₄ => match fl with | .next => I rest ρ₄ σ₄ | .cont => I rest ρ₄ σ₄ | .brk => Φ .next ρ₄ σ₄ | .ret a => Φ (.ret a) ρ₄ σ₄) Ψ) ∧
    (∀ ρ₂ σ₂, I [] ρ₂ σ₂ → Φ .next ρ₂ σ₂)
noncomputable def bind1 (x : Str) (v : AV) (ρ : Loc) : Option Loc := some (putA x v ρ)
noncomputable def whileV (c : Tr) (body : TS) (ρ : Loc) (σ : Sto) (Φ : PS) (Ψ : PX) : Prop :=
  ∃ I : Nat → Loc → Sto → Prop, (∃ k, I k ρ σ) ∧ ∀ k ρ₂ σ₂, I k ρ₂ σ₂ → c.t ρ₂ σ₂ (fun b σ₃ => if b = true then body ρ₂ σ₃ (fun fl ρ₄ σ₄ => match fl with
      | .next => ∃ k', k' < k ∧ I k' ρ₄ σ₄ | .cont => ∃ k', k' < k ∧ I k' ρ₄ σ₄ | .brk => Φ .next ρ₄ σ₄ | .ret a => Φ (.ret a) ρ₄ σ₄) Ψ else Φ .next ρ₂ σ₃) (fun c σ₃ => Ψ c ρ₂ σ₃)

mutual
noncomputable def ts (G : PG) (n : Nat) : Sm → TS
  | .asg x e => fun ρ σ Φ Ψ => (tr G n e).v ρ σ (fun a σ₁ => Φ .next (putA x a ρ) σ₁) (fun c σ₁ => Ψ c ρ σ₁)
  | .asgT _ _ => fun _ _ _ _ => False
  | .sattr o x e => fun ρ σ Φ Ψ => (tr G n e).v ρ σ (fun a σ₁ => (tr G n o).v ρ σ₁ (fun b σ₂ => sattrV G b x a σ₂ fun σ₃ => Φ .next ρ σ₃) (fun c σ₁ => Ψ c ρ σ₁)) (fun c σ₁ => Ψ c ρ σ₁)
  | .sitem o i e => fun ρ σ Φ Ψ => (tr G n e).v ρ σ (fun a σ₁ => (tr G n o).v ρ σ₁ (fun b σ₂ => (tr G n i).v ρ σ₂ (fun k σ₃ => sitemV b k a σ₃ fun σ₄ => Φ .next ρ σ₄) (fun c σ₁ => Ψ c ρ σ₁)) (fun c σ₁ => Ψ c ρ σ₁)) (fun c σ₁ => Ψ c ρ σ₁)
  | .expr e => fun ρ σ Φ Ψ => (tr G n e).v ρ σ (fun _ σ₁ => Φ .next ρ σ₁) (fun c σ₁ => Ψ c ρ σ₁)
  | .ite c t f => fun ρ σ Φ Ψ => (tr G n c).t ρ σ (fun b σ₁ => if b = true then tss G n t ρ σ₁ Φ Ψ else tss G n f ρ σ₁ Φ Ψ) (fun c σ₁ => Ψ c ρ σ₁)
  | .for_ x it body => fun ρ σ Φ Ψ => (tr G n it).i ρ σ (fun src σ₁ => src.pair = false ∧ loopV src (bind1 x) (tss G n body) ρ σ₁ Φ Ψ) (fun c σ₁ => Ψ c ρ σ₁)
  | .forT _ _ _ => fun _ _ _ _ => False
  | .while_ c body => fun ρ σ Φ Ψ => whileV (tr G n c) (tss G n body) ρ σ Φ Ψ
  | .ret none => fun ρ σ Φ _ => Φ (.ret .none) ρ σ
  | .ret (some e) => fun ρ σ Φ Ψ => (tr G n e).v ρ σ (fun a σ₁ => Φ (.ret a) ρ σ₁) (fun c σ₁ => Ψ c ρ σ₁)
  | .raise x _ => fun ρ σ _ Ψ => ∃ C, G.mg x = some (.ref C) ∧ 10 ≤ n ∧ ExcOk G x C ∧ Ψ (.ref C) ρ σ
  | .try_ body x y h => fun ρ σ Φ Ψ => 10 ≤ n ∧ tss G n body ρ σ Φ (fun c ρ₁ σ₁ => ∃ C, G.mg x = some (.ref C) ∧ W.exmOne G.K c (.ref C) = some true ∧
      ∀ e, tss G 9 h (putA y (.exn e c) ρ₁) σ₁ (fun fl ρ₂ σ₂ => ∀ ρ₃ : Loc, (∀ z, z ≠ y → ρ₃.lookup z = ρ₂.lookup z) → Φ fl ρ₃ σ₂) (fun _ _ _ => False))
noncomputable def tss (G : PG) (n : Nat) : List Sm → TS
  | [] => fun ρ σ Φ _ => Φ .next ρ σ
  | s :: r => fun ρ σ Φ Ψ => ts G n s ρ σ (fun fl ρ₁ σ₁ => match fl with | .next => tss G n r ρ₁ σ₁ Φ Ψ | .brk => Φ .brk ρ₁ σ₁ | .cont => Φ .cont ρ₁ σ₁ | .ret a => Φ (.ret a) ρ₁ σ₁) Ψ
end

end Mine
set_option maxRecDepth 100000
namespace Mine
open PySem PyProof.Rows

variable {G : PG}

structure Cx (G : PG) (B : Heap) (H : Hid) (A : Around) (env : Env) (n : Nat) : Prop where
  T : G.T B
  E : EnvOk B H env
  A : AOk B H env n A

section
variable {B : Heap} {H : Hid} {A : Around} {env : Env} {n : Nat} {ρ : Loc} {σ : Sto} {s : Shared} {Φ : PE} {Ψ : PX}

abbrev Go (G : PG) (B : Heap) (H : Hid) (A : Around) (env : Env) (ρ : Loc) (s : Shared) (t : Sem Value) (Φ : PE) (Ψ : PX) : Prop := wpAny G.M A t (QE G B H env ρ Φ s) (QX G B H env Ψ s) s

theorem Go.step {t : Sem Value} {s₁ : Shared} (st : Step H s s₁) (h : Go G B H A env ρ s₁ t Φ Ψ) : wpAny G.M A t (QE G B H env ρ Φ s) (QX G B H env Ψ s) s₁ :=
  wpAny_mono h (fun _ _ q => q.step st) fun _ _ q => q.step st

/-! ### constants, names -/
theorem go_load {x : Str} {a : AV} (C : Cx G B H A env n) (S : St G B H env ρ σ s) (hk : env.kindOf x = some .local ∨ env.kindOf x = some .cell ∨ env.kindOf x = some .free) (hn : (x == ("__classdict__" : Str)) = false) (hz : x ≠ ".0")
    (e : ρ.lookup x = some a) (p : Φ a σ) : Go G B H A env ρ s (loadName env x) Φ Ψ := by
  rcases hk with hk | hk | hk
  · obtain ⟨m, hm, hr⟩ := S.frame.ns
    have := hr x hk hz
    rw [e] at this
    cases q : m x with
    | none => rw [q] at this; exact this.elim
    | some v =>
      rw [q] at this
      exact wpAny_loadName_local C.E.kind hk hm q (qe S (.refl _ _) this p)
  · obtain ⟨c, v, h1, h2, h3⟩ := S.frame.cells x (.inl hk)
    rw [e] at h3
    cases v with
    | none => exact h3.elim
    | some v => exact wpAny_loadName_cell C.E.kind hk h1 h2 (qe S (.refl _ _) h3 p)
  · obtain ⟨c, v, h1, h2, h3⟩ := S.frame.cells x (.inr hk)
    rw [e] at h3
    cases v with
    | none => exact h3.elim
    | some v => exact wpAny_loadName_free C.E.kind hk h1 h2 (qe S (.refl _ _) h3 p) hn

theorem rel_avOf {h : Heap} (v : Value) : Rel H h (avOf v) v := by cases v <;> simp [avOf, Rel]

theorem go_glob {x : Str} (C : Cx G B H A env n) (S : St G B H env ρ σ s) (hk : env.kindOf x = some .globalImplicit) (hn : x ≠ "__name__") (pos : Pos) (hd : (x == ("__debug__" : Str)) = false)
    (p : globV G x fun a => Φ a σ) : Go G B H A env ρ s (eval (.Name x pos) env) Φ Ψ := by
  have hg := (G.hg C.T).keeps S.keep
  have hb := (G.hb C.T).keeps S.keep
  rw [← C.E.glob] at hg
  rw [← C.E.bltn] at hb
  unfold globV at p
  refine Calls.Name_function_global C.E.kind hk ?_ hd
  cases q : G.mg x with
  | some v =>
    rw [q] at p
    exact Calls.loadGlobal_global hg q (qe S (.refl _ _) (rel_avOf v) p)
  | none =>
    rw [q] at p
    obtain ⟨v, hv, p⟩ := p
    exact Calls.loadGlobal_builtin hg q hb ((G.bi x hn).trans hv) (qe S (.refl _ _) (by simp [Rel]) p)
end
end Mine
set_option maxRecDepth 100000
namespace Mine
open PySem PyProof.Rows

variable {G : PG}
section
variable {B : Heap} {H : Hid} {A : Around} {env : Env} {n : Nat} {ρ : Loc} {σ : Sto} {s : Shared} {Φ : PE} {Ψ : PX}

theorem intBits_le {i : Int} {k : Nat} (h : i.natAbs < 2 ^ k) : Builtin.Int.intBits i ≤ k := by
  unfold Builtin.Int.intBits
  split
  · omega
  · rename_i q
    have hn : i.natAbs ≠ 0 := fun e => q (by rw [Int.natAbs_eq_zero.mp e]; rfl)
    have := (Nat.log2_lt hn).mpr h
    omega

theorem St.listAt {l : Addr} {vs : List AV} (S : St G B H env ρ σ s) (e : lstOf σ l = some vs) : ∃ items n, s.heap.get? l = some ⟨.type "list", none, .seq items n, #[]⟩ ∧ RelL H s.heap vs items.toList := by
  unfold lstOf at e
  split at e
  · rename_i q; cases e; exact (S.store l _ q).1
  · rename_i q; cases e; exact (S.store l _ q).1
  · cases e
theorem isList_of {h : Heap} {l : Addr} {items : Array Value} {n : Nat} (e : h.get? l = some ⟨.type "list", none, .seq items n, #[]⟩) : h.IsList l items := ⟨_, e, rfl, n, rfl⟩

/-- a new list -/
theorem go_newList {vs : List AV} {ws : List Value} {Q : Value → Shared → Prop} (S : St G B H env ρ σ s) (r : RelL H s.heap vs ws) (p : newList σ vs Φ)
    (h : ∀ s', QE G B H env ρ Φ s (.ref s.heap.objs.size) s' → s' = { s with heap := s.heap.push { cls := .type "list", data := .seq ws.toArray } } → Q (.ref s.heap.objs.size) s') :
    Q (.ref s.heap.objs.size) { s with heap := s.heap.push { cls := .type "list", data := .seq ws.toArray } } := by
  refine h _ ?_ rfl
  have k : ∀ b o, s.heap.get? b = some o → (s.heap.push { cls := .type "list", data := .seq ws.toArray }).get? b = some o := fun b o e => Heap.get?_push_of_some _ e
  refine ⟨.ref s.heap.objs.size, _, by simp [Rel], S.new (s' := { s with heap := s.heap.push { cls := .type "list", data := .seq ws.toArray } }) k (Nat.le_refl _) (c := .list vs) ?_, .push _, p.2 _ (S.fresh (Nat.le_refl _))⟩
  exact ⟨ws.toArray, 0, Heap.get?_push_size _ rfl, by simpa using r.grow (.of_keep k)⟩

theorem go_add_lists {l b : Addr} {xs ys : List AV} (S : St G B H env ρ σ s) (hl : lstOf σ l = some xs) (hb : lstOf σ b = some ys) (p : newList σ (xs ++ ys) Φ) : Go G B H A env ρ s (binaryOp .Add (.ref l) (.ref b)) Φ Ψ := by
  obtain ⟨i1, n1, h1, r1⟩ := S.listAt hl
  obtain ⟨i2, n2, h2, r2⟩ := S.listAt hb
  have hsz : i1.size + i2.size ≤ sizeLine := by
    have := p.1
    rw [List.length_append, ← r1.length, ← r2.length] at this
    simpa using this
  refine concat_meets ⟨_, h1, rfl⟩ ⟨_, h2, rfl⟩ noFill_list_add seq_list_add PySem.F.slot_list_add PySem.F.entry_list_add (PySem.F.args_list_add_2 _ _) (list_addW l b i1 i2 n1 n2 none none #[] #[] hsz) ⟨h1, h2, ?_⟩
  have e : i1 ++ i2 = (i1.toList ++ i2.toList).toArray := by simp
  rw [e]
  exact go_newList S (r1.append r2) p fun s' q _ => q

theorem bin_ok {op : Operator} {a b : AV} {v u : Value} (S : St G B H env ρ σ s) (ra : Rel H s.heap a v) (rb : Rel H s.heap b u) (p : binV op a b σ Φ) : Go G B H A env ρ s (binaryOp op v u) Φ Ψ := by
  cases op with
  | Add =>
    replace p : addV a b σ Φ := p
    cases a with
    | int i => cases b with
      | int j =>
        simp only [Rel] at ra rb; obtain ⟨t, rfl⟩ := ra; obtain ⟨t', rfl⟩ := rb
        exact add_int (qe (S.tok _) (Step.tok _ _ _) (by simp [Rel]) p)
      | _ => exact p.elim
    | str x => cases b with
      | str y =>
        simp only [Rel] at ra rb; obtain ⟨t, rfl⟩ := ra; obtain ⟨t', rfl⟩ := rb
        exact add_str (fun t' tk => qe (S.tok _) (Step.tok _ _ _) (by simp [Rel]) p.2) p.1
      | _ => exact p.elim
    | ref l => cases b with
      | ref r =>
        simp only [Rel] at ra rb; subst ra; subst rb
        replace p : (match lstOf σ l with | some xs => (match lstOf σ r with | some ys => newList σ (xs ++ ys) Φ | none => False) | none => False) := p
        cases h1 : lstOf σ l with
        | none => rw [h1] at p; exact p.elim
        | some xs =>
          cases h2 : lstOf σ r with
          | none => rw [h1, h2] at p; exact p.elim
          | some ys => rw [h1, h2] at p; exact go_add_lists S h1 h2 p
      | _ => exact p.elim
    | _ => exact p.elim
  | Sub =>
    obtain ⟨i, j, rfl, rfl, p⟩ := int2_of p
    simp only [Rel] at ra rb; obtain ⟨t, rfl⟩ := ra; obtain ⟨t', rfl⟩ := rb
    exact sub_int (qe (S.tok _) (Step.tok _ _ _) (by simp [Rel]) p)
  | Mult =>
    rcases p with p | ⟨x, k, rfl, rfl, h0, h1, h2, p⟩
    · obtain ⟨i, j, rfl, rfl, p⟩ := int2_of p
      simp only [Rel] at ra rb; obtain ⟨t, rfl⟩ := ra; obtain ⟨t', rfl⟩ := rb
      exact mul_int (qe (S.tok _) (Step.tok _ _ _) (by simp [Rel]) p.2) (IntMulOk.of_left (Nat.le_succ_of_le (intBits_le p.1)))
    · simp only [Rel] at ra rb; obtain ⟨t, rfl⟩ := ra; obtain ⟨t', rfl⟩ := rb
      exact SB.mul (mulOk_of 100 100 h2 h1 (Int.le_trans (by decide) h0) (by decide) (by decide)) fun t' k => qe (S.tok _) (Step.tok _ _ _) (by simp [Rel]) p
  | FloorDiv =>
    obtain ⟨i, j, rfl, rfl, p⟩ := int2_of p
    simp only [Rel] at ra rb; obtain ⟨t, rfl⟩ := ra; obtain ⟨t', rfl⟩ := rb
    refine floordiv_int p.1 (qe (S.tok _) (Step.tok _ _ _) (by simp [Rel]) p.2.2) (.inl (PyProof.noPylong_of_log2 ?_))
    have hn : j.natAbs ≠ 0 := fun e => p.1 (Int.natAbs_eq_zero.mp e)
    have := (Nat.log2_lt hn).mpr p.2.1
    omega
  | Mod =>
    obtain ⟨i, j, rfl, rfl, p⟩ := int2_of p
    simp only [Rel] at ra rb; obtain ⟨t, rfl⟩ := ra; obtain ⟨t', rfl⟩ := rb
    exact mod_int' p.1 (qe (S.tok _) (Step.tok _ _ _) (by simp [Rel]) p.2)
  | Pow =>
    exact p.elim
  | _ => exact p.elim
end
end Mine
set_option maxRecDepth 100000
namespace Mine
open PySem PyProof.Rows PySem.SeqAt
open AutoSeq1 (wpAny_loadPart')

/-! ### tuples of ints in their order -/
noncomputable def cmpI (op : CmpOp) (a b : Int) : Bool := match op with
  | .Lt => decide (a < b)
  | .LtE => decide (a ≤ b)
  | .Gt => decide (a > b)
  | _ => decide (a ≥ b)
noncomputable def cmpN (op : CmpOp) (a b : Nat) : Bool := match op with
  | .Lt => decide (a < b)
  | .LtE => decide (a ≤ b)
  | .Gt => decide (a > b)
  | _ => decide (a ≥ b)
noncomputable def cmpL (op : CmpOp) (m n : Nat) : Option (Int × Int) → Bool
  | none => cmpN op m n
  | some (a, b) => cmpI op a b
noncomputable def OrdOp (op : CmpOp) : Prop := op = .Lt ∨ op = .Gt ∨ op = .GtE

theorem rc_ints {prog : Program} {w : World} {A : Around} {E : Value → Shared → Prop} {s : Shared} {op : CmpOp} {a b : Int} {t u : Tok} {Q : Value → Shared → Prop} (ho : OrdOp op) (h : Q (.bool (cmpI op a b)) s) :
    wpAny (model prog w) A (richCompare op (.int a t) (.int b u)) Q E s := by
  rcases ho with rfl | rfl | rfl
  · exact lt_int h
  · exact PyProof.Rows.gt_int h
  · exact PyProof.Rows.ge_int h

/-- the first pair that differs -/
inductive Prs : List (Value × Value) → Option (Int × Int) → Prop
  | nil : Prs [] none
  | same {a : Int} {t u : Tok} {r : List (Value × Value)} {z : Option (Int × Int)} : Prs r z → Prs ((.int a t, .int a u) :: r) z
  | diff {a b : Int} {t u : Tok} {r : List (Value × Value)} : a ≠ b → Prs ((.int a t, .int b u) :: r) (some (a, b))

theorem tuple_ltAt (l b : Addr) (items items2 : Array Value) (n n2 : Nat) (dd dd2 : Option Addr) (sl sl2 : Array (Option Value)) (zs : Option (Int × Int)) :
    Meets (Builtin.«tuple.__lt__» ⟨[.ref l, .ref b], []⟩)
      (fun A R s => s.heap.get? l = some { cls := .type "tuple", dict := dd, data := .seq items n, slots := sl } ∧ s.heap.get? b = some { cls := .type "tuple", dict := dd2, data := .seq items2 n2, slots := sl2 } ∧
        Prs (items.toList.zip items2.toList) zs ∧
        R (.ok (.ret (.bool (cmpL .Lt items.size items2.size zs)))) s) :=
  .of_wp fun prog w A R s h => by
    obtain ⟨hp, g, d, tk, os⟩ := s; obtain ⟨hl, hb, he, h⟩ := h
    have f2 := AutoSeq1.sub_tuple_tuple
    wp_walk using wpAny_loadPart' hl, wpAny_loadPart' hb, wpAny_forIn_list _ (fun rest b s' => b.1 = none ∧ s' = ⟨hp, g, d, tk, os⟩ ∧ ∃ zr, Prs rest zr ∧
      R (.ok (.ret (.bool (cmpL .Lt items.size items2.size zr)))) ⟨hp, g, d, tk, os⟩) _
    case turn =>
      rintro ⟨y, x⟩ rest b s' ⟨hb', rfl, zr, hz, hR⟩
      cases hz with
      | same hrest =>
        rename_i z1 t u
        refine wpAny_bind (EqAt.int_int _ _ _ _ prog w _ _ ?_)
        rw [beq_self_eq_true]
        wp_walk
        exact ⟨rfl, rfl, zr, hrest, hR⟩
      | diff hne =>
        refine wpAny_bind (EqAt.int_int _ _ _ _ prog w _ _ ?_)
        rw [beq_eq_false_iff_ne.mpr hne]
        exact wpAny_bind (wpAny_rule (wpAny_bind (rc_ints (by simp [OrdOp]) (wpAny_bind (wpAny_pure (wpAny_pure (wpAny_pure ⟨_, rfl, hR⟩)))))))
    case fin =>
      rintro ⟨b1, b2⟩ s' ⟨hb', rfl, zr, hz, hR⟩
      simp only at hb'
      subst hb'
      cases hz
      exact wpAny_pure ⟨_, rfl, hR⟩
    case h =>
      exact ⟨rfl, rfl, zs, he, h⟩
theorem tuple_gtAt (l b : Addr) (items items2 : Array Value) (n n2 : Nat) (dd dd2 : Option Addr) (sl sl2 : Array (Option Value)) (zs : Option (Int × Int)) :
    Meets (Builtin.«tuple.__gt__» ⟨[.ref l, .ref b], []⟩)
      (fun A R s => s.heap.get? l = some { cls := .type "tuple", dict := dd, data := .seq items n, slots := sl } ∧ s.heap.get? b = some { cls := .type "tuple", dict := dd2, data := .seq items2 n2, slots := sl2 } ∧
        Prs (items.toList.zip items2.toList) zs ∧
        R (.ok (.ret (.bool (cmpL .Gt items.size items2.size zs)))) s) :=
  .of_wp fun prog w A R s h => by
    obtain ⟨hp, g, d, tk, os⟩ := s; obtain ⟨hl, hb, he, h⟩ := h
    have f2 := AutoSeq1.sub_tuple_tuple
    wp_walk using wpAny_loadPart' hl, wpAny_loadPart' hb, wpAny_forIn_list _ (fun rest b s' => b.1 = none ∧ s' = ⟨hp, g, d, tk, os⟩ ∧ ∃ zr, Prs rest zr ∧
      R (.ok (.ret (.bool (cmpL .Gt items.size items2.size zr)))) ⟨hp, g, d, tk, os⟩) _
    case turn =>
      rintro ⟨y, x⟩ rest b s' ⟨hb', rfl, zr, hz, hR⟩
      cases hz with
      | same hrest =>
        rename_i z1 t u
        refine wpAny_bind (EqAt.int_int _ _ _ _ prog w _ _ ?_)
        rw [beq_self_eq_true]
        wp_walk
        exact ⟨rfl, rfl, zr, hrest, hR⟩
      | diff hne =>
        refine wpAny_bind (EqAt.int_int _ _ _ _ prog w _ _ ?_)
        rw [beq_eq_false_iff_ne.mpr hne]
        exact wpAny_bind (wpAny_rule (wpAny_bind (rc_ints (by simp [OrdOp]) (wpAny_bind (wpAny_pure (wpAny_pure (wpAny_pure ⟨_, rfl, hR⟩)))))))
    case fin =>
      rintro ⟨b1, b2⟩ s' ⟨hb', rfl, zr, hz, hR⟩
      simp only at hb'
      subst hb'
      cases hz
      exact wpAny_pure ⟨_, rfl, hR⟩
    case h =>
      exact ⟨rfl, rfl, zs, he, h⟩
theorem rc_tup_lt {prog : Program} {w : World} {A : Around} {E : Value → Shared → Prop} {s : Shared} {l b : Addr} {items items2 : Array Value} {zs : Option (Int × Int)} {Q : Value → Shared → Prop} (hl : IsTup s.heap l items) (hb : IsTup s.heap b items2) (hu : A.units < cLine)
    (hz : Prs (items.toList.zip items2.toList) zs) (h : Q (.bool (cmpL .Lt items.size items2.size zs)) s) : wpAny (model prog w) A (compareOp .Lt (.ref l) (.ref b)) Q E s := by
  obtain ⟨⟨cls, dd, data, sl⟩, ho, hc, n, hd⟩ := id hl
  obtain ⟨⟨cls2, dd2, data2, sl2⟩, ho2, hc2, n2, hd2⟩ := id hb
  simp only at hc hd hc2 hd2
  subst hc hd hc2 hd2
  show wpAny (model prog w) A (richCompare .Lt (.ref l) (.ref b)) Q E s
  exact richCompare_meets_room (op := .Lt) ⟨_, ho, rfl⟩ ⟨_, ho2, rfl⟩ PySem.F.slot_tuple_lt PySem.F.entry_tuple_lt (PySem.F.args_tuple_lt_2 _ _) (tuple_ltAt l b items items2 n n2 dd dd2 sl sl2 zs)
    ⟨ho, ho2, hz, show Value.bool _ ≠ Value.notImplemented ∧ Q (.bool _) s from ⟨(fun x => nomatch x), h⟩⟩ hu
theorem rc_tup_gt {prog : Program} {w : World} {A : Around} {E : Value → Shared → Prop} {s : Shared} {l b : Addr} {items items2 : Array Value} {zs : Option (Int × Int)} {Q : Value → Shared → Prop} (hl : IsTup s.heap l items) (hb : IsTup s.heap b items2) (hu : A.units < cLine)
    (hz : Prs (items.toList.zip items2.toList) zs) (h : Q (.bool (cmpL .Gt items.size items2.size zs)) s) : wpAny (model prog w) A (compareOp .Gt (.ref l) (.ref b)) Q E s := by
  obtain ⟨⟨cls, dd, data, sl⟩, ho, hc, n, hd⟩ := id hl
  obtain ⟨⟨cls2, dd2, data2, sl2⟩, ho2, hc2, n2, hd2⟩ := id hb
  simp only at hc hd hc2 hd2
  subst hc hd hc2 hd2
  show wpAny (model prog w) A (richCompare .Gt (.ref l) (.ref b)) Q E s
  exact richCompare_meets_room (op := .Gt) ⟨_, ho, rfl⟩ ⟨_, ho2, rfl⟩ PySem.F.slot_tuple_gt PySem.F.entry_tuple_gt (PySem.F.args_tuple_gt_2 _ _) (tuple_gtAt l b items items2 n n2 dd dd2 sl sl2 zs)
    ⟨ho, ho2, hz, show Value.bool _ ≠ Value.notImplemented ∧ Q (.bool _) s from ⟨(fun x => nomatch x), h⟩⟩ hu
/-- two pairs of ints -/
theorem pair_prs {p q : Int × Int} {is js : Array Value} {t u t' u' : Tok} (e1 : is.toList = [.int p.1 t, .int p.2 u]) (e2 : js.toList = [.int q.1 t', .int q.2 u']) : ∃ z, Prs (is.toList.zip js.toList) z ∧ cmpL .Lt is.size js.size z = ltM p q ∧ cmpL .Gt is.size js.size z = ltM q p := by
  rw [← Array.length_toList, ← Array.length_toList, e1, e2]
  unfold ltM
  by_cases h : p.1 = q.1
  · rw [if_pos h, if_pos h.symm, h]
    by_cases g : p.2 = q.2
    · rw [g]; exact ⟨none, .same (.same .nil), (decide_eq_false (Int.lt_irrefl _)).symm, (decide_eq_false (Int.lt_irrefl _)).symm⟩
    · exact ⟨some (p.2, q.2), .same (.diff g), rfl, rfl⟩
  · rw [if_neg h, if_neg (Ne.symm h)]; exact ⟨some (p.1, q.1), .diff h, rfl, rfl⟩
theorem rel_pair {H : Hid} {h : Heap} {p : Int × Int} {v : Value} (r : Rel H h (.tup [.int p.1, .int p.2]) v) : ∃ (a : Addr) (is : Array Value) (t u : Tok), v = .ref a ∧ IsTup h a is ∧ is.toList = [.int p.1 t, .int p.2 u] := by
  obtain ⟨a, is, rfl, t1, _, _, _, e1, ⟨t, rfl⟩, _, _, rfl, ⟨u, rfl⟩, rfl⟩ := r
  exact ⟨a, is, t, u, rfl, t1, e1⟩
end Mine
set_option maxRecDepth 100000
namespace Mine
open PySem PyProof.Rows PySem.SeqAt

variable {G : PG}
section
variable {B : Heap} {H : Hid} {A : Around} {env : Env} {n : Nat} {ρ : Loc} {σ : Sto} {s : Shared} {Φ : PE} {Ψ : PX}

theorem readsAll_of {k : Nat} (f : ∀ {a : AV} {d : PyData} {v : Value}, datum σ k a = some d → Rel H s.heap a v → ∃ as, Reads s.heap v d as) {as : List AV} : ∀ {ds : List PyData} {vs : List Value}, mapO (datum σ k) as = some ds → RelL H s.heap as vs → ∃ bs, ReadsAll s.heap vs ds bs := by
  induction as with
  | nil => exact fun e r => by cases e; cases r; exact ⟨_, .nil⟩
  | cons a as ih =>
    intro ds vs e r
    obtain ⟨v, rest, rfl, r1, r2⟩ := r
    obtain ⟨b, bs, h1, h2, rfl⟩ := mapO_cons e
    obtain ⟨x, q1⟩ := f h1 r1
    obtain ⟨y, q2⟩ := ih h2 r2
    exact ⟨_, .cons q1 q2⟩
theorem reads_of (S : St G B H env ρ σ s) (k : Nat) : ∀ {a : AV} {d : PyData} {v : Value}, datum σ k a = some d → Rel H s.heap a v → ∃ as, Reads s.heap v d as := by
  induction k with
  | zero => exact fun e => by cases e
  | succ k ih =>
    intro a d v e r
    cases a with
    | none => cases e; cases r; exact ⟨_, .none⟩
    | bool b => cases e; cases r; exact ⟨_, .bool b⟩
    | int i => cases e; obtain ⟨t, rfl⟩ := r; exact ⟨_, .int i t⟩
    | str x => cases e; obtain ⟨t, rfl⟩ := r; exact ⟨_, .str x t⟩
    | tup vs =>
      obtain ⟨ds, h1, rfl⟩ := Option.map_eq_some_iff.mp (show (mapO (datum σ k) vs).map PyData.tuple = some d from e)
      obtain ⟨a, items, rfl, ⟨o, ho, hc, m, hd⟩, _, rl⟩ := r
      obtain ⟨as, q⟩ := readsAll_of ih h1 rl
      exact ⟨_, .tuple ho hc hd q⟩
    | ref a =>
      have e : (match lstOf σ a with | some vs => (mapO (datum σ k) vs).map PyData.list | none => none) = some d := e
      cases hq : lstOf σ a with
      | none => rw [hq] at e; cases e
      | some vs =>
        rw [hq] at e
        obtain ⟨ds, h1, rfl⟩ := Option.map_eq_some_iff.mp e
        cases r
        obtain ⟨items, m, ho, rl⟩ := S.listAt hq
        obtain ⟨as, q⟩ := readsAll_of ih h1 rl
        exact ⟨_, .list ho rfl rfl q⟩
    | val _ => cases e
    | exn _ _ => cases e

theorem units_of (C : Cx G B H A env n) : A.units + 64 < cLine := by have := C.A.units; unfold cLine; omega
theorem units_lt (C : Cx G B H A env n) : A.units < cLine := by have := C.A.units; unfold cLine; omega

abbrev GoB (G : PG) (B : Heap) (H : Hid) (A : Around) (env : Env) (ρ : Loc) (s : Shared) (t : Sem Value) (Φ : Bool → Sto → Prop) (Ψ : PX) : Prop :=
  wpAny G.M A t (fun v s' => ∃ b σ', v = .bool b ∧ St G B H env ρ σ' s' ∧ Step H s s' ∧ Φ b σ') (QX G B H env Ψ s) s

theorem ref_ne_sys {a : Addr} {c : Cell} (S : St G B H env ρ σ s) (e : σ a = some c) (hw : c.own = true := by rfl) : (a == sysModules) = false := by
  have := S.low a c e hw
  have h : a ≠ sysModules := fun q => by
    rw [q] at this
    exact absurd this (by decide)
  simpa using h

theorem eq_ok {a b : AV} {v u : Value} {Φ : Bool → Sto → Prop} (C : Cx G B H A env n) (S : St G B H env ρ σ s) (ra : Rel H s.heap a v) (rb : Rel H s.heap b u) (p : eqV σ a b fun q => Φ q σ) : GoB G B H A env ρ s (compareOp .Eq v u) Φ Ψ := by
  have gen : eqD σ a b (fun q => Φ q σ) → GoB G B H A env ρ s (compareOp .Eq v u) Φ Ψ := fun p => by
    obtain ⟨da, db, h1, h2, h3, h4, p⟩ := p
    obtain ⟨as, q1⟩ := reads_of S 6 h1 ra
    obtain ⟨bs, q2⟩ := reads_of S 6 h2 rb
    exact compareEq_shaped q1 q2 h3 h4 (units_of C) ⟨_, σ, rfl, S, .refl _ _, p⟩
  cases a with
  | int i => cases b with
    | int j =>
      simp only [Rel] at ra rb; obtain ⟨t, rfl⟩ := ra; obtain ⟨t', rfl⟩ := rb
      exact PyProof.Rows.eq_int ⟨_, σ, rfl, S, .refl _ _, p⟩
    | _ => exact gen p
  | str x => cases b with
    | str y =>
      simp only [Rel] at ra rb; obtain ⟨t, rfl⟩ := ra; obtain ⟨t', rfl⟩ := rb
      exact PyProof.Rows.eq_str ⟨_, σ, rfl, S, .refl _ _, p⟩
    | _ => exact gen p
  | bool x => cases b with
    | bool y =>
      simp only [Rel] at ra rb; subst ra; subst rb
      exact PyProof.Rows.eq_bool ⟨_, σ, rfl, S, .refl _ _, p⟩
    | _ => exact gen p
  | none => cases b with
    | none =>
      simp only [Rel] at ra rb; subst ra; subst rb
      exact PySem.EqNone.eq_none_none ⟨_, σ, rfl, S, .refl _ _, p⟩
    | _ => exact gen p
  | ref x =>
    rcases (show eqD σ (.ref x) b (fun q => Φ (q) σ) ∨ ∃ y kvs, b = .ref y ∧ σ x = some (.dictI kvs) ∧ σ y = some (.dictI []) ∧ Φ (kvs.isEmpty) σ from p) with p | ⟨y, kvs, rfl, h1, h2, p⟩
    · exact gen p
    · simp only [Rel] at ra rb; subst ra; subst rb
      obtain ⟨vs, D, e, _⟩ := (S.store x _ h1).1
      obtain ⟨vs', D', e', _⟩ := (S.store y _ h2).1
      obtain rfl : vs' = [] := by simpa using e'
      have hl : vs.length = kvs.length := by have := congrArg List.length e; simpa using this
      refine W.keq_eq (knd := intKind G.prog G.w) (r := true) (ref_ne_sys S h1) (ref_ne_sys S h2) D D' (units_lt C) (fun z => ?_) ⟨_, σ, rfl, S, .refl _ _, ?_⟩
      · obtain rfl : vs = [] := List.eq_nil_of_length_eq_zero z
        exact .nil
      · rw [show (vs.length == ([] : List (Int × Value)).length && true) = kvs.isEmpty by
          rw [Bool.and_true, hl]; cases kvs <;> rfl]
        exact p
  | _ => exact gen p

theorem ne_ok {a b : AV} {v u : Value} {Φ : Bool → Sto → Prop} (C : Cx G B H A env n) (S : St G B H env ρ σ s) (ra : Rel H s.heap a v) (rb : Rel H s.heap b u) (p : eqV σ a b fun q => Φ (!q) σ) : GoB G B H A env ρ s (compareOp .NotEq v u) Φ Ψ := by
  have gen : eqD σ a b (fun q => Φ (!q) σ) → GoB G B H A env ρ s (compareOp .NotEq v u) Φ Ψ := fun p => by
    obtain ⟨da, db, h1, h2, h3, h4, p⟩ := p
    obtain ⟨as, q1⟩ := reads_of S 6 h1 ra
    obtain ⟨bs, q2⟩ := reads_of S 6 h2 rb
    exact compareNe_shaped q1 q2 h3 h4 (units_of C) ⟨_, σ, rfl, S, .refl _ _, p⟩
  cases a with
  | int i => cases b with
    | int j =>
      simp only [Rel] at ra rb; obtain ⟨t, rfl⟩ := ra; obtain ⟨t', rfl⟩ := rb
      exact PyProof.Rows.ne_int ⟨_, σ, rfl, S, .refl _ _, p⟩
    | _ => exact gen p
  | str x => cases b with
    | str y =>
      simp only [Rel] at ra rb; obtain ⟨t, rfl⟩ := ra; obtain ⟨t', rfl⟩ := rb
      exact PyProof.Rows.ne_str ⟨_, σ, rfl, S, .refl _ _, p⟩
    | _ => exact gen p
  | bool x => cases b with
    | bool y =>
      simp only [Rel] at ra rb; subst ra; subst rb
      exact PyProof.Rows.ne_bool ⟨_, σ, rfl, S, .refl _ _, p⟩
    | _ => exact gen p
  | none => cases b with
    | none =>
      simp only [Rel] at ra rb; subst ra; subst rb
      exact PySem.EqNone.ne_none_none ⟨_, σ, rfl, S, .refl _ _, p⟩
    | _ => exact gen p
  | ref x =>
    rcases (show eqD σ (.ref x) b (fun q => Φ (!q) σ) ∨ ∃ y kvs, b = .ref y ∧ σ x = some (.dictI kvs) ∧ σ y = some (.dictI []) ∧ Φ (!kvs.isEmpty) σ from p) with p | ⟨y, kvs, rfl, h1, h2, p⟩
    · exact gen p
    · simp only [Rel] at ra rb; subst ra; subst rb
      obtain ⟨vs, D, e, _⟩ := (S.store x _ h1).1
      obtain ⟨vs', D', e', _⟩ := (S.store y _ h2).1
      obtain rfl : vs' = [] := by simpa using e'
      have hl : vs.length = kvs.length := by have := congrArg List.length e; simpa using this
      refine W.keq_ne (knd := intKind G.prog G.w) (r := true) (ref_ne_sys S h1) (ref_ne_sys S h2) D D' (units_lt C) (fun z => ?_) ⟨_, σ, rfl, S, .refl _ _, ?_⟩
      · obtain rfl : vs = [] := List.eq_nil_of_length_eq_zero z
        exact .nil
      · rw [show (vs.length == ([] : List (Int × Value)).length && true) = kvs.isEmpty by
          rw [Bool.and_true, hl]; cases kvs <;> rfl]
        exact p
  | _ => exact gen p

theorem dictOf_lookup {K : Type} [DecidableEq K] : ∀ {vs : List (K × Value)} {kvs : List (K × AV)} {h : Heap} (k : K), vs.map (·.1) = kvs.map (·.1) → RelL H h (kvs.map (·.2)) (vs.map (·.2)) →
    (match kvs.lookup k with | some a => ∃ v, valueAt vs k = some v ∧ Rel H h a v | none => valueAt vs k = none)
  | [], [], h, k, _, _ => by simp [valueAt]
  | [], _ :: _, _, _, e, _ => by simp at e
  | _ :: _, [], _, _, e, _ => by simp at e
  | (j, v) :: vs, (j', a) :: kvs, h, k, e, r => by
    simp only [List.map_cons, List.cons.injEq] at e
    obtain ⟨rfl, e⟩ := e
    simp only [List.map_cons, RelL] at r
    obtain ⟨v', rest, e', r1, r2⟩ := r
    cases e'
    rw [List.lookup_cons]
    by_cases q : k = j
    · subst q
      simp only [beq_self_eq_true]
      exact ⟨v, by simp [valueAt], r1⟩
    · have : (k == j) = false := by simpa using q
      rw [this]
      have ih := dictOf_lookup k e r2
      have hv : valueAt ((j, v) :: vs) k = valueAt vs k := by
        have : ¬ j = k := fun z => q z.symm
        simp [valueAt, List.find?_cons, this]
      rw [hv]; exact ih

theorem mapOf_of {K : Type} [DecidableEq K] {knd : KeyKind G.prog G.w K} {h : Heap} {d : Addr} {vs : List (K × Value)} (D : h.DictOf knd d vs) : h.MapOf knd d (valueAt vs) := by
  obtain ⟨o, es, ep, h1, h2, h3, h4, h5, h6⟩ := D
  refine ⟨o, es, ep, h1, h2, h3, h4, fun k => ?_⟩
  rw [← h5.find k]
  unfold findBy
  rw [← Array.find?_toList]

theorem any_lookup {K : Type} [DecidableEq K] (k : K) : ∀ (kvs : List (K × AV)), (kvs.any fun kv => kv.1 == k) = (kvs.lookup k).isSome
  | [] => rfl
  | (j, a) :: r => by
    rw [List.any_cons, List.lookup_cons, any_lookup k r]
    by_cases q : k = j
    · subst q; simp
    · have h1 : (k == j) = false := by simpa using q
      have h2 : (j == k) = false := by simpa using fun z => q (Eq.symm z)
      simp [h1, h2]

theorem in_ok {a b : AV} {v u : Value} {Φ : Bool → Sto → Prop} (C : Cx G B H A env n) (S : St G B H env ρ σ s) (ra : Rel H s.heap a v) (rb : Rel H s.heap b u) (p : inV G σ a b fun q => Φ q σ) :
    wpAny G.M A (contains u v) (fun r s' => ∃ σ', St G B H env ρ σ' s' ∧ Step H s s' ∧ Φ r σ') (QX G B H env Ψ s) s := by
  have back : ∀ {r : Bool} {s' : Shared}, wpAny G.M A (compareOp .In v u) (fun x s' => ∃ b σ', x = .bool b ∧ St G B H env ρ σ' s' ∧ Step H s s' ∧ Φ b σ') (QX G B H env Ψ s) s →
      wpAny G.M A (contains u v) (fun r s' => ∃ σ', St G B H env ρ σ' s' ∧ Step H s s' ∧ Φ r σ') (QX G B H env Ψ s) s := by
    intro _ _ h Γ p' hΓ
    have := h Γ p' hΓ
    rw [show compareOp .In v u = (do return .bool (← contains u v)) from rfl, Sem.wp_bind'] at this
    refine Sem.wp_mono _ Γ _ (fun r p s' q => ?_) (fun _ _ _ q => q) _ _ this
    obtain ⟨b, σ', e, S', st, p⟩ := (q : ∃ b σ', Value.bool r = .bool b ∧ _)
    cases e
    exact ⟨σ', S', st, p⟩
  refine back (r := true) (s' := s) ?_
  unfold inV at p
  split at p
  · rename_i l
    simp only [Rel] at rb; subst rb
    split at p
    · rename_i vs hq
      exact p.elim
    split at p
    · rename_i kvs hq
      obtain ⟨i, rfl, p⟩ := p
      simp only [Rel] at ra; obtain ⟨t, rfl⟩ := ra
      obtain ⟨vs, D, e, r⟩ := (S.store l _ hq).1
      refine wpAny_in_of (knd := intKind G.prog G.w) (intKind_is G.prog G.w i t) (ref_ne_sys S hq) (mapOf_of D) ⟨_, σ, rfl, S.tok _, Step.tok _ _ _, ?_⟩
      rw [any_lookup] at p
      have := dictOf_lookup i e r
      cases z : kvs.lookup i with
      | none => rw [z] at this p; rw [this]; exact p
      | some a => rw [z] at this p; obtain ⟨w, hw, _⟩ := this; rw [hw]; exact p
    · exact p.elim
  · exact p.elim

theorem cmp_ok {op : CmpOp} {a b : AV} {v u : Value} {Φ : Bool → Sto → Prop} (C : Cx G B H A env n) (S : St G B H env ρ σ s) (ra : Rel H s.heap a v) (rb : Rel H s.heap b u) (p : cmpV G op a b σ fun q => Φ q σ) : GoB G B H A env ρ s (compareOp op v u) Φ Ψ := by
  have isn : a.novalue = true → (v == Value.none) = a.isNone := fun hv => by
    cases a <;> simp only [Rel] at ra
    · subst ra; rfl
    · subst ra; rfl
    · obtain ⟨t, rfl⟩ := ra; rfl
    · obtain ⟨t, rfl⟩ := ra; rfl
    · obtain ⟨x, y, rfl, _⟩ := ra; rfl
    · subst ra; rfl
    · cases hv
    · obtain ⟨rfl, _⟩ := ra; rfl
  cases op with
  | Eq => exact eq_ok C S ra rb p
  | NotEq => exact ne_ok C S ra rb p
  | Lt =>
    cases a with
    | int i => cases b with
      | int j =>
        simp only [Rel] at ra rb; obtain ⟨t, rfl⟩ := ra; obtain ⟨t', rfl⟩ := rb
        exact PyProof.Rows.lt_int ⟨_, σ, rfl, S, .refl _ _, p⟩
      | _ => exact p.elim
    | tup xs => cases b with
      | tup ys =>
        obtain ⟨x, y, rfl, rfl, p⟩ := p
        obtain ⟨l, i1, _, _, rfl, t1, e1⟩ := rel_pair ra
        obtain ⟨l', i2, _, _, rfl, t2, e2⟩ := rel_pair rb
        obtain ⟨z, h1, h2, _⟩ := pair_prs e1 e2
        exact rc_tup_lt t1 t2 (units_lt C) h1 ⟨_, σ, rfl, S, .refl _ _, (by rw [h2]; exact p)⟩
      | _ => exact p.elim
    | _ => exact p.elim
  | LtE =>
    replace p := int2_of p
    obtain ⟨i, j, rfl, rfl, p⟩ := p
    simp only [Rel] at ra rb; obtain ⟨t, rfl⟩ := ra; obtain ⟨t', rfl⟩ := rb
    exact PyProof.Rows.le_int ⟨_, σ, rfl, S, .refl _ _, p⟩
  | Gt =>
    cases a with
    | int i => cases b with
      | int j =>
        simp only [Rel] at ra rb; obtain ⟨t, rfl⟩ := ra; obtain ⟨t', rfl⟩ := rb
        exact PyProof.Rows.gt_int ⟨_, σ, rfl, S, .refl _ _, p⟩
      | _ => exact p.elim
    | _ => exact p.elim
  | GtE =>
    cases a with
    | int i => cases b with
      | int j =>
        simp only [Rel] at ra rb; obtain ⟨t, rfl⟩ := ra; obtain ⟨t', rfl⟩ := rb
        exact PyProof.Rows.ge_int ⟨_, σ, rfl, S, .refl _ _, p⟩
      | _ => exact p.elim
    | _ => exact p.elim
  | Is =>
    cases b with
    | none =>
      simp only [Rel] at rb; subst rb
      refine is_none ⟨_, σ, rfl, S, .refl _ _, ?_⟩
      rw [isn p.1]; exact p.2
    | bool y =>
      simp only [Rel] at rb; subst rb
      cases a with
      | bool x =>
        simp only [Rel] at ra; subst ra
        exact PyProof.Rows.is_bool ⟨_, σ, rfl, S, .refl _ _, p⟩
      | _ => exact p.elim
    | _ => exact p.elim
  | IsNot =>
    cases b with
    | none =>
      simp only [Rel] at rb; subst rb
      refine isNot_none ⟨_, σ, rfl, S, .refl _ _, ?_⟩
      rw [isn p.1]; exact p.2
    | bool y =>
      simp only [Rel] at rb; subst rb
      cases a with
      | bool x =>
        simp only [Rel] at ra; subst ra
        exact PyProof.Rows.isnot_bool ⟨_, σ, rfl, S, .refl _ _, p⟩
      | _ => exact p.elim
    | _ => exact p.elim
  | In =>
    show wpAny _ _ (contains u v >>= fun r => pure (Value.bool r)) _ _ _
    exact wpAny_bind (wpAny_mono (in_ok C S ra rb p) (fun r s' ⟨σ', S', st, q⟩ => wpAny_pure ⟨r, σ', rfl, S', st, q⟩) fun _ _ q => q)
  | NotIn =>
    show wpAny _ _ (contains u v >>= fun r => pure (Value.bool (!r))) _ _ _
    exact wpAny_bind (wpAny_mono (in_ok (Φ := fun q σ => Φ (!q) σ) C S ra rb p) (fun r s' ⟨σ', S', st, q⟩ => wpAny_pure ⟨!r, σ', rfl, S', st, q⟩) fun _ _ q => q)
end
end Mine
set_option maxRecDepth 100000
namespace Mine
open PySem PyProof.Rows PySem.SeqAt

variable {G : PG}
section
variable {B : Heap} {H : Hid} {A : Around} {env : Env} {n : Nat} {ρ : Loc} {σ : Sto} {s : Shared} {Φ : PE} {Ψ : PX}

theorem truth_ok {a : AV} {v : Value} {b : Bool} {Q : Bool → Shared → Prop} {E : Value → Shared → Prop} (ra : Rel H s.heap a v) (e : truthV σ a = some b) (h : Q b s) : wpAny G.M A (truthy v) Q E s := by
  cases a <;> simp only [truthV] at e <;> (try cases e)
  · simp only [Rel] at ra; subst ra; exact wpAny_pure h
  · simp only [Rel] at ra; subst ra; exact wpAny_truthy_bool h
  · simp only [Rel] at ra; obtain ⟨t, rfl⟩ := ra; exact PyProof.Rows.truthy_int h

/-- no cut -/
noncomputable def notSlice : Expr → Bool
  | .Slice .. => false
  | _ => true
theorem subscripted_item {slice : Expr} (h : notSlice slice = true) (o i : Value) : subscripted slice false o i = operate [o, i] (getItem o i) := by
  cases slice <;> first | rfl | cases h

theorem idx_get {vs : List AV} {ws : List Value} {k : Int} {a : AV} {h : Heap} (r : RelL H h vs ws) (e : idx vs k = some a) : ∃ j v, seqIndex? k ws.length = some j ∧ ws[j]? = some v ∧ Rel H h a v := by
  unfold idx at e
  obtain ⟨j, h1, h2⟩ := Option.bind_eq_some_iff.mp e
  obtain ⟨v, h3, h4⟩ := r.get j h2
  exact ⟨j, v, by rw [r.length]; exact h1, h3, h4⟩

theorem getItem_listI {l : Addr} {items : Array Value} {k : Int} {t : Tok} {x : Value} {j : Nat} {Q : Value → Shared → Prop} {E : Value → Shared → Prop} {prog : Program} {w : World} (hl : s.heap.IsList l items) (h0 : -(2 ^ 62) ≤ k) (h1 : k < 2 ^ 62) (hj : seqIndex? k items.size = some j) (hx : items[j]? = some x) (h : Q x s) :
    wpAny (model prog w) A (getItem (.ref l) (.int k t)) Q E s := by
  by_cases q : 0 ≤ k
  · have : j = k.toNat := by
      simp [seqIndex?, show ¬ k < 0 from by omega] at hj
      omega
    subst this
    exact wpAny_getItem_list hl q (by first | decide | (with_reducible first | exact lv hn | exact lv1 hn | exact lv2 hn | exact Int.natCast_nonneg _) | omega) hx h
  · have hk : k < 0 := by omega
    have hb : -(items.size : Int) ≤ k := by
      simp [seqIndex?, hk] at hj
      omega
    rw [seqIndex_neg hk hb] at hj
    cases hj
    exact wpAny_getItem_list_neg hl hk hb (by first | decide | (with_reducible first | exact lv hn | exact lv1 hn | exact lv2 hn | exact Int.natCast_nonneg _) | omega) hx h

theorem sub_ok {value slice : Expr} {a b : AV} {v u : Value} (hsl : notSlice slice = true) (S : St G B H env ρ σ s) (ra : Rel H s.heap a v) (rb : Rel H s.heap b u) (p : subV a b σ Φ) : Go G B H A env ρ s (subscriptTail value slice v u) Φ Ψ := by
  cases a with
  | tup vs => cases b with
    | int k =>
      simp only [Rel] at ra rb
      obtain ⟨l, items, rfl, ht, _, rl⟩ := ra
      obtain ⟨t, rfl⟩ := rb
      obtain ⟨x, h0, h1, e, p⟩ := p
      obtain ⟨j, w, e1, e2, rw⟩ := idx_get rl e
      exact tail_any ht.typeIs slot_tuple_getitem.lookup (PyProof.Rows.getItem_tuple ht (by first | decide | (with_reducible first | exact lv hn | exact lv1 hn | exact lv2 hn | exact Int.natCast_nonneg _) | omega) (by first | decide | (with_reducible first | exact lv hn | exact lv1 hn | exact lv2 hn | exact Int.natCast_nonneg _) | omega) (by simpa using e1) (by simpa using e2) (qe S (.refl _ _) rw p)) (subscripted_item hsl _ _)
    | _ => exact p.elim
  | ref l => cases b with
    | int k =>
      simp only [Rel] at ra rb; subst ra; obtain ⟨t, rfl⟩ := rb
      unfold subV at p
      dsimp only at p
      split at p
      · rename_i hq
        obtain ⟨items, m, ho, rl⟩ := S.listAt hq
        obtain ⟨x, h0, h1, e, p⟩ := p
        obtain ⟨j, w, e1, e2, rw⟩ := idx_get rl e
        have hl := isList_of ho
        exact tail_any hl.typeIs slot_list_getitem.lookup (getItem_listI hl h0 h1 (by simpa using e1) (by simpa using e2) (qe S (.refl _ _) rw p)) (subscripted_item hsl _ _)
      split at p
      · rename_i kvs hq
        obtain ⟨x, e, p⟩ := p
        obtain ⟨vs, D, e', r⟩ := (S.store _ _ hq).1
        have := dictOf_lookup k e' r
        rw [e] at this
        obtain ⟨w, hw, rw⟩ := this
        have M := mapOf_of D
        exact tail_any M.typeIs slot_dict_getitem.lookup (wpAny_getItem_of (knd := intKind G.prog G.w) (intKind_is G.prog G.w _ t) M hw (qe (S.tok _) (Step.tok _ _ _) rw p)) (subscripted_item hsl _ _)
      · exact p.elim
    | str k =>
      simp only [Rel] at ra rb; subst ra; obtain ⟨t, rfl⟩ := rb
      unfold subV at p
      dsimp only at p
      split at p
      · rename_i kvs hq
        obtain ⟨x, e, p⟩ := p
        obtain ⟨vs, D, e', r⟩ := (S.store l _ hq).1
        have := dictOf_lookup k e' r
        rw [e] at this
        obtain ⟨w, hw, rw⟩ := this
        have M := mapOf_of D
        exact tail_any M.typeIs slot_dict_getitem.lookup (wpAny_getItem_of (knd := strKind G.prog G.w) (strKind_is G.prog G.w k t) M hw (qe (S.tok _) (Step.tok _ _ _) rw p)) (subscripted_item hsl _ _)
      · exact p.elim
    | _ => exact p.elim
  | str x => cases b with
    | int k =>
      simp only [Rel] at ra rb; obtain ⟨t, rfl⟩ := ra; obtain ⟨t', rfl⟩ := rb
      obtain ⟨h0, h1, h2, p⟩ := p
      obtain ⟨T, id, hl, hT, hg⟩ := SB.item (prog := G.prog) (w := G.w) (A := A) (E := QX G B H env Ψ s) (s := s) (t := t) (u := t') (Q := QE G B H env ρ Φ s) (show fitsSsize _ = true by unfold fitsSsize; simp; omega) (charAt_isSome (by first | decide | (with_reducible first | exact lv hn | exact lv1 hn | exact lv2 hn | exact Int.natCast_nonneg _) | omega) h1) (qe (S.tok _) (Step.tok _ _ _) (by simp [Rel]) p)
      exact tail_any hT hl hg (subscripted_item hsl _ _)
    | _ => exact p.elim
  | _ => exact p.elim

/-! ### cuts -/
end
end Mine
set_option maxRecDepth 100000
namespace Mine
open PySem PyProof.Rows PySem.SeqAt

variable {G : PG}
section
variable {B : Heap} {H : Hid} {A : Around} {env : Env} {n : Nat} {ρ : Loc} {σ : Sto} {s : Shared} {Φ : PE} {Ψ : PX}

theorem inK_at (C : Cx G B H A env n) (S : St G B H env ρ σ s) : W.Frag.In G.K s.heap := fun a o e => S.keep _ _ (G.inK C.T a o e)

/-! ### attributes of own instances -/
theorem ent_look {h : Heap} (x : Str) : ∀ {es : List DictEntry} {m : List (Str × AV)}, EntRel H h es m →
    (match m.lookup x with
      | some a => ∃ v, W.getL x es = some (some v) ∧ Rel H h a v
      | none => W.getL x es = some none) := by
  intro es m r
  have key : ∀ {es : List DictEntry} {m : List (Str × AV)}, EntRel H h es m →
      (es.any (·.refKey) = false) ∧ (match m.lookup x with | some a => ∃ e, es.find? (·.key.isStr x) = some e ∧ Rel H h a e.val | none => es.find? (·.key.isStr x) = none) := by
    intro es
    induction es with
    | nil => intro m r; cases m with | nil => simp | cons _ _ => exact r.elim
    | cons e es ih =>
      intro m r
      cases m with
      | nil => exact r.elim
      | cons kv m =>
        obtain ⟨⟨t, hk⟩, hv, r⟩ := r
        obtain ⟨i1, i2⟩ := ih r
        obtain ⟨y, a⟩ := kv
        have hr : e.refKey = false := by unfold DictEntry.refKey; rw [hk]
        refine ⟨by rw [List.any_cons, hr, i1]; rfl, ?_⟩
        rw [List.lookup_cons, List.find?_cons, hk]
        by_cases q : x = y
        · subst q
          have : (Value.str x t).isStr x = true := by simp [Value.isStr]
          simp only [beq_self_eq_true, this]
          exact ⟨e, rfl, hv⟩
        · have h1 : (x == y) = false := by simpa using q
          have h2 : (Value.str y t).isStr x = false := by simpa [Value.isStr] using fun z => q (Eq.symm z)
          simp only [h1, h2]
          exact i2
  obtain ⟨k1, k2⟩ := key r
  unfold W.getL
  cases q : m.lookup x with
  | none => rw [q] at k2; simp only at k2 ⊢; rw [k2, k1]; rfl
  | some a => rw [q] at k2; obtain ⟨e, he, hr⟩ := k2; exact ⟨e.val, by rw [he], hr⟩

theorem inst_at {x C d : Addr} {m : List (Str × AV)} (S : St G B H env ρ σ s) (hx : σ x = some (.inst C d)) (hd : σ d = some (.ns m)) :
    ∃ es k, W.InstAt s.heap x { cls := .ref C, dict := some d, data := .plain } C (some (W.dictOf es k)) ∧ s.heap.get? d = some (W.dictOf es k) ∧ EntRel H s.heap es m := by
  obtain ⟨es, k, ho, r⟩ := (S.store d _ hd).1
  have hx' : s.heap.get? x = some { cls := .ref C, dict := some d, data := .plain } := (S.store x _ hx).1
  refine ⟨es.toList, k, ⟨hx', rfl, rfl, ?_⟩, ?_, r⟩
  · show s.heap.get? d = some _
    rw [ho]
  · rw [ho]

theorem handed_rel {a : AV} {v : Value} {h : Heap} (r : Rel H h a v) (ha : a.novalue = true) : W.handedIn v = true := by
  cases a <;> simp only [Rel] at r <;> (try simp [AV.novalue] at ha)
  · subst r; rfl
  · subst r; rfl
  · obtain ⟨t, rfl⟩ := r; rfl
  · obtain ⟨t, rfl⟩ := r; rfl
  · obtain ⟨l, i, rfl, _⟩ := r; rfl
  · subst r; rfl
  · obtain ⟨rfl, _⟩ := r; rfl

theorem attr_ok {a : AV} {x : Str} {v : Value} {ex : Bool} (C : Cx G B H A env n) (S : St G B H env ρ σ s) (ra : Rel H s.heap a v) (p : attrV G a x σ Φ) : Go G B H A env ρ s (getAttr v x ex) Φ Ψ := by
  unfold attrV at p
  split at p
  · simp only [Rel] at ra; subst ra
    split at p
    · rename_i C' d hx
      split at p
      · rename_i m hd
        obtain ⟨b, hb, hnv, ⟨p1, p2, p3⟩, p⟩ := p
        obtain ⟨es, k, I, _, r⟩ := inst_at S hx hd
        have L := ent_look x r
        rw [hb] at L
        obtain ⟨w, hw, rw⟩ := L
        refine W.get_value (inK_at C S) I (W.plainGet_of p1).1 (W.findObj_own p2 p3 rfl hw) (handed_rel rw hnv) (qe (S.tok _) (Step.tok _ _ _) rw p)
      · exact p.elim
    · exact p.elim
  · exact p.elim

/-- an attribute's store into the instance's own dict -/
theorem set_ns {x C d : Addr} {name : Str} {v : Value} {es : List DictEntry} {k : Nat} {Q : Unit → Shared → Prop} {E : Value → Shared → Prop} (X : W.Frag.In G.K s.heap)
    (I : W.InstAt s.heap x { cls := .ref C, dict := some d, data := .plain } C (some (W.dictOf es k))) (D : s.heap.get? d = some (W.dictOf es k))
    (hs : W.findIn G.K (.ref C) "__setattr__" = some (some (.builtin "object.__setattr__"))) (hp : W.plainOver G.K C = true) (ht : W.takerIn G.K C name = some none) (hh : W.hasDictIn G.K C = true)
    (hl : (W.getL name es).isSome = true) (hz : (W.putL name (PyData.keyHash G.w.params name) (.str name (s.toks + 1)) v es).length ≤ 1001)
    (h : Q () { s with heap := s.heap.update d (Obj.putName name (PyData.keyHash G.w.params name) (.str name (s.toks + 1)) v), toks := s.toks + 1 + 1 }) :
    wpAny G.M A (setAttr (.ref x) name v) Q E s := by
  refine W.set_plain X I hs (W.osa_open X I hp ht fun b => ?_)
  obtain ⟨cd, hc, hd'⟩ := W.any_some hh
  have e : Obj.putName name (PyData.keyHash G.w.params name) (.str name (s.toks + 1)) v (W.dictOf es k) = W.dictOf (W.putL name (PyData.keyHash G.w.params name) (.str name (s.toks + 1)) v es) (W.putN name es k) := W.putName_dict ..
  have D' : (s.heap.update d (Obj.putName name (PyData.keyHash G.w.params name) (.str name (s.toks + 1)) v)).get? d = some (W.dictOf (W.putL name (PyData.keyHash G.w.params name) (.str name (s.toks + 1)) v es) (W.putN name es k)) := by
    rw [Heap.get?_update_self _ D (by rw [e]; rfl), e]
  obtain ⟨hx, hcl, hn, -⟩ := I
  refine wpAny_bind (wpAny_pure (wpAny_bind (wpAny_bind (wpAny_loadPart (s := { s with toks := s.toks + 1 }) hx (wpAny_bind ((W.looks_clsIn X hc).here (s := { s with toks := s.toks + 1 }) ?_))))))
  rw [hd']
  refine wpAny_pure (a := some d) (wpAny_bind (wpAny_pure (wpAny_bind ?_)))
  unfold nsSet
  refine wpAny_bind (wpAny_bind (wpAny_askSetting (wpAny_pure (wpAny_bind (wpAny_mkText (wpAny_bind (wpAny_loadPart (o := W.dictOf es k) D ?_)))))))
  have c : (!(es.toArray).any (·.key.isStr name) && (es.toArray).any (·.refKey)) = false := by
    rw [List.any_toArray, List.any_toArray]
    unfold W.getL at hl
    split at hl
    · rename_i en he
      rw [List.any_eq_true.mpr ⟨en, List.mem_of_find?_eq_some he, List.find?_some he⟩]; rfl
    · split at hl
      · cases hl
      · rename_i z; rw [Bool.not_eq_true] at z; rw [z, Bool.and_false]
  dsimp only
  rw [aRefKeyMayBeTheName_at, c]
  refine wpAny_updatePart (o := W.dictOf es k) D ?_
  refine wpAny_bind (wpAny_lookBehind (o := W.dictOf (W.putL name (PyData.keyHash G.w.params name) (.str name (s.toks + 1)) v es) (W.putN name es k)) D' (pastItsLine_dict (by rw [List.size_toArray, sizeLine_eq]; omega)) ?_)
  exact wpAny_pure h

theorem ent_put {h : Heap} {x : Str} {a : AV} {v : Value} {hsh : Int} {t : Tok} (rv : Rel H h a v) : ∀ {es : List DictEntry} {m : List (Str × AV)}, EntRel H h es m → EntRel H h (W.putL x hsh (.str x t) v es) (putA x a m)
  | [], [], _ => ⟨⟨t, rfl⟩, rv, trivial⟩
  | [], _ :: _, r => r.elim
  | _ :: _, [], r => r.elim
  | e :: es, (y, b) :: m, ⟨⟨t', hk⟩, hv, r⟩ => by
    unfold W.putL putA
    rw [hk]
    by_cases q : y = x
    · subst q
      have : (Value.str y t').isStr y = true := by simp [Value.isStr]
      rw [this, if_pos rfl, if_pos rfl]
      exact ⟨⟨t', by first | rfl | exact hk⟩, rv, r⟩
    · have : (Value.str y t').isStr x = false := by simpa [Value.isStr] using q
      rw [this, if_neg (by simp), if_neg q]
      exact ⟨⟨t', hk⟩, hv, ent_put rv r⟩

theorem sattr_ok {o a : AV} {x : Str} {u v : Value} {Q : Unit → Shared → Prop} {E : Value → Shared → Prop} {Φ : Sto → Prop} (C : Cx G B H A env n) (S : St G B H env ρ σ s) (ro : Rel H s.heap o u) (ra : Rel H s.heap a v) (p : sattrV G o x a σ Φ)
    (h : ∀ s' σ', St G B H env ρ σ' s' → Step H s s' → Φ σ' → Q () s') : wpAny G.M A (setAttr u x v) Q E s := by
  unfold sattrV at p
  split at p
  · simp only [Rel] at ro; subst ro
    split at p
    · rename_i r C' d hx
      split at p
      · rename_i m hd
        obtain ⟨p0, p1, p2, p3, p4, p⟩ := p
        obtain ⟨es, k, I, D, rel⟩ := inst_at S hx hd
        have L := ent_look x rel
        have hl : (W.getL x es).isSome = true := by
          cases q : m.lookup x with
          | none => rw [q] at L; rw [L]; rfl
          | some b => rw [q] at L; obtain ⟨w, hw, _⟩ := L; rw [hw]; rfl
        have rel' := ent_put (hsh := PyData.keyHash G.w.params x) (x := x) (t := s.toks + 1) ra rel
        refine set_ns (inK_at C S) I D p1 p2 p3 p4 hl ?_ ?_
        · rw [rel'.length]
          have : ∀ m : Loc, (putA x a m).length ≤ m.length + 1 := fun m => by
            induction m with
            | nil => simp [putA]
            | cons y m ih => obtain ⟨y, b⟩ := y; unfold putA; split <;> simp <;> omega
          have := this m
          omega
        · have e : Obj.putName x (PyData.keyHash G.w.params x) (.str x (s.toks + 1)) v (W.dictOf es k) = W.dictOf (W.putL x (PyData.keyHash G.w.params x) (.str x (s.toks + 1)) v es) (W.putN x es k) := W.putName_dict ..
          have D' : (s.heap.update d (Obj.putName x (PyData.keyHash G.w.params x) (.str x (s.toks + 1)) v)).get? d = some (W.dictOf (W.putL x (PyData.keyHash G.w.params x) (.str x (s.toks + 1)) v es) (W.putN x es k)) := by
            rw [Heap.get?_update_self _ D (by rw [e]; rfl), e]
          have kk : ∀ b o, b ≠ d → s.heap.get? b = some o → (s.heap.update d (Obj.putName x (PyData.keyHash G.w.params x) (.str x (s.toks + 1)) v)).get? b = some o := fun b o nb e => by
            rw [Heap.get?_update_other _ _ (Ne.symm nb)]; exact e
          have g : Grow H s.heap (s.heap.update d (Obj.putName x (PyData.keyHash G.w.params x) (.str x (s.toks + 1)) v)) := by
            obtain ⟨o', ho', ht, hr⟩ := (S.store d _ hd).1.there
            exact .of_keepBut kk ht fun o'' vs e => by rw [ho'] at e; cases e; exact hr vs
          obtain ⟨S', g'⟩ := S.put (s' := { s with heap := s.heap.update d (Obj.putName x (PyData.keyHash G.w.params x) (.str x (s.toks + 1)) v) }) (c := .ns (putA x a m)) hd rfl kk ⟨(W.putL x (PyData.keyHash G.w.params x) (.str x (s.toks + 1)) v es).toArray, W.putN x es k, D', by simpa using rel'.grow g⟩
          exact h _ _ (S'.tok _) ⟨g', rfl, rfl⟩ p
      · exact p.elim
    · exact p.elim
  · exact p.elim

/-! ### lists changed -/
theorem St.putList {l : Addr} {vs vs' : List AV} {items' : Array Value} {m' : Nat} {s' : Shared} (S : St G B H env ρ σ s) (hq : σ l = some (.list vs)) (kk : ∀ b o, b ≠ l → s.heap.get? b = some o → s'.heap.get? b = some o)
    (h' : s'.heap.get? l = some ⟨.type "list", none, .seq items' m', #[]⟩) (r : Grow H s.heap s'.heap → RelL H s'.heap vs' items'.toList) (hg : s'.gens = s.gens) (ho : s'.os = s.os) : St G B H env ρ (upd σ l (.list vs')) s' ∧ Step H s s' := by
  have g : Grow H s.heap s'.heap := by
    obtain ⟨o', ho', ht, hr⟩ := (S.store l _ hq).1.there
    exact .of_keepBut kk ht fun o'' vs e => by rw [ho'] at e; cases e; exact hr vs
  obtain ⟨S', _⟩ := S.put (c := .list vs') hq rfl kk ⟨items', m', h', r g⟩
  exact ⟨S', g, hg, ho⟩

theorem append_ok {l : Addr} {vs : List AV} {a : AV} {v : Value} {Q : Value → Shared → Prop} {E : Value → Shared → Prop} (S : St G B H env ρ σ s) (hq : σ l = some (.list vs)) (ra : Rel H s.heap a v) (hz : vs.length ≤ sizeLine)
    (h : ∀ s', St G B H env ρ (upd σ l (.list (vs ++ [a]))) s' → Step H s s' → Q .none s') : wpAny G.M A (call (.builtin "list.append") [.ref l, v]) Q E s := by
  obtain ⟨items, m, ho, rl⟩ := S.listAt (lstOf_list hq)
  refine wpAny_list_append_plain (items := items) ⟨m, ho⟩ (fun h' ⟨m', hp⟩ sb => ?_) (by rw [← Array.length_toList, rl.length]; exact hz)
  obtain ⟨S', st⟩ := S.putList (s' := { s with heap := h' }) (vs' := vs ++ [a]) hq (fun b o nb e => sb.extBut b o nb e) hp (fun g => by simpa using (rl.grow g).append (.one (ra.grow g))) rfl rfl
  exact h _ S' st

theorem pop_ok {l : Addr} {vs : List AV} {a : AV} {k : Int} {t : Tok} {Q : Value → Shared → Prop} {E : Value → Shared → Prop} (S : St G B H env ρ σ s) (hq : σ l = some (.list vs)) (h0 : 0 ≤ k) (h1 : k < vs.length) (h2 : k < 2 ^ 62) (e : vs[k.toNat]? = some a) (hz : vs.length ≤ sizeLine)
    (h : ∀ s' v, St G B H env ρ (upd σ l (.list (vs.eraseIdx k.toNat))) s' → Step H s s' → Rel H s'.heap a v → Q v s') : wpAny G.M A (call (.builtin "list.pop") [.ref l, .int k t]) Q E s := by
  obtain ⟨items, m, ho, rl⟩ := S.listAt (lstOf_list hq)
  obtain ⟨v, hv, rv⟩ := rl.get _ e
  have hn : items.size = vs.length := by rw [← Array.length_toList, rl.length]
  have hi : seqIndex? k items.size = some k.toNat := by
    simp [seqIndex?, show ¬ k < 0 from by omega]; omega
  refine call_meets PySem.F.slot_list_pop ⟨_, ho, rfl⟩ PySem.F.entry_list_pop (PySem.F.args_list_pop_2 _ _) (MeetsSeq.list_pop_at l items m k t k.toNat v (by unfold Builtin.List.listFitsIndex; simp; omega) hi (by simpa using hv) (by first | decide | (with_reducible first | exact lv hn | exact lv1 hn | exact lv2 hn | exact Int.natCast_nonneg _) | omega)) ⟨ho, ?_⟩
  have hlt : k.toNat < items.size := by omega
  have e1 : Obj.mapSeq (fun xs => xs.eraseIdxIfInBounds k.toNat) ⟨.type "list", none, .seq items m, #[]⟩ = ⟨.type "list", none, .seq (items.eraseIdxIfInBounds k.toNat) (if (items.eraseIdxIfInBounds k.toNat).size == items.size then m else m + 1), #[]⟩ := rfl
  have hp : (s.heap.update l (Obj.mapSeq fun xs => xs.eraseIdxIfInBounds k.toNat)).get? l = some ⟨.type "list", none, .seq (items.eraseIdxIfInBounds k.toNat) (if (items.eraseIdxIfInBounds k.toNat).size == items.size then m else m + 1), #[]⟩ := by
    rw [Heap.get?_update_self _ ho (by rw [e1]; rfl), e1]
  have e2 : (items.eraseIdxIfInBounds k.toNat).toList = items.toList.eraseIdx k.toNat := by
    simp [Array.eraseIdxIfInBounds, hlt]
  obtain ⟨S', st⟩ := S.putList (s' := { s with heap := s.heap.update l (Obj.mapSeq fun xs => xs.eraseIdxIfInBounds k.toNat) }) (vs' := vs.eraseIdx k.toNat) hq (fun b o nb e => by rw [Heap.get?_update_other _ _ (Ne.symm nb)]; exact e) hp (fun g => by rw [e2]; exact (rl.grow g).eraseIdx _) rfl rfl
  exact h _ v S' st (rv.grow st.grow)

theorem clear_ok {l : Addr} {vs : List AV} {Q : Value → Shared → Prop} {E : Value → Shared → Prop} (S : St G B H env ρ σ s) (hq : σ l = some (.list vs)) (hz : vs.length ≤ sizeLine)
    (h : ∀ s', St G B H env ρ (upd σ l (.list [])) s' → Step H s s' → Q .none s') : wpAny G.M A (call (.builtin "list.clear") [.ref l]) Q E s := by
  obtain ⟨items, m, ho, rl⟩ := S.listAt (lstOf_list hq)
  have hn : items.size = vs.length := by rw [← Array.length_toList, rl.length]
  refine call_meets PySem.F.slot_list_clear ⟨_, ho, rfl⟩ PySem.F.entry_list_clear (PySem.F.args_list_clear_1 _) (AutoSeq1.list_clear_list_0 l items m (by first | decide | (with_reducible first | exact lv hn | exact lv1 hn | exact lv2 hn | exact Int.natCast_nonneg _) | omega)) ⟨ho, ?_⟩
  have e1 : Obj.mapSeq (fun _ => #[]) ⟨.type "list", none, .seq items m, #[]⟩ = ⟨.type "list", none, .seq #[] (if (#[] : Array Value).size == items.size then m else m + 1), #[]⟩ := rfl
  have hp : (s.heap.update l (Obj.mapSeq fun _ => #[])).get? l = some ⟨.type "list", none, .seq #[] (if (#[] : Array Value).size == items.size then m else m + 1), #[]⟩ := by
    rw [Heap.get?_update_self _ ho (by rw [e1]; rfl), e1]
  obtain ⟨S', st⟩ := S.putList (s' := { s with heap := s.heap.update l (Obj.mapSeq fun _ => #[]) }) (vs' := []) hq (fun b o nb e => by rw [Heap.get?_update_other _ _ (Ne.symm nb)]; exact e) hp (fun g => by simpa using RelL.nil) rfl rfl
  exact h _ S' st
end
end Mine
set_option maxRecDepth 100000
namespace Mine
open PySem PyProof.Rows PySem.SeqAt

/-! ### the greatest of a list of pairs: the things compared lie in the heap -/
section
variable {prog : Program} {w : World} {A : Around} {R : Result → Shared → Prop} {I S : Addr} {fp wr : List Addr} {St : Nat → Heap → Prop} {items : Array Value} {ks : List (Int × Int)}
/-- a pair of ints at an address that the loop leaves alone -/
noncomputable def PairAt (wr : List Addr) (S : Addr) (h : Heap) (v : Value) (k : Int × Int) : Prop := ∃ (a : Addr) (is : Array Value) (t u : Tok), v = .ref a ∧ a ∉ wr ∧ a ≠ S ∧ IsTup h a is ∧ is.toList = [.int k.1 t, .int k.2 u]
theorem PairAt.keep {h h' : Heap} {v : Value} {k : Int × Int} (x : PairAt wr S h v k) (kp : ∀ b o, b ∉ wr → b ≠ S → h.get? b = some o → h'.get? b = some o) : PairAt wr S h' v k :=
  let ⟨a, is, t, u, e, n1, n2, ⟨o, h1, h2⟩, h3⟩ := x
  ⟨a, is, t, u, e, n1, n2, ⟨o, kp a o n1 n2 h1, h2⟩, h3⟩
theorem pair_gt {s : Shared} {v v' : Value} {k k' : Int × Int} {Q E : Value → Shared → Prop} (hu : A.units < cLine) (x : PairAt wr S s.heap v k) (y : PairAt wr S s.heap v' k') (h : Q (.bool (ltM k' k)) s) : wpAny (model prog w) A (richCompare .Gt v v') Q E s := by
  obtain ⟨a, is, t, u, rfl, _, _, ha, ea⟩ := x
  obtain ⟨a', is', t', u', rfl, _, _, hb, eb⟩ := y
  obtain ⟨z, hz, _, hc⟩ := pair_prs ea eb
  exact rc_tup_gt ha hb hu hz (by rw [hc]; exact h)
theorem pl_go (W : Walks prog w A.in1 I fp wr items.size (fun i v => items[i]? = some v) St) (hSf : S ∉ fp) (hu : A.units + 1 < cLine) :
    ∀ (m j : Nat) (s : Shared) (vb : Value) (kb : Int × Int) (c : Nat), items.size = j + 1 + m → St (j + 1) s.heap → (∀ (i : Nat) (v : Value), items[i]? = some v → ∃ k, ks[i]? = some k ∧ PairAt wr S s.heap v k) → (∃ i : Nat, items[i]? = some vb ∧ ks[i]? = some kb) →
    s.heap.get? S = some { cls := .type "list", dict := none, data := .seq #[vb, vb] c, slots := #[] } →
    (∀ (v : Value) (i : Nat) h' tk, items[i]? = some v → ks[i]? = some (((ks.take items.size).drop (j + 1)).foldl step1 kb) → (∀ b o, b ∉ wr → b ≠ S → s.heap.get? b = some o → h'.get? b = some o) → R (.ok (.ret v)) { s with heap := h', toks := tk }) →
    codeAny (model prog w) A (.builtin "max.loop" ⟨[.ref I, .none, .ref S], []⟩) R s := by
  have hSw : S ∉ wr := fun h => hSf (W.sub _ h)
  have hname : (toString "max" ++ toString ".loop" : String) = "max.loop" := by decide
  intro m
  induction m with
  | zero =>
    intro j s vb kb c hm hst hT hb hS hR
    refine codeAny_builtin F.entry_max_loop ?_
    rw [Around.under_plainId F.plain_max_loop _]
    show wpAny _ A.in1 (seqItems? (.ref S) >>= _) _ _ s
    refine wpAny_bind (wpAny_seqItems hS rfl ?_)
    show wpAny _ A.in1 (tryCatch (pyNext (.ref I)) _ >>= _) _ _ s
    refine wpAny_bind (wpAny_tryCatch (W.done s _ _ (by rw [hm]; exact hst) fun h' tk hk => wpAny_bind (wpAny_updateSeq (hk S _ hSw hS) rfl (wpAny_bind (wpAny_letGo (wpAny_pure ?_))))))
    obtain ⟨i, h1, h2⟩ := hb
    refine hR vb i _ tk h1 ?_ fun b o n1 n2 e => (Heap.get?_update_other _ _ (Ne.symm n2)).trans (hk b o n1 e)
    rw [List.drop_eq_nil_of_le (by rw [List.length_take, hm]; exact Nat.min_le_left _ _)]; exact h2
  | succ m ih =>
    intro j s vb kb c hm hst hT hb hS hR
    refine codeAny_builtin F.entry_max_loop ?_
    rw [Around.under_plainId F.plain_max_loop _]
    show wpAny _ A.in1 (seqItems? (.ref S) >>= _) _ _ s
    refine wpAny_bind (wpAny_seqItems hS rfl ?_)
    show wpAny _ A.in1 (tryCatch (pyNext (.ref I)) _ >>= _) _ _ s
    refine wpAny_bind (wpAny_tryCatch (W.item (j + 1) s _ _ (by first | decide | (with_reducible first | exact lv hn | exact lv1 hn | exact lv2 hn | exact Int.natCast_nonneg _) | omega) hst fun v h' tk hP hst' hk => ?_))
    have hS' := hk S _ hSw hS
    obtain ⟨k, hkk, pk⟩ := hT (j + 1) v hP
    obtain ⟨i, h1, h2⟩ := hb
    obtain ⟨kb', e2, pb⟩ := hT i vb h1
    rw [h2] at e2; cases e2
    have kp : ∀ b o, b ∉ wr → b ≠ S → s.heap.get? b = some o → h'.get? b = some o := fun b o n1 _ e => hk b o n1 e
    have ef : ((ks.take items.size).drop (j + 1)).foldl step1 kb = ((ks.take items.size).drop (j + 1 + 1)).foldl step1 (step1 kb k) := by
      have : (ks.take items.size)[j + 1]? = some k := by rw [List.getElem?_take, if_pos (by first | decide | (with_reducible first | exact lv hn | exact lv1 hn | exact lv2 hn | exact Int.natCast_nonneg _) | omega)]; exact hkk
      rw [List.drop_eq_getElem?_toList_append, this]; rfl
    rw [ef] at hR
    show wpAny _ A.in1 (tryCatch (holding [v, v] (richCompare .Gt v vb >>= _)) _ >>= _) _ _ _
    refine wpAny_bind (wpAny_tryCatch (wpAny_holding (wpAny_bind (pair_gt (A := A.in1) hu (pk.keep kp) (pb.keep kp) ?_))))
    refine wpAny_bind (wpAny_holding (wpAny_truthy_bool ?_))
    refine wpAny_bind (wpAny_letGo (wpAny_pure ?_))
    cases hb : ltM kb k with
    | true =>
      rw [show step1 kb k = k by rw [step1, if_pos hb]] at hR
      rw [if_pos rfl]
      refine wpAny_bind (wpAny_updateSeq hS' rfl (wpAny_bind (wpAny_letGo ?_)))
      rw [hname]
      refine wpAny_pure ⟨plainId_quiet F.plain_max_loop _, ih (j + 1) _ v k _ (by first | decide | (with_reducible first | exact lv hn | exact lv1 hn | exact lv2 hn | exact Int.natCast_nonneg _) | omega) (W.frame _ _ _ hst' fun b hbf o e => ?_) (fun i v hi => (hT i v hi).imp fun k z => ⟨z.1, z.2.keep fun b o n1 n2 e => ?_⟩) ⟨j + 1, hP, hkk⟩ (Heap.get?_update_self _ hS' rfl) fun v' i' h'' tk'' hi hk' kk => hR v' i' h'' tk'' hi hk' fun b o n1 n2 e => kk b o n1 n2 ?_⟩
      · exact (Heap.get?_update_other _ _ (fun h : S = b => hSf (by rw [h]; exact hbf))).trans e
      · exact (Heap.get?_update_other _ _ (Ne.symm n2)).trans (hk b o n1 e)
      · exact (Heap.get?_update_other _ _ (Ne.symm n2)).trans (hk b o n1 e)
    | false =>
      rw [show step1 kb k = kb by rw [step1, if_neg (by rw [hb]; decide)]] at hR
      rw [if_neg (by decide)]
      refine wpAny_bind (wpAny_letGo ?_)
      rw [hname]
      exact wpAny_pure ⟨plainId_quiet F.plain_max_loop _, ih (j + 1) _ vb kb c (by first | decide | (with_reducible first | exact lv hn | exact lv1 hn | exact lv2 hn | exact Int.natCast_nonneg _) | omega) hst' (fun i v hi => (hT i v hi).imp fun k z => ⟨z.1, z.2.keep kp⟩) ⟨i, h1, h2⟩ hS' fun v' i' h'' tk'' hi hk' kk => hR v' i' h'' tk'' hi hk' fun b o n1 n2 e => kk b o n1 n2 (hk b o n1 e)⟩
/-- max of a list of pairs -/
theorem call_max_pairs {E : Value → Shared → Prop} {s : Shared} {l : Addr} {p : Int × Int} {ps : List (Int × Int)} {Q : Value → Shared → Prop} (hh : A.handled = none) (hu : A.units + 1 < cLine) (hl : s.heap.IsList l items) (hlen : items.size = ps.length + 1)
    (hT : ∀ (i : Nat) (v : Value), items[i]? = some v → ∃ k, (p :: ps)[i]? = some k ∧ ∃ (a : Addr) (is : Array Value) (t u : Tok), v = .ref a ∧ IsTup s.heap a is ∧ is.toList = [.int k.1 t, .int k.2 u])
    (hQ : ∀ (v : Value) (i : Nat) h' tk, items[i]? = some v → (p :: ps)[i]? = some (ps.foldl step1 p) → (∀ b o, s.heap.get? b = some o → h'.get? b = some o) → Q v { s with heap := h', toks := tk }) : wpAny (model prog w) A (call (.builtin "max") [.ref l]) Q E s := by
  have hname : (toString "max" ++ toString ".loop" : String) = "max.loop" := by decide
  refine call_function_tree F.kind_max F.plain_max F.entry_max (F.args_max1 _) ?_
  show wpAny _ A.in1 (Builtin.Builtins.bindParams "max" ["key", "default"] 0 ⟨[], []⟩ >>= _) _ _ s
  refine wpAny_bind (wpAny_of_eq (show Builtin.Builtins.bindParams "max" ["key", "default"] 0 ⟨[], []⟩ = pure [none, none] from rfl) (wpAny_bind (wpAny_pure ?_)))
  have hlt : l < s.heap.objs.size := by obtain ⟨_, e, _⟩ := hl; exact Heap.lt_size e
  refine wpAny_bind (wpAny_pyIter_list hl (wpAny_bind (wpAny_newObj_type ?_)))
  rw [hname]
  have W := Walks.list (prog := prog) (w := w) (A := A.in1) hh s.heap.objs.size l (Nat.ne_of_lt hlt) items
  generalize hh1 : s.heap.push { cls := .type "list_iterator", data := .fields #[.ref l, .int 0 0] } = h1
  have sz1 : h1.objs.size = s.heap.objs.size + 1 := by rw [← hh1]; exact Heap.size_push ..
  have st1 : h1.IsListIter s.heap.objs.size l 0 ∧ h1.IsList l items := by rw [← hh1]; exact ⟨⟨_, Heap.get?_push_size _ rfl, rfl, rfl⟩, hl.push _⟩
  have k1 : ∀ b o, s.heap.get? b = some o → h1.get? b = some o := fun b o e => by rw [← hh1]; exact Heap.get?_push_of_some _ e
  clear hh1
  have hSf : h1.objs.size ∉ [s.heap.objs.size, l] := fun hm => by
    rcases List.mem_cons.mp hm with e | hm
    · rw [sz1] at e; exact absurd e (Nat.succ_ne_self _)
    · rw [List.mem_singleton.mp hm] at sz1; rw [sz1] at hlt; exact absurd hlt (Nat.not_lt_of_le (Nat.le_succ _))
  have hSw : h1.objs.size ∉ [s.heap.objs.size] := fun h => hSf (W.sub _ h)
  have kT : ∀ (h : Heap), (∀ b o, s.heap.get? b = some o → h.get? b = some o) → ∀ (i : Nat) (v : Value), items[i]? = some v → ∃ k, (p :: ps)[i]? = some k ∧ PairAt [s.heap.objs.size] h1.objs.size h v k := fun h kp i v hi => by
    obtain ⟨k, e1, a, is, t, u, e2, ⟨o, ho, hc⟩, e3⟩ := hT i v hi
    have hla := Heap.lt_size ho
    exact ⟨k, e1, a, is, t, u, e2, fun hm => Nat.ne_of_lt hla (List.mem_singleton.mp hm), by rw [sz1]; exact Nat.ne_of_lt (Nat.lt_succ_of_lt hla), ⟨o, kp a o ho, hc⟩, e3⟩
  refine wpAny_pure ⟨plainId_quiet F.plain_max_loop _, codeAny_builtin F.entry_max_loop ?_⟩
  rw [Around.under_plainId F.plain_max_loop _]
  show wpAny _ A.in1 (seqItems? (.ref h1.objs.size) >>= _) _ _ _
  refine wpAny_bind (wpAny_seqItems (Heap.get?_push_size _ rfl) rfl ?_)
  show wpAny _ A.in1 (tryCatch (pyNext (.ref s.heap.objs.size)) _ >>= _) _ _ _
  refine wpAny_bind (wpAny_tryCatch (W.item 0 _ _ _ (by first | decide | (with_reducible first | exact lv hn | exact lv1 hn | exact lv2 hn | exact Int.natCast_nonneg _) | omega) (W.frame _ _ _ st1 fun b _ o e => Heap.get?_push_of_some _ e) fun v h' tk hP hst' hk => ?_))
  have hS' := hk h1.objs.size _ hSw (Heap.get?_push_size _ rfl)
  have kp : ∀ b o, s.heap.get? b = some o → h'.get? b = some o := fun b o e => hk b o (fun hm => Nat.ne_of_lt (Heap.lt_size e) (List.mem_singleton.mp hm)) (Heap.get?_push_of_some _ (k1 b o e))
  show wpAny _ A.in1 (updateSeq h1.objs.size (fun _ => #[v, v]) >>= _) _ _ _
  refine wpAny_bind (wpAny_updateSeq hS' rfl ?_)
  rw [hname]
  have ks2 : ∀ b o, s.heap.get? b = some o → b ≠ h1.objs.size := fun b o e => by rw [sz1]; exact Nat.ne_of_lt (Nat.lt_succ_of_lt (Heap.lt_size e))
  refine wpAny_pure ⟨plainId_quiet F.plain_max_loop _, pl_go (ks := p :: ps) W hSf hu ps.length 0 _ v p _ (by rw [hlen, Nat.add_comm, Nat.zero_add]) (W.frame _ _ _ hst' fun b hbf o e => (Heap.get?_update_other _ _ (fun h : h1.objs.size = b => hSf (by rw [h]; exact hbf))).trans e) (kT _ fun b o e => (Heap.get?_update_other _ _ (Ne.symm (ks2 b o e))).trans (kp b o e)) ⟨0, hP, rfl⟩ (Heap.get?_update_self _ hS' rfl) fun v' i' h'' tk'' hi hkk kk => hQ v' i' h'' tk'' hi ?_ fun b o e => kk b o (fun hm => Nat.ne_of_lt (Heap.lt_size e) (List.mem_singleton.mp hm)) (ks2 b o e) ((Heap.get?_update_other _ _ (Ne.symm (ks2 b o e))).trans (kp b o e))⟩
  rw [hlen, List.take_of_length_le (by rw [List.length_cons]; exact Nat.le_refl _)] at hkk
  exact hkk
end
end Mine
set_option maxRecDepth 100000
namespace Mine
open PySem PyProof.Rows PySem.SeqAt

variable {G : PG}
section
variable {B : Heap} {H : Hid} {A : Around} {env : Env} {n : Nat} {ρ : Loc} {σ : Sto} {s : Shared} {Φ : PE} {Ψ : PX}

theorem hand_none (C : Cx G B H A env n) (h : 10 ≤ n) : A.handled = none := C.A.hand.elim id fun q => absurd q.1 (by first | decide | (with_reducible first | exact lv hn | exact lv1 hn | exact lv2 hn | exact Int.natCast_nonneg _) | omega)

theorem St.keepsQ {h' : Heap} {tk : Nat} {a : AV} {v : Value} (S : St G B H env ρ σ s) (k : ∀ b o, s.heap.get? b = some o → h'.get? b = some o) (r : Rel H h' a v) (p : Φ a σ) : QE G B H env ρ Φ s v { s with heap := h', toks := tk } :=
  ⟨a, σ, r, S.same (s' := { s with heap := h', toks := tk }) k, ⟨.of_keep k, rfl, rfl⟩, p⟩

theorem isi_ok {a : AV} {t v c : Value} {b : Bool} (C : Cx G B H A env n) (S : St G B H env ρ σ s) (ra : Rel H s.heap a v) (hk : kindV σ a = some t) (e : W.kitOne G.K t c = some b) (hx : a.exnK G.K) (p : Φ (.bool b) σ) : Go G B H A env ρ s (call (.builtin "isinstance") [v, c]) Φ Ψ := by
  have X := inK_at C S
  have fin : ∀ tk, QE G B H env ρ Φ s (.bool b) { s with toks := tk } := fun tk => qe (S.tok _) (Step.tok _ _ _) (by simp [Rel]) p
  cases a <;> simp only [kindV] at hk <;> simp only [Rel] at ra
  · cases hk; subst ra; exact W.kia_one W.kitx_none X trivial e (by simp) fin
  · cases hk; subst ra; exact W.kia_one W.kitx_bool X trivial e (by simp) fin
  · cases hk; obtain ⟨t, rfl⟩ := ra; exact W.kia_one W.kitx_int X trivial e (by simp) fin
  · cases hk; obtain ⟨t, rfl⟩ := ra; exact W.kia_one W.kitx_str X trivial e (by simp) fin
  · cases hk; obtain ⟨l, i, rfl, ⟨o, ho, hc, _⟩, _⟩ := ra; exact W.kia_one W.kitx_tuple X ⟨o, ho, hc⟩ e (by simp) fin
  · subst ra
    split at hk
    · rename_i hq; cases hk; obtain ⟨items, m, ho, _⟩ := S.listAt hq; exact W.kia_one W.kitx_list X ⟨_, ho, rfl⟩ e (by simp) fin
    split at hk
    · rename_i hq; cases hk; obtain ⟨vs, ⟨o, es, ep, ho, he, _⟩, _⟩ := (S.store _ _ hq).1; exact W.kia_one W.kitx_dict X ⟨o, ho, he.1⟩ e (by simp) fin
    · rename_i hq; cases hk; obtain ⟨vs, ⟨o, es, ep, ho, he, _⟩, _⟩ := (S.store _ _ hq).1; exact W.kia_one W.kitx_dict X ⟨o, ho, he.1⟩ e (by simp) fin
    · cases hk
  · cases hk
  · cases hk
    obtain ⟨rfl, C', o, vs, rfl, ho, hcd, hd⟩ := ra
    obtain ⟨D, z, hK⟩ := hx
    cases z
    exact W.kia_one (kitx_exn hK) X (inst_exn ho hcd.1 hcd.2 hd) e (by simp) fin

theorem pairs_at {h : Heap} : ∀ {ks : List (Int × Int)} {ws : List Value}, RelL H h (ks.map fun p => .tup [.int p.1, .int p.2]) ws → ∀ (i : Nat) (v : Value), ws[i]? = some v → ∃ k, ks[i]? = some k ∧ Rel H h (.tup [.int k.1, .int k.2]) v
  | [], ws, r, i, v, hv => by simp only [List.map_nil, RelL] at r; subst r; cases hv
  | k :: ks, ws, r, i, v, hv => by
    simp only [List.map_cons, RelL] at r
    obtain ⟨u, rest, rfl, r1, r2⟩ := r
    cases i with
    | zero => cases hv; exact ⟨k, rfl, r1⟩
    | succ i => exact pairs_at r2 i v hv
theorem maxT_ok {l : Addr} {q : Int × Int} {ps : List (Int × Int)} (C : Cx G B H A env n) (hn : 10 ≤ n) (S : St G B H env ρ σ s) (hq : lstOf σ l = some ((q :: ps).map fun p => .tup [.int p.1, .int p.2])) (p : Φ (.tup [.int (ps.foldl step1 q).1, .int (ps.foldl step1 q).2]) σ) :
    Go G B H A env ρ s (call (.builtin "max") [.ref l]) Φ Ψ := by
  obtain ⟨items, m, ho, rl⟩ := S.listAt hq
  have at_ := pairs_at rl
  refine call_max_pairs (p := q) (ps := ps) (hand_none C hn) (by have := C.A.units; unfold cLine; omega) (isList_of ho) (by rw [← Array.length_toList, rl.length, List.length_map]; rfl) (fun i v hi => ?_) fun v i h' tk hi hk kp => ?_
  · exact (at_ i v (by simpa using hi)).imp fun k z => ⟨z.1, rel_pair z.2⟩
  · obtain ⟨k, e, r⟩ := at_ i v (by simpa using hi)
    rw [e] at hk; cases hk
    exact S.keepsQ kp (r.grow (.of_keep kp)) p
theorem dcopy_ok {x : Addr} {kvs : List (Int × AV)} (S : St G B H env ρ σ s) (hq : σ x = some (.dictI kvs)) (hz : kvs.length ≤ sizeLine) (p : ∀ b, σ b = none → Φ (.ref b) (upd σ b (.dictI kvs))) : Go G B H A env ρ s (call (.type "dict") [.ref x]) Φ Ψ := by
  obtain ⟨vs, D, e, r⟩ := (S.store x _ hq).1
  have hl : vs.length = kvs.length := by have := congrArg List.length e; simpa using this
  refine kt_call_dict (knd := intKind G.prog G.w) (ref_ne_sys S hq) D (by first | decide | (with_reducible first | exact lv hn | exact lv1 hn | exact lv2 hn | exact Int.natCast_nonneg _) | omega) fun h' D' hs => ?_
  have hk : ∀ b o, s.heap.get? b = some o → h'.get? b = some o := fun b o e => hs.extBut b o (Nat.ne_of_lt (Heap.lt_size e)) (Heap.get?_push_of_some _ e)
  exact ⟨_, _, by simp [Rel], S.new (s' := { s with heap := h' }) hk (Nat.le_refl _) (c := .dictI kvs) ⟨vs, D', e, r.grow (.of_keep hk)⟩, .keeps hk, p _ (S.fresh (Nat.le_refl _))⟩
theorem bi2_ok {f : Str} {as : List AV} {vs : List Value} {fv : Value} (hf : bootBuiltins f = some fv) (S : St G B H env ρ σ s) (r : RelL H s.heap as vs) (p : biV2 f as σ Φ) : Go G B H A env ρ s (call fv vs) Φ Ψ := by
  unfold biV2 at p
  by_cases e : f = "dict"
  · rw [if_pos e] at p; subst e
    rw [show bootBuiltins "dict" = some (.type "dict") from by decide +kernel] at hf; cases hf
    replace p := arg1_of p
    obtain ⟨a, rfl, x, kvs, rfl, hq, hz, p⟩ := p
    simp only [RelL, Rel] at r
    obtain ⟨v, _, rfl, rfl, rfl⟩ := r
    exact dcopy_ok S hq hz p
  rw [if_neg e] at p
  exact p.elim
theorem bi_ok {f : Str} {as : List AV} {vs : List Value} {fv : Value} (hf : bootBuiltins f = some fv) (C : Cx G B H A env n) (S : St G B H env ρ σ s) (r : RelL H s.heap as vs) (p : biV G n f as σ Φ) : Go G B H A env ρ s (call fv vs) Φ Ψ := by
  unfold biV at p
  split at p
  · rename_i e; subst e
    rw [show bootBuiltins "len" = some (.builtin "len") from by decide +kernel] at hf; cases hf
    replace p := arg1_of p
    obtain ⟨a, rfl, p⟩ := p
    simp only [RelL] at r
    obtain ⟨v, _, rfl, ra, rfl⟩ := r
    cases a with
    | tup vs =>
      simp only [Rel] at ra
      obtain ⟨l, items, rfl, ht, _, rl⟩ := ra
      have hz : items.size = _ := (by rw [← Array.length_toList, rl.length] : items.size = _)
      refine PyProof.Rows.len_tuple ht (by rw [hz]; have := p.1; omega) (qe (S.tok _) (Step.tok _ _ _) ?_ p.2)
      rw [hz]; simp [Rel]
    | str x =>
      simp only [Rel] at ra
      obtain ⟨t, rfl⟩ := ra
      exact PyProof.Rows.len_str (by have := p.1; omega) (qe (S.tok _) (Step.tok _ _ _) (by simp [Rel]) p.2)
    | ref l =>
      simp only [Rel] at ra; subst ra
      replace p := onLst_of (show onLst σ (.ref l) _ from p)
      obtain ⟨l', vs, e, hq, p⟩ := p
      cases e
      obtain ⟨items, m, ho, rl⟩ := S.listAt hq
      have hz : items.size = _ := (by rw [← Array.length_toList, rl.length] : items.size = _)
      refine PySem.Calls.call_len_list (isList_of ho) (by rw [hz]; omega) (qe (S.tok _) (Step.tok _ _ _) ?_ p.2)
      rw [hz]; simp [Rel]
    | _ => exact p.elim
  split at p
  · rename_i e; subst e
    rw [show bootBuiltins "isinstance" = some (.builtin "isinstance") from by decide +kernel] at hf; cases hf
    replace p := arg2_of p
    obtain ⟨a, c, rfl, p⟩ := p
    simp only [RelL] at r
    obtain ⟨v, _, rfl, ra, u, _, rfl, rb, rfl⟩ := r
    cases c with
    | val c =>
      obtain ⟨T, t, b, rfl, h1, h2, h3, p⟩ := p
      simp only [Rel] at rb; subst rb
      exact isi_ok C S ra h1 h2 h3 p
    | ref c =>
      obtain ⟨t, b, h1, h2, h3, p⟩ := p
      simp only [Rel] at rb; subst rb
      exact isi_ok C S ra h1 h2 h3 p
    | _ => exact p.elim
  split at p
  · rename_i e; subst e
    rw [show bootBuiltins "list" = some (.type "list") from by decide +kernel] at hf; cases hf
    replace p := arg1_of p
    obtain ⟨a, rfl, p⟩ := p
    replace p := onLst_of p
    obtain ⟨l, vs, rfl, hq, p⟩ := p
    simp only [RelL, Rel] at r
    obtain ⟨v, _, rfl, rfl, rfl⟩ := r
    obtain ⟨items, m, ho, rl⟩ := S.listAt hq
    refine call_list_seq (items := items) _ (.inl rfl) ho rfl rfl (fun h' c' hk hD => ?_) (by rw [← Array.length_toList, rl.length]; exact p.1)
    exact ⟨_, _, by simp [Rel], S.new (s' := { s with heap := h' }) hk (Nat.le_refl _) (c := .list _) ⟨items, c', hD, rl.grow (.of_keep hk)⟩, .keeps hk, p.2 _ (S.fresh (Nat.le_refl _))⟩
  split at p
  · rename_i e; subst e
    rw [show bootBuiltins "max" = some (.builtin "max") from by decide +kernel] at hf; cases hf
    rcases p with p | p
    · rcases p with p | p
      · exact p.elim
      · replace p := arg1_of p
        obtain ⟨a, rfl, p⟩ := p
        replace p := onLst_of p
        obtain ⟨l, vs, rfl, hq, p⟩ := p
        simp only [RelL, Rel] at r
        obtain ⟨v, _, rfl, rfl, rfl⟩ := r
        obtain ⟨hn, i, is, rfl, p⟩ := p
        exact maxT_ok C hn S hq p
    · replace p := arg2_of p
      obtain ⟨a, b, rfl, p⟩ := p
      replace p := int2_of p
      obtain ⟨i, j, rfl, rfl, p⟩ := p
      simp only [RelL, Rel] at r
      obtain ⟨v, _, rfl, ⟨t, rfl⟩, u, _, rfl, ⟨t', rfl⟩, rfl⟩ := r
      refine max_two_ints (hand_none C p.1) fun h' tk hk => S.keepsQ hk ?_ p.2
      split <;> simp only [Rel]
      · exact ⟨_, by rw [show max _ _ = _ from Int.max_eq_right (by first | decide | (with_reducible first | exact lv hn | exact lv1 hn | exact lv2 hn | exact Int.natCast_nonneg _) | omega)]⟩
      · exact ⟨_, by rw [show max _ _ = _ from Int.max_eq_left (by first | decide | (with_reducible first | exact lv hn | exact lv1 hn | exact lv2 hn | exact Int.natCast_nonneg _) | omega)]⟩
  split at p
  · rename_i e; subst e
    rw [show bootBuiltins "min" = some (.builtin "min") from by decide +kernel] at hf; cases hf
    replace p := arg2_of p
    obtain ⟨a, b, rfl, p⟩ := p
    replace p := int2_of p
    obtain ⟨i, j, rfl, rfl, p⟩ := p
    simp only [RelL, Rel] at r
    obtain ⟨v, _, rfl, ⟨t, rfl⟩, u, _, rfl, ⟨t', rfl⟩, rfl⟩ := r
    refine min_two_ints (hand_none C p.1) fun h' tk hk => S.keepsQ hk ?_ p.2
    split <;> simp only [Rel]
    · exact ⟨_, by rw [show min _ _ = _ from Int.min_eq_right (by first | decide | (with_reducible first | exact lv hn | exact lv1 hn | exact lv2 hn | exact Int.natCast_nonneg _) | omega)]⟩
    · exact ⟨_, by rw [show min _ _ = _ from Int.min_eq_left (by first | decide | (with_reducible first | exact lv hn | exact lv1 hn | exact lv2 hn | exact Int.natCast_nonneg _) | omega)]⟩
  split at p
  · exact p.elim
  split at p
  · rename_i e; subst e
    rw [show bootBuiltins "int" = some (.type "int") from by decide +kernel] at hf; cases hf
    replace p := arg1_of p
    obtain ⟨a, rfl, p⟩ := p
    simp only [RelL] at r
    obtain ⟨v, _, rfl, ra, rfl⟩ := r
    cases a with
    | bool b =>
      simp only [Rel] at ra; subst ra
      exact call_int_bool (qe (S.tok _) (Step.tok _ _ _) (by simp [Rel]) p)
    | _ => exact p.elim
  split at p
  · rename_i e; subst e
    rw [show bootBuiltins "str" = some (.type "str") from by decide +kernel] at hf; cases hf
    replace p := arg1_of p
    obtain ⟨a, rfl, i, rfl, p1, p2⟩ := p
    simp only [RelL, Rel] at r
    obtain ⟨v, _, rfl, ⟨t, rfl⟩, rfl⟩ := r
    exact P.str_of_int p1 (qe (S.tok _) (Step.tok _ _ _) (by simp [Rel]) p2)
  · exact bi2_ok hf S r p
end
end Mine
set_option maxRecDepth 100000
namespace Mine
open PySem PyProof.Rows

variable {G : PG}

open Classical in
/-- hide the objects N as they are -/
noncomputable def hidN (H : Hid) (N : List Addr) (h : Heap) : Hid := fun a => if a ∈ N then h.get? a else H a
theorem hidN_of {H : Hid} {N : List Addr} {h : Heap} {a : Addr} (e : a ∈ N) : hidN H N h a = h.get? a := if_pos e
theorem hidN_ne {H : Hid} {N : List Addr} {h : Heap} {a : Addr} (e : a ∉ N) : hidN H N h a = H a := if_neg e
theorem hidN_hidN (H : Hid) (N : List Addr) (h h' : Heap) : hidN (hidN H N h) N h' = hidN H N h' := by
  funext a
  by_cases q : a ∈ N
  · rw [hidN_of q, hidN_of q]
  · rw [hidN_ne q, hidN_ne q, hidN_ne q]

/-- N is new -/
structure NOk (B : Heap) (H : Hid) (env : Env) (N : List Addr) : Prop where
  base : ∀ b ∈ N, B.get? b = none
  hid : ∀ b ∈ N, H b = none
  loc : env.locals ∉ N
  cells : ∀ x ∈ env.cells, x.2 ∉ N
/-- N's objects are there, of a kind that no step touches -/
noncomputable def There (N : List Addr) (h : Heap) : Prop := ∀ b ∈ N, ∃ o, h.get? b = some o ∧ ∀ C vs, o.cls = .ref C → o.data ≠ .fields vs

section
variable {B : Heap} {H : Hid} {A : Around} {env : Env} {n : Nat} {ρ : Loc} {σ : Sto} {s s₁ : Shared} {N : List Addr}

theorem hidN_some {h : Heap} {a : Addr} (q : NOk B H env N) (t : There N h) : hidN H N h a = none ↔ (a ∉ N ∧ H a = none) := by
  by_cases e : a ∈ N
  · obtain ⟨o, ho, _⟩ := t a e
    rw [hidN_of e, ho]; simp [e]
  · rw [hidN_ne e]; simp [e]

theorem Cx.hidN {h : Heap} (C : Cx G B H A env n) (q : NOk B H env N) : Cx G B (hidN H N h) A env n := by
  have fr : ∀ l, FramesIn B H l → FramesIn B (Mine.hidN H N h) l := fun l hl e he => by
    obtain ⟨h1, L, o, h2, h3, h4, h5⟩ := hl e he
    exact ⟨h1, L, o, h2, h3, by rw [hidN_ne fun z => by rw [q.hid L z] at h4; cases h4]; exact h4, h5⟩
  obtain ⟨T, E, ⟨a1, a2, a3, fe, outer, a4, a5, a6, a7⟩⟩ := C
  refine ⟨T, ⟨E.kind, E.glob, E.bltn, ⟨E.loc.1, by rw [hidN_ne q.loc]; exact E.loc.2⟩, E.apart, fun x hx => ⟨(E.own x hx).1, by rw [hidN_ne (q.cells x hx)]; exact (E.own x hx).2⟩⟩, a1, a2, ?_, fe, outer, a4, fr _ a5, a6, fun z => fr _ (a7 z)⟩
  rcases a3 with a3 | ⟨z, e, o, vs, h1, h2, h3⟩
  · exact .inl a3
  · exact .inr ⟨z, e, o, vs, h1, by rw [hidN_ne fun z => by rw [q.hid e z] at h2; cases h2]; exact h2, h3⟩
theorem FrameOk.hidN {h : Heap} (F : FrameOk B H env) (q : NOk B H env N) : FrameOk B (hidN H N h) env :=
  { kind := F.kind, glob := F.glob, bltn := F.bltn, loc := ⟨F.loc.1, by rw [hidN_ne q.loc]; exact F.loc.2⟩, apart := F.apart, fr := F.fr, nodup := F.nodup
    own := fun x hx => ⟨(F.own x hx).1, by rw [hidN_ne (q.cells x hx)]; exact (F.own x hx).2⟩ }

theorem FrameAt.dom {H' : Hid} {h : Heap} (d : ∀ a items, IsTup h a items → H a = none → H' a = none) (x : FrameAt H h env ρ) : FrameAt H' h env ρ := by
  obtain ⟨⟨m, hn, hm⟩, hc, ht⟩ := x
  refine ⟨⟨m, hn, fun x e z => (hm x e z).dom d⟩, fun x e => ?_, ht⟩
  obtain ⟨c, v, e1, e2, r⟩ := hc x e
  exact ⟨c, v, e1, e2, r.dom d⟩

/-- new objects are hidden -/
theorem St.hide (S : St G B H env ρ σ s) (k : ∀ b o, s.heap.get? b = some o → s₁.heap.get? b = some o) (f : ∀ b ∈ N, s.heap.objs.size ≤ b) :
    St G B (hidN H N s₁.heap) env ρ σ s₁ ∧ NOk B H env N := by
  have lt : ∀ b o, s.heap.get? b = some o → b ∉ N := fun b o e z => Nat.lt_irrefl _ (Nat.lt_of_lt_of_le (Heap.lt_size e) (f b z))
  have d : ∀ a items, IsTup s.heap a items → H a = none → Mine.hidN H N s₁.heap a = none := fun a items ⟨o, ho, _⟩ q => by rw [hidN_ne (lt a o ho)]; exact q
  have g : Grow (Mine.hidN H N s₁.heap) s.heap s₁.heap := .of_keep k
  refine ⟨⟨fun b o e => k b o (S.keep b o e), fun a o e => ?_, (S.frame.dom d).keep (fun b o _ e => ⟨o.slots, k b o e⟩) g, fun a c e => ?_, S.root, S.low⟩, ?_⟩
  · by_cases q : a ∈ N
    · rw [hidN_of q] at e
      exact ⟨o.slots, e, fun _ => rfl⟩
    · rw [hidN_ne q] at e
      obtain ⟨sl, h1, h2⟩ := S.hid a o e
      exact ⟨sl, k a _ h1, h2⟩
  · obtain ⟨q1, q2, q3, q4⟩ := S.store a c e
    obtain ⟨o, ho, _⟩ := q1.there
    exact ⟨(q1.dom d).keep (fun o e => k a o e) g, q2, by rw [hidN_ne (lt a o ho)]; exact q3, q4⟩
  · refine ⟨fun b hb => none_of_not_some fun o e => lt b o (S.keep b o e) hb, fun b hb => none_of_not_some fun o e => ?_, fun z => ?_, fun x hx z => ?_⟩
    · obtain ⟨sl, h1, _⟩ := S.hid b o e
      exact lt b _ h1 hb
    · exact Nat.lt_irrefl _ (Nat.lt_of_lt_of_le S.locals_lt (f _ z))
    · exact Nat.lt_irrefl _ (Nat.lt_of_lt_of_le (S.cell_lt hx) (f _ z))

/-- what is hidden moves -/
theorem St.turn {h : Heap} (q : NOk B H env N) (t : There N h) (S : St G B (hidN H N h) env ρ σ s) (k : ∀ b o, b ∉ N → s.heap.get? b = some o → s₁.heap.get? b = some o) (t' : There N s₁.heap) (ts : There N s.heap) :
    St G B (hidN H N s₁.heap) env ρ σ s₁ ∧ Grow (hidN H N h) s.heap s₁.heap ∧ ∀ a, hidN H N h a = none → hidN H N s₁.heap a = none := by
  have dd : ∀ a, Mine.hidN H N h a = none → Mine.hidN H N s₁.heap a = none := fun a z => (hidN_some q t').mpr ((hidN_some q t).mp z)
  have d : ∀ a items, IsTup s.heap a items → Mine.hidN H N h a = none → Mine.hidN H N s₁.heap a = none := fun a _ _ z => dd a z
  have g0 : Grow (Mine.hidN H N h) s.heap s₁.heap := ⟨fun a items z ⟨o, ho, r⟩ => ⟨o, k a o ((hidN_some q t).mp z).1 ho, r⟩, fun a o vs C e c dq => ⟨o, vs, k a o (fun z => by
      obtain ⟨o', h1, h2⟩ := ts a z
      rw [e] at h1; cases h1; exact h2 C vs c dq) e, .rfl, dq⟩⟩
  have g : Grow (Mine.hidN H N s₁.heap) s.heap s₁.heap := ⟨fun a items z => g0.tup a items ((hidN_some q t).mpr ((hidN_some q t').mp z)), g0.recs⟩
  refine ⟨⟨fun b o e => k b o (fun z => by rw [q.base b z] at e; cases e) (S.keep b o e), fun a o e => ?_, (S.frame.dom d).keep (fun b o z e => ⟨o.slots, k b o ?_ e⟩) g, fun a c e => ?_, S.root, S.low⟩, g0, dd⟩
  · by_cases z : a ∈ N
    · rw [hidN_of z] at e
      exact ⟨o.slots, e, fun _ => rfl⟩
    · rw [hidN_ne z] at e
      obtain ⟨sl, h1, h2⟩ := S.hid a o (by rw [hidN_ne z]; exact e)
      exact ⟨sl, k a _ z h1, h2⟩
  · rcases z with rfl | ⟨y, hy, rfl⟩
    · exact q.loc
    · exact q.cells y hy
  · obtain ⟨q1, q2, q3, q4⟩ := S.store a c e
    obtain ⟨z1, z2⟩ := (hidN_some q t).mp q3
    exact ⟨(q1.dom d).keep (fun o e => k a o z1 e) g, q2, dd a q3, q4⟩

/-- the end: they are let go -/
theorem St.unhide {h : Heap} (q : NOk B H env N) (t : There N h) (S : St G B (hidN H N h) env ρ σ s) : St G B H env ρ σ s := by
  have d : ∀ a items, IsTup s.heap a items → Mine.hidN H N h a = none → H a = none := fun a _ _ z => ((hidN_some q t).mp z).2
  refine ⟨S.keep, fun a o e => ?_, S.frame.dom d, fun a c e => ?_, S.root, S.low⟩
  · exact S.hid a o (by rw [hidN_ne fun z => by rw [q.hid a z] at e; cases e]; exact e)
  · obtain ⟨q1, q2, q3, q4⟩ := S.store a c e
    exact ⟨q1.dom d, q2, ((hidN_some q t).mp q3).2, q4⟩
theorem St.leave {h : Heap} (q : NOk B H env N) (t : There N h) (S : St G B (hidN H N h) env ρ σ s) (k : ∀ b o, b ∉ N → s.heap.get? b = some o → s₁.heap.get? b = some o) (ts : There N s.heap) :
    St G B H env ρ σ s₁ ∧ Grow (hidN H N h) s.heap s₁.heap := by
  have d : ∀ a items, IsTup s.heap a items → Mine.hidN H N h a = none → H a = none := fun a _ _ z => ((hidN_some q t).mp z).2
  have g0 : Grow (Mine.hidN H N h) s.heap s₁.heap := ⟨fun a items z ⟨o, ho, r⟩ => ⟨o, k a o ((hidN_some q t).mp z).1 ho, r⟩, fun a o vs C e c dq => ⟨o, vs, k a o (fun z => by
      obtain ⟨o', h1, h2⟩ := ts a z
      rw [e] at h1; cases h1; exact h2 C vs c dq) e, .rfl, dq⟩⟩
  refine ⟨⟨fun b o e => k b o (fun z => by rw [q.base b z] at e; cases e) (S.keep b o e), fun a o e => ?_, ?_, fun a c e => ?_, S.root, S.low⟩, g0⟩
  · have na : a ∉ N := fun z => by rw [q.hid a z] at e; cases e
    obtain ⟨sl, h1, h2⟩ := S.hid a o (by rw [hidN_ne na]; exact e)
    exact ⟨sl, k a _ na h1, h2⟩
  · refine FrameAt.dom (H := Mine.hidN H N h) (fun a _ _ z => ((hidN_some q t).mp z).2) (S.frame.keep (fun b o z e => ⟨o.slots, k b o ?_ e⟩) g0)
    rcases z with rfl | ⟨y, hy, rfl⟩
    · exact q.loc
    · exact q.cells y hy
  · obtain ⟨q1, q2, q3, q4⟩ := S.store a c e
    obtain ⟨z1, z2⟩ := (hidN_some q t).mp q3
    exact ⟨CellAt.dom (H := Mine.hidN H N h) (fun a _ _ z => ((hidN_some q t).mp z).2) (q1.keep (fun o e => k a o z1 e) g0), q2, z2, q4⟩
/-- steps under the hidden ones are steps from before them -/
theorem Step.over {s₀ : Shared} {h : Heap} (f : ∀ b ∈ N, s₀.heap.objs.size ≤ b) (x : Step H s₀ s) (y : Step (hidN H N h) s s₁) : Step H s₀ s₁ := by
  refine ⟨⟨fun a items z w => ?_, fun a o vs C e c d => ?_⟩, y.gens.trans x.gens, y.os.trans x.os⟩
  · have na : a ∉ N := fun q => by obtain ⟨o, ho, _⟩ := w; exact Nat.lt_irrefl _ (Nat.lt_of_lt_of_le (Heap.lt_size ho) (f a q))
    exact y.grow.tup a items (by rw [hidN_ne na]; exact z) (x.grow.tup a items z w)
  · obtain ⟨o', vs', e1, c1, d1⟩ := x.grow.recs a o vs C e c d
    obtain ⟨o2, vs2, e2, c2, d2⟩ := y.grow.recs a o' vs' C e1 (c1.1.trans c) d1
    exact ⟨o2, vs2, e2, c2.trans c1, d2⟩
theorem after_at {h : Heap} {b : Addr} {o : Obj} (S : St G B (hidN H N h) env ρ σ s) (hb : b ∈ N) (e : h.get? b = some o) (nd : ∀ es n, o.data ≠ .dict es n) : s.heap.get? b = some o := by
  obtain ⟨sl, h1, h2⟩ := S.hid b o (by rw [hidN_of hb]; exact e)
  rw [h1, h2 nd]
theorem There.after {h : Heap} (t : There N h) (S : St G B (hidN H N h) env ρ σ s) : There N s.heap := fun b hb => by
  obtain ⟨o, e, r⟩ := t b hb
  obtain ⟨sl, h1, _⟩ := S.hid b o (by rw [hidN_of hb]; exact e)
  exact ⟨_, h1, r⟩
/-- the hidden ones as they stand now -/
theorem St.fresh_hidN {h : Heap} (q : NOk B H env N) (t : There N h) (S : St G B (hidN H N h) env ρ σ s) : St G B (hidN H N s.heap) env ρ σ s :=
  (S.turn q t (fun _ _ _ e => e) (t.after S) (t.after S)).1
theorem Flies.unhide {h h' : Heap} {e : Addr} {cls : Value} (q : NOk B H env N) (t : There N h) (f : Flies B (hidN H N h) σ h' e cls) : Flies B H σ h' e cls := by
  have m : ∀ {a}, Mine1 B (Mine.hidN H N h) σ a → Mine1 B H σ a := fun z => ⟨z.base, ((hidN_some q t).mp z.hid).2, z.sto⟩
  obtain ⟨n1, n2, o, vs, a, b, c, d, e⟩ := f
  refine ⟨m n1, n2, o, vs, a, b, c, d, e.imp id ?_⟩
  rintro ⟨T, e1, e2, e3, e4⟩
  exact ⟨T, e1, m e2, e3, e4⟩
/-! ### iterators -/
noncomputable def okName : Expr → Prop := fun t => ∃ x p, t = .Name x p
noncomputable def okTup : Expr → Prop := fun t => ∃ es k p, t = .Tuple es k p
noncomputable def okFor (src : Src) (t : Expr) : Prop := if src.pair = true then okTup t else okName t
/-- an iterator over src: J k stands behind k items -/
noncomputable def ItSelf (G : PG) (it : Addr) (J : Nat → Heap → Prop) : Prop := ∀ {A : Around} {s : Shared} {k : Nat} {Q : Value → Shared → Prop} {E : Value → Shared → Prop}, J k s.heap → Q (.ref it) s → wpAny G.M A (pyIter (.ref it)) Q E s
noncomputable def ItFrame (N : List Addr) (J : Nat → Heap → Prop) : Prop := ∀ k h h', J k h → (∀ b ∈ N, ∀ o, h.get? b = some o → h'.get? b = some o) → J k h'
noncomputable def ItThere (N : List Addr) (J : Nat → Heap → Prop) : Prop := ∀ k h, J k h → ∀ b ∈ N, ∃ o, h.get? b = some o ∧ (∀ es n, o.data ≠ .dict es n) ∧ ∀ C, o.cls ≠ .ref C
noncomputable def ItNext (G : PG) (n : Nat) (src : Src) (it : Addr) (N : List Addr) (J : Nat → Heap → Prop) : Prop := ∀ {B : Heap} {H : Hid} {A : Around} {env : Env} {ρ : Loc} {σ : Sto} {s : Shared} {k : Nat} {vs : List AV} {v : AV} {target : Expr} {Q : Option Value → Shared → Prop} {E : Value → Shared → Prop} {Q' : Value → Unit → Shared → Prop},
    Cx G B H A env n → St G B H env ρ σ s → J k s.heap → (∀ b ∈ N, H b ≠ none) → src.items σ = some vs → vs[k]? = some v → okFor src target →
    (∀ u h' tk, (∀ b o, b ∉ N → s.heap.get? b = some o → h'.get? b = some o) → wpAny G.M A (letOwnedTupleGo target (.ref it) u) (Q' u) E { s with heap := h', toks := tk } → Q (some u) { s with heap := h', toks := tk }) →
    (∀ u h' tk, (∀ b o, b ∉ N → s.heap.get? b = some o → h'.get? b = some o) → J (k + 1) h' → Rel (hidN H N h') h' v u → Q' u () { s with heap := h', toks := tk }) →
    wpAny G.M A (pyNext (.ref it)) Q E s
noncomputable def ItNextN (G : PG) (n : Nat) (src : Src) (it : Addr) (N : List Addr) (J : Nat → Heap → Prop) : Prop := ∀ {B : Heap} {H : Hid} {A : Around} {env : Env} {ρ : Loc} {σ : Sto} {s : Shared} {k : Nat} {vs : List AV} {v : AV} {Q : Option Value → Shared → Prop} {E : Value → Shared → Prop}, src.pair = false →
    Cx G B H A env n → St G B H env ρ σ s → J k s.heap → (∀ b ∈ N, H b ≠ none) → src.items σ = some vs → vs[k]? = some v →
    (∀ u h' tk, (∀ b o, b ∉ N → s.heap.get? b = some o → h'.get? b = some o) → J (k + 1) h' → Rel (hidN H N h') h' v u → Q (some u) { s with heap := h', toks := tk }) →
    wpAny G.M A (pyNext (.ref it)) Q E s
noncomputable def ItDone (G : PG) (n : Nat) (src : Src) (it : Addr) (N : List Addr) (J : Nat → Heap → Prop) : Prop := ∀ {B : Heap} {H : Hid} {A : Around} {env : Env} {ρ : Loc} {σ : Sto} {s : Shared} {vs : List AV} {Q : Option Value → Shared → Prop} {E : Value → Shared → Prop},
    Cx G B H A env n → St G B H env ρ σ s → J vs.length s.heap → src.items σ = some vs →
    (∀ h' tk, (∀ b o, b ∉ N → s.heap.get? b = some o → h'.get? b = some o) → Q none { s with heap := h', toks := tk }) → wpAny G.M A (pyNext (.ref it)) Q E s
structure Itr (G : PG) (n : Nat) (src : Src) (it : Addr) (N : List Addr) (J : Nat → Heap → Prop) : Prop where
  mem : it ∈ N
  self : ItSelf G it J
  frame : ItFrame N J
  there : ItThere N J
  next : ItNext G n src it N J
  nextN : ItNextN G n src it N J
  done : ItDone G n src it N J
end
end Mine
set_option maxRecDepth 100000
namespace Mine
open PySem PyProof.Rows

variable {G : PG}

/-- nothing is handled, or an exception without a context -/
noncomputable def HandOk (A : Around) (h : Heap) : Prop := A.handled = none ∨ ∃ e o vs, A.handled = some (.ref e) ∧ h.get? e = some o ∧ o.data = .fields vs ∧ vs[2]? = some Value.none
theorem Cx.handOk {B : Heap} {H : Hid} {A : Around} {env : Env} {n : Nat} {ρ : Loc} {σ : Sto} {s : Shared} (C : Cx G B H A env n) (S : St G B H env ρ σ s) : HandOk A s.heap := by
  rcases C.A.hand with q | ⟨_, e, o, vs, h1, h2, h3, _, h4⟩
  · exact .inl q
  · obtain ⟨sl, h5, _⟩ := S.hid e o h2
    exact .inr ⟨e, _, vs, h1, h5, h3, h4⟩

section
variable {prog : Program} {w : World} {A : Around} {E : Value → Shared → Prop} {s : Shared}

theorem entry_unchain : entryFor table "proto.unchain" = some Builtin.«proto.unchain» := entryFor_of_tree (by kernel_rfl)

/-- a new exception is raised -/
theorem raise_new {α : Type} {a : Addr} {o : Obj} {vs : Array Value} {Q : α → Shared → Prop} (ho : s.heap.get? a = some o) (hd : o.data = .fields vs) (hz : 2 < vs.size) (hh : HandOk A s.heap) (hne : A.handled ≠ some (.ref a))
    (h : ∀ h', Heap.SameBut a s.heap h' → (∃ o', h'.get? a = some o' ∧ o'.cls = o.cls ∧ ∃ u, o'.data = .fields (vs.setIfInBounds 2 u) ∨ o' = o) → E (.ref a) { s with heap := h' }) :
    wpAny (model prog w) A (raiseNew (.ref a) : Sem α) Q E s := by
  unfold raiseNew
  refine wpAny_bind (wpAny_handled ?_)
  rcases hh with hh | ⟨e, oe, ws, hh, he, hde, hc⟩
  · rw [hh]
    exact wpAny_bind (wpAny_pure (wpAny_throw (h s.heap (.refl ..) ⟨o, ho, rfl, .none, .inr rfl⟩)))
  · rw [hh]
    have ne : e ≠ a := fun q => hne (by rw [hh, q])
    dsimp only
    have hb : (Value.ref e != Value.ref a) = true := by simp [ne]
    rw [if_pos hb]
    refine wpAny_bind (wpAny_holding (wpAny_runValue (codeAny_builtin entry_unchain ?_)))
    show wpAny _ _ (field (.ref e) 2 >>= _) _ _ s
    refine wpAny_bind (wpAny_field he hde hc ?_)
    rw [if_pos (by rfl)]
    refine wpAny_pure ?_
    have : wpAny (model prog w) A (setField (.ref a) 2 (.ref e)) (fun _ s' => wpAny (model prog w) A (throw (Value.ref a) : Sem α) Q E s') E s := by
      refine wpAny_setField ho hd hz ?_
      have hd₃ := Obj.data_mapFields hd (·.setIfInBounds 2 (Value.ref e))
      exact wpAny_throw (h _ (Heap.SameBut.update ..) ⟨_, Heap.get?_update_self _ ho (Obj.isFreed_of_fields hd₃), Obj.cls_mapFields _ _, .ref e, .inl hd₃⟩)
    exact wpAny_bind this

/-- a list's end, under a handler too -/
theorem list_end {it l : Addr} {i : Nat} {items : Array Value} {Q : Option Value → Shared → Prop} (hh : HandOk A s.heap) (hit : s.heap.IsListIter it l i) (hne : A.handled ≠ some (.ref it)) (hl : s.heap.IsList l items) (hx : items[i]? = none)
    (hQ : ∀ h', Heap.ExtBut it s.heap h' → Q none { s with heap := h' }) : wpAny (model prog w) A (pyNext (.ref it)) Q E s := by
  obtain ⟨o, ho, hc, hd⟩ := id hit
  obtain ⟨ol, hol, _, nl, hdl⟩ := hl
  unfold pyNext
  refine wpAny_bind (wpAny_attempt (wpAny_callSpecial?_slot (name := Str.ofString "__next__") hit.typeIs slot_listiter_next (wpAny_call_entry slot_listiter_next hit.typeIs entry_listiter_next ?_ (args_listiter_next _))))
  show wpAny _ _ (field (.ref it) 0 >>= _) _ _ s
  refine wpAny_bind (wpAny_field ho hd (x := .ref l) rfl ?_)
  show wpAny _ _ (if (Value.ref l == Value.none) = true then _ else _) _ _ s
  rw [if_neg (show ¬ ((Value.ref l == Value.none) = true) from Bool.false_ne_true)]
  show wpAny _ _ (field (.ref it) 1 >>= _) _ _ s
  refine wpAny_bind (wpAny_field ho hd (x := .int i 0) rfl ?_)
  show wpAny _ _ (seqItems? (.ref l) >>= _) _ _ s
  refine wpAny_bind (wpAny_seqItems hol hdl ?_)
  simp only [Int.toNat_natCast, hx]
  refine wpAny_bind (wpAny_rule (wpAny_bind (wpAny_setField ho hd (by simp) ?_)))
  show wpAny _ _ (newExc (.type "StopIteration") [] >>= _) _ _ _
  refine wpAny_bind ?_
  simp only [newExc, newTuple]
  refine wpAny_bind (wpAny_newObj_type ?_ (by size_fits))
  refine wpAny_bind (m := firstArgMember _ _) (wpAny_of_eq (a := Value.none) (by first | rfl | (simp only [firstArgMember]; rfl)) ?_)
  refine wpAny_newObj_type ?_ (by size_fits)
  have keep : ∀ (o1 o2 : Obj) {b : Addr} {o' : Obj}, b ≠ it → s.heap.get? b = some o' → (((s.heap.update it (Obj.mapFields fun x => x.setIfInBounds 0 Value.none)).push o1).push o2).get? b = some o' := fun o1 o2 _ _ nb e =>
    Heap.get?_push_of_some _ (Heap.get?_push_of_some _ ((Heap.get?_update_other _ _ (Ne.symm nb)).trans e))
  have big : ∀ o1 : Obj, s.heap.objs.size < ((s.heap.update it (Obj.mapFields fun x => x.setIfInBounds 0 Value.none)).push o1).objs.size := fun o1 => by rw [Heap.size_push, Heap.size_update]; exact Nat.lt_succ_self _
  refine raise_new (Heap.get?_push_size _ rfl) rfl (by simp; (first | with_reducible assumption | with_reducible exact Nat.lt_of_lt_of_le (by assumption) (by decide) | omega)) ?_ ?_ fun h' hs ho' => ?_
  · rcases hh with hh | ⟨e, oe, ws, hh, he, hde, hcx⟩
    · exact .inl hh
    · exact .inr ⟨e, oe, ws, hh, keep _ _ (fun q => hne (by rw [hh, q])) he, hde, hcx⟩
  · intro z
    rcases hh with hh | ⟨e, oe, ws, hh, he, hde, hcx⟩
    · rw [show A.in1.handled = none from hh] at z; cases z
    · rw [show A.in1.handled = _ from hh] at z
      have := Option.some.inj z
      injection this with this
      have l1 := Heap.lt_size he
      have l2 := big { cls := .type "tuple", data := .seq ([] : List Value).toArray }
      rw [this] at l1
      exact Nat.lt_irrefl _ (Nat.lt_trans l1 l2)
  · obtain ⟨o', ho', hc', _⟩ := ho'
    refine wpAny_bind (wpAny_isInstance (T := "StopIteration") (b := true) ⟨o', ho', hc'⟩ isSubtype_stop ?_)
    refine wpAny_pure (hQ _ fun b o2 nb e => ?_)
    refine hs.extBut b o2 (fun q => ?_) (keep _ _ nb e)
    have l1 := Heap.lt_size e
    have l2 := big { cls := .type "tuple", data := .seq ([] : List Value).toArray }
    rw [q] at l1
    exact Nat.lt_irrefl _ (Nat.lt_trans l1 l2)
end
end Mine
set_option maxRecDepth 100000
namespace Mine
open PySem PyProof.Rows

variable {G : PG}

theorem Rel.moved {H : Hid} {N : List Addr} {h h' : Heap} {v : AV} {u : Value} (r : Rel H h v u) (hH : ∀ b ∈ N, H b ≠ none) (k : ∀ b o, b ∉ N → h.get? b = some o → h'.get? b = some o) (t : There N h) (t' : There N h') : Rel (hidN H N h') h' v u := by
  refine (r.dom (H' := hidN H N h') fun a items _ q => ?_).grow ⟨fun a items z ⟨o, ho, r⟩ => ⟨o, k a o (fun q => ?_) ho, r⟩, fun a o vs C e c d => ⟨o, vs, k a o (fun q => ?_) e, .rfl, d⟩⟩
  · rw [hidN_ne fun z => hH a z q]; exact q
  · obtain ⟨o', h1, _⟩ := t' a q
    rw [hidN_of q, h1] at z; cases z
  · obtain ⟨o', h1, h2⟩ := t a q
    rw [e] at h1; cases h1; exact h2 C vs c d


theorem isListIter_there {h : Heap} {it l : Addr} {k : Nat} (j : h.IsListIter it l k) : ∃ o, h.get? it = some o ∧ (∀ es n, o.data ≠ .dict es n) ∧ ∀ C, o.cls ≠ .ref C := by
  obtain ⟨o, h1, h2, h3⟩ := j
  exact ⟨o, h1, by simp [h3], by simp [h2]⟩
theorem There.of {N : List Addr} {h : Heap} (q : ∀ b ∈ N, ∃ o, h.get? b = some o ∧ (∀ es n, o.data ≠ .dict es n) ∧ ∀ C, o.cls ≠ .ref C) : There N h := fun b hb => let ⟨o, h1, _, h2⟩ := q b hb; ⟨o, h1, fun C _ e => absurd e (h2 C)⟩

theorem mem1 {a b : Addr} (h : b ∈ [a]) : b = a := by simpa using h
theorem notMem1 {a b : Addr} (h : b ∉ [a]) : b ≠ a := by simpa using h

theorem itr_list (G : PG) (n : Nat) (l it : Addr) : Itr G n (.lst l) it [it] (fun k h => h.IsListIter it l k) where
  mem := .head _
  self := fun j q => wpAny_pyIter_listiter j q
  frame := fun k h h' j q => j.at fun o e => q it (by simp) o e
  there := fun k h j b hb => by obtain rfl := mem1 hb; exact isListIter_there j
  next := fun {B H A env ρ σ s k vs v target Q E Q'} C S j hH hs hv hT h1 h2 => by
    have hq : lstOf σ l = some vs := hs
    · skip
      obtain ⟨items, m, ho, rl⟩ := S.listAt hq
      obtain ⟨u, hu, ru⟩ := rl.get k hv
      obtain ⟨x, p, rfl⟩ : okName target := hT
      have t : There [it] s.heap := .of fun b hb => by obtain rfl := mem1 hb; exact isListIter_there j
      refine wpAny_pyNext_list_item j (isList_of ho) (x := u) (by simpa using hu) fun h' hit' hs' => ?_
      have kk : ∀ b o, b ∉ [it] → s.heap.get? b = some o → h'.get? b = some o := fun b o hb e => hs'.extBut b o (notMem1 hb) e
      have t' : There [it] h' := .of fun b hb => by obtain rfl := mem1 hb; exact isListIter_there hit'
      exact h1 u h' s.toks kk (wpAny_pure (h2 u h' s.toks kk hit' (ru.moved hH kk t t')))
  nextN := fun {B H A env ρ σ s k vs v Q E} _ C S j hH hs hv h1 => by
    have hq : lstOf σ l = some vs := hs
    · skip
      obtain ⟨items, m, ho, rl⟩ := S.listAt hq
      obtain ⟨u, hu, ru⟩ := rl.get k hv
      have t : There [it] s.heap := .of fun b hb => by obtain rfl := mem1 hb; exact isListIter_there j
      refine wpAny_pyNext_list_item j (isList_of ho) (x := u) (by simpa using hu) fun h' hit' hs' => ?_
      have kk : ∀ b o, b ∉ [it] → s.heap.get? b = some o → h'.get? b = some o := fun b o hb e => hs'.extBut b o (notMem1 hb) e
      have t' : There [it] h' := .of fun b hb => by obtain rfl := mem1 hb; exact isListIter_there hit'
      exact h1 u h' s.toks kk hit' (ru.moved hH kk t t')
  done := fun {B H A env ρ σ s vs Q E} C S j hs h1 => by
    have hq : lstOf σ l = some vs := hs
    · skip
      obtain ⟨items, m, ho, rl⟩ := S.listAt hq
      have hz : items.size = vs.length := by rw [← Array.length_toList, rl.length]
      refine list_end (C.handOk S) j (fun z => ?_) (isList_of ho) (by simp [hz]) fun h' he => h1 h' s.toks fun b o hb e => he b o (notMem1 hb) e
      rcases C.A.hand with q | ⟨_, e, o, ws, g1, g2, g3, g4, _⟩
      · rw [q] at z; cases z
      · rw [g1] at z; injection z with z; injection z with z; subst z
        obtain ⟨sl, g5, _⟩ := S.hid e o g2
        obtain ⟨o', g6, _, g7⟩ := j
        rw [g5] at g6; cases g6
        rw [show _ = _ from g3] at g7; injection g7 with g7; rw [g7] at g4; simp at g4

theorem rangeL_get {a b c : Int} {k : Nat} {v : AV} (h : (rangeL a b c)[k]? = some v) : v = .int (a + k * c) ∧ k < (Builtin.Range.rangeSize a b c).toNat := by
  unfold rangeL at h
  rw [List.getElem?_map] at h
  obtain ⟨i, e1, e2⟩ := Option.map_eq_some_iff.mp h
  rw [List.getElem?_eq_some_iff] at e1
  obtain ⟨hlt, e3⟩ := e1
  simp at e3
  rw [List.length_range] at hlt
  subst e3; exact ⟨e2.symm, hlt⟩

theorem itr_range (G : PG) (n : Nat) (hn : 10 ≤ n) (a b c : Int) (it : Addr) : Itr G n (.vals (rangeL a b c)) it [it] (fun k h => IsRangeIter h it (a + (k : Nat) * c) (((Builtin.Range.rangeSize a b c).toNat : Int) - (k : Nat)) c) where
  mem := .head _
  self := fun j q => wpAny_pyIter_rangeiter j q
  frame := fun k h h' j q => q it (by simp) _ j
  there := fun k h j b hb => by obtain rfl := mem1 hb; exact ⟨_, j, by simp, by simp⟩
  next := fun {B H A env ρ σ s k vs v target Q E Q'} C S j hH hs hv hT h1 h2 => by
    simp only [Src.items] at hs; cases hs
    obtain ⟨rfl, hlt⟩ := rangeL_get hv
    obtain ⟨x, p, rfl⟩ : okName target := hT
    refine wpAny_pyNext_range_item j (by first | decide | (with_reducible first | exact lv hn | exact lv1 hn | exact lv2 hn | exact Int.natCast_nonneg _) | omega) fun h' hit' hs' => ?_
    have kk : ∀ b o, b ∉ [it] → s.heap.get? b = some o → h'.get? b = some o := fun b o hb e => hs'.extBut b o (notMem1 hb) e
    refine h1 _ h' _ kk (wpAny_pure (h2 _ h' _ kk ?_ (by simp [Rel])))
    have e1 : a + ((k + 1 : Nat) : Int) * c = a + (k : Int) * c + c := by push_cast; rw [Int.add_mul, Int.one_mul, Int.add_assoc]
    dsimp only
    rw [e1, show ((Builtin.Range.rangeSize a b c).toNat : Int) - ((k + 1 : Nat) : Int) = ((Builtin.Range.rangeSize a b c).toNat : Int) - (k : Int) - 1 by omega]
    exact hit'
  nextN := fun {B H A env ρ σ s k vs v Q E} _ C S j hH hs hv h1 => by
    simp only [Src.items] at hs; cases hs
    obtain ⟨rfl, hlt⟩ := rangeL_get hv
    refine wpAny_pyNext_range_item j (by first | decide | (with_reducible first | exact lv hn | exact lv1 hn | exact lv2 hn | exact Int.natCast_nonneg _) | omega) fun h' hit' hs' => ?_
    have kk : ∀ b o, b ∉ [it] → s.heap.get? b = some o → h'.get? b = some o := fun b o hb e => hs'.extBut b o (notMem1 hb) e
    refine h1 _ h' _ kk ?_ (by simp [Rel])
    have e1 : a + ((k + 1 : Nat) : Int) * c = a + (k : Int) * c + c := by push_cast; rw [Int.add_mul, Int.one_mul, Int.add_assoc]
    dsimp only
    rw [e1, show ((Builtin.Range.rangeSize a b c).toNat : Int) - ((k + 1 : Nat) : Int) = ((Builtin.Range.rangeSize a b c).toNat : Int) - (k : Int) - 1 by omega]
    exact hit'
  done := fun {B H A env ρ σ s vs Q E} C S j hs h1 => by
    simp only [Src.items] at hs; cases hs
    refine wpAny_pyNext_range_end (hand_none C hn) j (by simp [rangeL]) fun h' he => h1 h' s.toks fun b o hb e => he b o (notMem1 hb) e

end Mine
set_option maxRecDepth 100000
namespace Mine
open PySem PyProof.Rows

variable {G : PG}
section
variable {B : Heap} {H : Hid} {A : Around} {env : Env} {n : Nat} {ρ : Loc} {σ : Sto} {s s₁ : Shared} {N : List Addr} {Ψ : PX} {Φ : PS}

/-- an exception through a loop of the frame's own -/
theorem own_back {e : Value} {s' : Shared} (C : Cx G B H A env n) (F : FrameOk B H env) (q : QX G B H env Ψ s e s') : notedBy G.M A env (cameBackBy G.M A env (QX G B H env Ψ s)) e s' := by
  obtain ⟨ea, cls, ρ', σ', rfl, f, S, st, p⟩ := q
  unfold notedBy
  have key : ∀ s₂, St G B H env ρ' σ' s₂ → FliesT B H σ' s₂.heap ea cls → Step H s' s₂ → cameBackBy G.M A env (QX G B H env Ψ s) (.ref ea) s₂ := fun s₂ S₂ f₂ st₂ => by
    unfold cameBackBy
    obtain ⟨new, ncls, oe, vs, he, hc, hd, hsz, T, h1, rest⟩ := id f₂
    refine wpAny_bind (wpAny_field he hd h1 ?_)
    rw [if_neg (show ¬ ((Value.ref T == Value.none) = true) from Bool.false_ne_true)]
    exact set_flight S₂ f₂ fun s₃ S₃ f₃ st₃ => ⟨ea, cls, ρ', σ', rfl, f₃.flies, S₃, (st.trans st₂).trans st₃, p⟩
  exact note_frame C.A F S f fun s₂ S₂ f₂ st₂ => key s₂ S₂ f₂ st₂
theorem QX.unhide {h : Heap} {e : Value} {s' s₂ : Shared} (q : NOk B H env N) (t : There N h) (f : ∀ b ∈ N, s.heap.objs.size ≤ b) (st : Step H s s₂) (x : QX G B (hidN H N h) env Ψ s₂ e s') : QX G B H env Ψ s e s' := by
  obtain ⟨ea, cls, ρ', σ', rfl, fl, S, st', p⟩ := x
  exact ⟨ea, cls, ρ', σ', rfl, fl.unhide q t, S.unhide q t, st.over f st', p⟩
theorem loop_ok {src : Src} {it : Addr} {J : Nat → Heap → Prop} {target : Expr} {body : List Stmt} {bind : AV → Loc → Option Loc} {bodyT : TS}
    (I0 : Itr G n src it N J) (hT : okFor src target)
    (hbind : ∀ {H : Hid} {s : Shared} {v : AV} {u : Value} {ρ ρ' : Loc} {σ : Sto} {Q : Unit → Shared → Prop} {E : Value → Shared → Prop}, Cx G B H A env n → FrameOk B H env → St G B H env ρ σ s → Rel H s.heap v u → bind v ρ = some ρ' →
      (∀ s', St G B H env ρ' σ s' → Step H s s' → Q () s') → wpAny G.M A (assign target env u) Q E s)
    (hbody : ∀ ρ σ Φ Ψ, bodyT ρ σ Φ Ψ → WS G n env (execs body env) ρ σ Φ Ψ)
    (C : Cx G B H A env n) (F : FrameOk B H env) (S : St G B H env ρ σ s) (k : ∀ b o, s.heap.get? b = some o → s₁.heap.get? b = some o) (st : Step H s s₁) (fN : ∀ b ∈ N, s.heap.objs.size ≤ b) (j : J 0 s₁.heap)
    (p : loopV src bind bodyT ρ σ Φ Ψ) :
    codeAny G.M A (.forLoop target (.ref it) body [] env) (fun r s' => match r with
      | .ok f => ∃ fl ρ' σ', RelF H s'.heap fl f ∧ St G B H env ρ' σ' s' ∧ Step H s s' ∧ Φ fl ρ' σ'
      | .error e => cameBackBy G.M A env (QX G B H env Ψ s) e s') s₁ := by
  obtain ⟨vs, hvs, I, i0, iv, turn, fin⟩ := p
  obtain ⟨S₁, q⟩ := S.hide k fN
  have err : ∀ {h : Heap} {s₂ : Shared}, There N h → Step H s s₂ → ∀ e s', QX G B (hidN H N h) env Ψ s₂ e s' → notedBy G.M A env (cameBackBy G.M A env (QX G B H env Ψ s)) e s' := fun t st e s' x => own_back C F (x.unhide q t fN st)
  refine codeAny_forLoop_any (fun m s' => ∃ i ρ σ, i ≤ vs.length ∧ m = vs.length - i ∧ I (vs.drop i) ρ σ ∧ St G B (hidN H N s'.heap) env ρ σ s' ∧ J i s'.heap ∧ Step H s s') ?_ vs.length ⟨0, ρ, σ, Nat.zero_le _, rfl, i0, S₁, j, st⟩
  rintro m s' ⟨i, ρ', σ', hi, rfl, hI, S', j', st'⟩
  have t' : There N s'.heap := .of (I0.there i _ j')
  have hH : ∀ b ∈ N, hidN H N s'.heap b ≠ none := fun b hb => by
    obtain ⟨o, ho, _⟩ := t' b hb
    rw [hidN_of hb, ho]; simp
  by_cases hlt : i < vs.length
  · have hd : vs.drop i = vs[i] :: vs.drop (i + 1) := List.drop_eq_getElem_cons hlt
    rw [hd] at hI
    obtain ⟨ρ₃, hb, hbd⟩ := turn _ _ _ _ hI
    refine I0.next (C.hidN q) S' j' hH (iv _ _ _ hI) (List.getElem?_eq_getElem hlt) hT (Q' := fun u _ s₁' => wpAny G.M A (assign target env u) (fun _ s₂ => wpAny G.M A (execs body env) _ _ s₂) _ s₁') (fun u h' tk kk w => w) fun u h' tk kk jn r => ?_
    rw [hidN_hidN] at r
    have tn : There N h' := .of (I0.there _ _ jn)
    obtain ⟨S₂, g₂, _⟩ := St.turn (s₁ := { s' with heap := h', toks := tk }) q t' S' kk tn t'
    have st₂ : Step H s { s' with heap := h', toks := tk } := st'.over fN ⟨g₂, rfl, rfl⟩
    refine hbind (C.hidN q) (F.hidN q) S₂ r hb fun s₃ S₃ st₃ => ?_
    have st₃' : Step H s s₃ := st₂.over fN st₃
    refine wpAny_mono (hbody _ _ _ _ hbd B _ A s₃ C.T (F.hidN q) (C.hidN q).A S₃) (fun f s₄ hf => ?_) fun e s₄ x => err tn st₃' e s₄ x
    obtain ⟨fl, ρ₄, σ₄, rf, S₄, st₄, p₄⟩ := hf
    have st₄' : Step H s s₄ := st₃'.over fN st₄
    have j₄ : J (i + 1) s₄.heap := I0.frame _ _ _ jn fun b hb o e => by
      obtain ⟨o', e', nd, _⟩ := I0.there _ _ jn b hb
      rw [e] at e'; cases e'
      exact after_at S₄ hb e nd
    cases fl with
    | next => obtain rfl : f = .next := rf; exact ⟨vs.length - (i + 1), (by first | decide | (with_reducible first | exact lv hn | exact lv1 hn | exact lv2 hn | exact Int.natCast_nonneg _) | omega), i + 1, ρ₄, σ₄, hlt, rfl, p₄, S₄.fresh_hidN q tn, j₄, st₄'⟩
    | cont => obtain rfl : f = .cont := rf; exact ⟨vs.length - (i + 1), (by first | decide | (with_reducible first | exact lv hn | exact lv1 hn | exact lv2 hn | exact Int.natCast_nonneg _) | omega), i + 1, ρ₄, σ₄, hlt, rfl, p₄, S₄.fresh_hidN q tn, j₄, st₄'⟩
    | brk => obtain rfl : f = .brk := rf; exact ⟨.next, ρ₄, σ₄, rfl, S₄.unhide q tn, st₄', p₄⟩
    | ret a =>
      obtain ⟨v, rfl, ra⟩ := rf
      exact ⟨.ret a, ρ₄, σ₄, ⟨v, rfl, ra.dom fun b items _ z => ((hidN_some q tn).mp z).2⟩, S₄.unhide q tn, st₄', p₄⟩
  · have hie : i = vs.length := by omega
    subst hie
    rw [List.drop_length] at hI
    refine I0.done (C.hidN q) S' j' (iv _ _ _ hI) fun h' tk kk => ?_
    obtain ⟨S₂, g₂⟩ := St.leave (s₁ := { s' with heap := h', toks := tk }) q t' S' kk t'
    exact wpAny_pure ⟨.next, ρ', σ', rfl, S₂, st'.over fN ⟨g₂, rfl, rfl⟩, fin _ _ hI⟩

theorem while_ok {test : Expr} {body : List Stmt} {c : Tr} {bodyT : TS}
    (hc : ∀ ρ σ Φ Ψ, c.t ρ σ Φ Ψ → WB G n env (isTrue test env (eval test env)) ρ σ Φ (fun cl ρ' σ' => ρ' = ρ ∧ Ψ cl σ'))
    (hbody : ∀ ρ σ Φ Ψ, bodyT ρ σ Φ Ψ → WS G n env (execs body env) ρ σ Φ Ψ)
    (C : Cx G B H A env n) (F : FrameOk B H env) (S : St G B H env ρ σ s) (p : whileV c bodyT ρ σ Φ Ψ) :
    codeAny G.M A (.whileLoop test body [] env) (fun r s' => match r with
      | .ok f => ∃ fl ρ' σ', RelF H s'.heap fl f ∧ St G B H env ρ' σ' s' ∧ Step H s s' ∧ Φ fl ρ' σ'
      | .error e => cameBackBy G.M A env (QX G B H env Ψ s) e s') s := by
  obtain ⟨I, ⟨k0, i0⟩, turn⟩ := p
  refine codeAny_whileLoop (fun m s' => ∃ ρ σ, I m ρ σ ∧ St G B H env ρ σ s' ∧ Step H s s') ?_ k0 ⟨ρ, σ, i0, S, .refl _ _⟩
  rintro m s' ⟨ρ', σ', hI, S', st'⟩
  have err : ∀ {s₂ : Shared}, Step H s s₂ → ∀ e s', QX G B H env Ψ s₂ e s' → notedBy G.M A env (cameBackBy G.M A env (QX G B H env Ψ s)) e s' := fun st e s' x => own_back C F (x.step st)
  refine wpAny_mono (hc _ _ _ _ (turn _ _ _ hI) B H A s' C.T C.E C.A S') (fun b s₂ hb => ?_) fun e s₂ x => ?_
  · obtain ⟨σ₂, S₂, st₂, p₂⟩ := hb
    have st₂' := st'.trans st₂
    cases b with
    | false => exact wpAny_pure ⟨.next, _, _, rfl, S₂, st₂', p₂⟩
    | true =>
      simp only [if_true] at p₂ ⊢
      refine wpAny_mono (hbody _ _ _ _ p₂ B H A s₂ C.T F C.A S₂) (fun f s₃ hf => ?_) fun e s₃ x => err st₂' e s₃ x
      obtain ⟨fl, ρ₄, σ₄, rf, S₄, st₄, p₄⟩ := hf
      cases fl with
      | next => obtain rfl : f = .next := rf; obtain ⟨k', hk, p₄⟩ := p₄; exact ⟨k', hk, ρ₄, σ₄, p₄, S₄, st₂'.trans st₄⟩
      | cont => obtain rfl : f = .cont := rf; obtain ⟨k', hk, p₄⟩ := p₄; exact ⟨k', hk, ρ₄, σ₄, p₄, S₄, st₂'.trans st₄⟩
      | brk => obtain rfl : f = .brk := rf; exact ⟨.next, ρ₄, σ₄, rfl, S₄, st₂'.trans st₄, p₄⟩
      | ret a => obtain ⟨v, rfl, ra⟩ := rf; exact ⟨.ret a, ρ₄, σ₄, ⟨v, rfl, ra⟩, S₄, st₂'.trans st₄, p₄⟩
  · refine err st' e s₂ ?_
    obtain ⟨ea, cls, ρ₂, σ₂, rfl, f, S₂, st₂, rfl, p₂⟩ := x
    exact ⟨ea, cls, _, σ₂, rfl, f, S₂, st₂, p₂⟩
end
end Mine
set_option maxRecDepth 100000
namespace Mine
open PySem PyProof.Rows

variable {G : PG}
section
variable {B : Heap} {H : Hid} {A : Around} {env : Env} {n : Nat} {ρ : Loc} {σ : Sto} {s s₁ : Shared} {N : List Addr} {Ψ : PX} {Φ : PS} {Q : Unit → Shared → Prop} {E : Value → Shared → Prop}

theorem Pairwise.of_mem {α : Type} {R : α → α → Prop} (sy : ∀ a b, R a b → R b a) : ∀ {l : List α} {x y : α}, l.Pairwise R → x ∈ l → y ∈ l → x ≠ y → R x y
  | z :: r, x, y, h, hx, hy, ne => by
    obtain ⟨h1, h2⟩ := List.pairwise_cons.mp h
    rcases List.mem_cons.mp hx with e | hx'
    · rcases List.mem_cons.mp hy with e' | hy'
      · exact absurd (e.trans e'.symm) ne
      · exact e ▸ h1 y hy'
    · rcases List.mem_cons.mp hy with e' | hy'
      · exact sy _ _ (e' ▸ h1 x hx')
      · exact Pairwise.of_mem sy h2 hx' hy' ne

/-- a local name is bound -/
theorem store_local {x : Str} {a : AV} {v : Value} (E0 : EnvOk B H env) (hk : env.kindOf x = some .local) (S : St G B H env ρ σ s) (r : Rel H s.heap a v)
    (h : ∀ s', St G B H env (putA x a ρ) σ s' → Step H s s' → Q () s') : wpAny G.M A (storeName env x v) Q E s := by
  obtain ⟨m, hn, hm⟩ := S.frame.ns
  refine wpAny_storeName_local hk hn (fun h' hn' hs' => ?_) (by rw [E0.kind]; rfl)
  have kk : ∀ b o, b ≠ env.locals → s.heap.get? b = some o → h'.get? b = some o := fun b o nb e => hs'.extBut b o nb e
  have g : Grow H s.heap h' := by
    obtain ⟨o, es, ep, ho, hd, _⟩ := hn
    exact .of_keepBut kk (fun items ⟨o', ho', _, _, hd'⟩ => by rw [ho] at ho'; cases ho'; rw [hd] at hd'; cases hd') fun o' vs ho' hd' => by rw [ho] at ho'; cases ho'; rw [hd] at hd'; cases hd'
  refine h { s with heap := h', toks := s.toks + 1 } ⟨fun b o e => kk b o (fun z => by rw [z, E0.loc.1] at e; cases e) (S.keep b o e), fun b o e => ?_, ⟨⟨_, hn', fun y hy hz => ?_⟩, fun y hy => ?_, fun y hy => ?_⟩, fun b c e => ?_, S.root, S.low⟩ ⟨g, rfl, rfl⟩
  · obtain ⟨sl, e1, e2⟩ := S.hid b o e
    exact ⟨sl, kk b _ (fun z => by rw [z, E0.loc.2] at e; cases e) e1, e2⟩
  · rw [putA_lookup]
    by_cases q : y = x
    · rw [if_pos q, if_pos q]; exact r.grow g
    · rw [if_neg q, if_neg q]; exact (hm y hy hz).grow g
  · obtain ⟨c, u, e1, ⟨o, ho, hd⟩, e3⟩ := S.frame.cells y hy
    refine ⟨c, u, e1, ⟨o, kk c o (E0.apart _ (mem_of_lookup e1)) ho, hd⟩, ?_⟩
    rw [putA_lookup, if_neg]
    · exact e3.grow g
    · intro q; subst q; rcases hy with q | q <;> rw [hk] at q <;> cases q
  · obtain ⟨u, o, ho, hd⟩ := S.frame.there y hy
    exact ⟨u, o, kk _ o (E0.apart _ hy) ho, hd⟩
  · obtain ⟨q1, q2, q3, q4, q5⟩ := S.store b c e
    exact ⟨q1.keep (fun o e => kk b o q4 e) g, q2, q3, q4, q5⟩

/-- a captured name is bound -/
theorem store_cell {x : Str} {a : AV} {v : Value} (F : FrameOk B H env) (hk : env.kindOf x = some .cell) (S : St G B H env ρ σ s) (r : Rel H s.heap a v)
    (h : ∀ s', St G B H env (putA x a ρ) σ s' → Step H s s' → Q () s') : wpAny G.M A (storeName env x v) Q E s := by
  obtain ⟨c, u, e1, e2, e3⟩ := S.frame.cells x (.inl hk)
  have hmem := mem_of_lookup e1
  refine wpAny_storeName_cell F.kind hk e1 e2 fun h' hc' hs' => ?_
  have kk : ∀ b o, b ≠ c → s.heap.get? b = some o → h'.get? b = some o := fun b o nb e => hs'.extBut b o nb e
  have g : Grow H s.heap h' := by
    obtain ⟨o, ho, hd⟩ := e2
    exact .of_keepBut kk (fun items ⟨o', ho', _, _, hd'⟩ => by rw [ho] at ho'; cases ho'; rw [hd] at hd'; cases hd') fun o' vs ho' hd' => by rw [ho] at ho'; cases ho'; rw [hd] at hd'; cases hd'
  have hL : env.locals ≠ c := fun z => F.apart _ hmem z.symm
  refine h { s with heap := h' } ⟨fun b o e => kk b o (fun z => by rw [z, (F.own _ hmem).1] at e; cases e) (S.keep b o e), fun b o e => ?_, ⟨?_, fun y hy => ?_, fun y hy => ?_⟩, fun b c' e => ?_, S.root, S.low⟩ ⟨g, rfl, rfl⟩
  · obtain ⟨sl, e1, e2⟩ := S.hid b o e
    exact ⟨sl, kk b _ (fun z => by rw [z, (F.own _ hmem).2] at e; cases e) e1, e2⟩
  · obtain ⟨m, ⟨o, es, ep, ho, hr⟩, hm⟩ := S.frame.ns
    refine ⟨m, ⟨o, es, ep, kk _ o hL ho, hr⟩, fun y hy hz => ?_⟩
    rw [putA_lookup, if_neg]
    · exact (hm y hy hz).grow g
    · intro q; subst q; rw [hk] at hy; cases hy
  · obtain ⟨c2, u2, g1, ⟨o, ho, hd⟩, g3⟩ := S.frame.cells y hy
    by_cases q : y = x
    · subst q
      rw [e1] at g1; cases g1
      exact ⟨c, some v, e1, hc', by rw [putA_lookup, if_pos rfl]; exact r.grow g⟩
    · have ne : c2 ≠ c := Pairwise.of_mem (R := fun (a b : Str × Addr) => a.2 ≠ b.2) (fun _ _ z => z.symm) F.nodup (mem_of_lookup g1) hmem (fun z => q (congrArg Prod.fst z))
      exact ⟨c2, u2, g1, ⟨o, kk _ o ne ho, hd⟩, by rw [putA_lookup, if_neg q]; exact g3.grow g⟩
  · obtain ⟨u2, o, ho, hd⟩ := S.frame.there y hy
    by_cases q : y.2 = c
    · rw [q]; exact ⟨some v, hc'⟩
    · exact ⟨u2, o, kk _ o q ho, hd⟩
  · obtain ⟨q1, q2, q3, q4, q5⟩ := S.store b c' e
    exact ⟨q1.keep (fun o e => kk b o (fun z => q5 _ hmem z.symm) e) g, q2, q3, q4, q5⟩

noncomputable def isLoc (sc : Scope) (x : Str) : Prop := sc.names.lookup x = some .local ∨ sc.names.lookup x = some .cell
theorem store_ok {x : Str} {a : AV} {v : Value} (F : FrameOk B H env) (hk : isLoc env.scope x) (S : St G B H env ρ σ s) (r : Rel H s.heap a v)
    (h : ∀ s', St G B H env (putA x a ρ) σ s' → Step H s s' → Q () s') : wpAny G.M A (storeName env x v) Q E s := by
  rcases hk with hk | hk
  · exact store_local F.toEnvOk hk S r h
  · exact store_cell F hk S r h
theorem assign_name_ok {x : Str} {px : Pos} {a : AV} {v : Value} (F : FrameOk B H env) (hk : isLoc env.scope x) (S : St G B H env ρ σ s) (r : Rel H s.heap a v)
    (h : ∀ s', St G B H env (putA x a ρ) σ s' → Step H s s' → Q () s') : wpAny G.M A (assign (.Name x px) env v) Q E s :=
  wpAny_assign_Name (store_ok F hk S r h)

end
end Mine
set_option maxRecDepth 100000
namespace Mine
open PySem PyProof.Rows

variable {G : PG}

/-- the names that a comprehension captures -/
noncomputable def clOf (env : Env) : List (Str × NameKind) → List (Str × Addr) → List (Str × Addr)
  | [], acc => acc
  | (n, k) :: r, acc => if k == .free then (match env.cells.lookup n with | some c => clOf env r ((n, c) :: acc) | none => clOf env r acc) else clOf env r acc

theorem closure_go (env : Env) : ∀ (names : List (Str × NameKind)) (acc : List (Str × Addr)), (∀ y ∈ names, y.2 = .free → ∃ c, env.cells.lookup y.1 = some c) →
    (forIn names acc fun (p : Str × NameKind) (cs : List (Str × Addr)) => (if p.2 == NameKind.free then do let a ← cellOf env p.1; pure (ForInStep.yield ((p.1, a) :: cs)) else pure (ForInStep.yield cs) : Sem _)) = pure (clOf env names acc)
  | [], acc, _ => by simp [clOf]
  | (n, k) :: r, acc, h => by
    rw [List.forIn_cons]
    unfold clOf
    by_cases q : (k == NameKind.free) = true
    · obtain ⟨c, hc⟩ := h (n, k) (by simp) (by simpa using q)
      simp only [q, if_true, cellOf, hc, pure_bind]
      exact closure_go env r _ fun y hy => h y (by simp [hy])
    · simp only [q, if_false, pure_bind]
      exact closure_go env r _ fun y hy => h y (by simp [hy])
theorem closureFor_cl {cs : Scope} {env : Env} (h : ∀ y ∈ cs.names, y.2 = .free → ∃ c, env.cells.lookup y.1 = some c) : closureFor cs env = pure (clOf env cs.names []) := by
  have := closure_go env cs.names [] h
  unfold closureFor
  first
    | (rw [this]; rfl)
    | (simp only [pure_bind] at this ⊢; rw [← this]; rfl)
    | (rw [← this]; simp)
theorem clOf_sound (env : Env) : ∀ (names : List (Str × NameKind)) (acc : List (Str × Addr)), (∀ y ∈ acc, env.cells.lookup y.1 = some y.2) → ∀ y ∈ clOf env names acc, env.cells.lookup y.1 = some y.2
  | [], acc, h, y, hy => h y hy
  | (n, k) :: r, acc, h, y, hy => by
    unfold clOf at hy
    split at hy
    · split at hy
      · rename_i c hc
        exact clOf_sound env r _ (fun z hz => by rcases List.mem_cons.mp hz with rfl | hz; exact hc; exact h z hz) y hy
      · exact clOf_sound env r _ h y hy
    · exact clOf_sound env r _ h y hy
theorem clOf_some (env : Env) {n : Str} {c : Addr} (hc : env.cells.lookup n = some c) : ∀ (names : List (Str × NameKind)) (acc : List (Str × Addr)), (∀ y ∈ acc, env.cells.lookup y.1 = some y.2) → (n, NameKind.free) ∈ names ∨ acc.lookup n = some c → (clOf env names acc).lookup n = some c
  | [], acc, h, q => q.elim (fun z => nomatch z) id
  | (m, k) :: r, acc, h, q => by
    unfold clOf
    split
    · rename_i hk
      split
      · rename_i d hd
        refine clOf_some env hc r _ (fun z hz => by rcases List.mem_cons.mp hz with rfl | hz; exact hd; exact h z hz) ?_
        by_cases e : n = m
        · subst e; rw [hc] at hd; cases hd
          exact .inr (by simp)
        · refine q.imp (fun z => ?_) fun z => ?_
          · rcases List.mem_cons.mp z with z | z
            · exact absurd (congrArg Prod.fst z) e
            · exact z
          · rw [List.lookup_cons, show (n == m) = false by simpa using e]; exact z
      · rename_i hd
        refine clOf_some env hc r _ h (q.imp (fun z => ?_) id)
        rcases List.mem_cons.mp z with z | z
        · rw [show m = n from (congrArg Prod.fst z).symm, hc] at hd; cases hd
        · exact z
    · rename_i hk
      refine clOf_some env hc r _ h (q.imp (fun z => ?_) id)
      rcases List.mem_cons.mp z with z | z
      · exact absurd (by rw [show k = .free from (congrArg Prod.snd z).symm]; rfl) hk
      · exact z

theorem clOf_free (env : Env) : ∀ (names : List (Str × NameKind)) (acc : List (Str × Addr)), ∀ y ∈ clOf env names acc, y ∈ acc ∨ (y.1, NameKind.free) ∈ names
  | [], acc, y, hy => .inl hy
  | (n, k) :: r, acc, y, hy => by
    unfold clOf at hy
    split at hy
    · rename_i hk
      split at hy
      · rcases clOf_free env r _ y hy with h | h
        · rcases List.mem_cons.mp h with rfl | h
          · exact .inr (by rw [show k = .free by simpa using hk]; simp)
          · exact .inl h
        · exact .inr (.tail _ h)
      · exact (clOf_free env r _ y hy).imp id (.tail _)
    · exact (clOf_free env r _ y hy).imp id (.tail _)

/-- the scope of a comprehension over x in a function's scope -/
structure CompScope (sc cs : Scope) (x : Str) : Prop where
  kind : cs.kind = .function
  nz : x ≠ ".0"
  cell : ∀ y ∈ cs.names, y.2 ≠ .cell
  loc : ∀ y ∈ cs.names, y.2 = .local → (y.1 = x ∨ y.1 = ".0") ∧ cs.names.lookup y.1 = some .local
  x : cs.names.lookup x = some .local
  free : ∀ y ∈ cs.names, y.2 = .free → sc.names.lookup y.1 = some .cell ∧ cs.names.lookup y.1 = some .free
noncomputable def relabelS (cs sc : Scope) : Scope := { cs with names := cs.names.map fun (n, k) => if (k == .free && sc.kind == .function && sc.names.lookup n == some .cell) then (n, .cell) else (n, k) }
theorem lookup_map_kind (f : Str → NameKind → NameKind) : ∀ (l : List (Str × NameKind)) (y : Str), (l.map fun (n, k) => (n, f n k)).lookup y = (l.lookup y).map (f y)
  | [], _ => rfl
  | (m, k) :: r, y => by
    rw [List.map_cons, List.lookup_cons, List.lookup_cons]
    cases q : y == m with
    | true => simp [beq_iff_eq.mp q]
    | false => exact lookup_map_kind f r y
theorem lookup_relabelS (cs sc : Scope) (y : Str) : (relabelS cs sc).names.lookup y = (cs.names.lookup y).map fun k => if (k == .free && sc.kind == .function && sc.names.lookup y == some .cell) then .cell else k := by
  unfold relabelS
  have := lookup_map_kind (fun n k => if (k == .free && sc.kind == .function && sc.names.lookup n == some .cell) then .cell else k) cs.names y
  rw [← this]
  show List.lookup y (List.map _ _) = List.lookup y (List.map _ _)
  congr 2
  funext p
  obtain ⟨n, k⟩ := p
  dsimp only
  split <;> rfl

section
variable {B : Heap} {H : Hid} {A : Around} {env : Env} {n : Nat} {ρ : Loc} {σ : Sto} {s s₁ : Shared} {N : List Addr} {Ψ : PX} {Φ : PS} {cs : Scope} {x : Str} {C : Addr}

open Classical in
noncomputable def hidC (H : Hid) (env : Env) (cl : List (Str × Addr)) (C : Addr) (h : Heap) : Hid := fun a =>
  if a = C then none else if a = env.locals ∨ (∃ y ∈ env.cells, y.2 = a ∧ ∀ z ∈ cl, z.2 ≠ a) then h.get? a else H a
theorem hidC_C {H : Hid} {cl : List (Str × Addr)} {h : Heap} : hidC H env cl C h C = none := if_pos rfl
theorem hidC_in {H : Hid} {cl : List (Str × Addr)} {h : Heap} {a : Addr} (ne : a ≠ C) (q : a = env.locals ∨ (∃ y ∈ env.cells, y.2 = a ∧ ∀ z ∈ cl, z.2 ≠ a)) : hidC H env cl C h a = h.get? a := by unfold hidC; rw [if_neg ne, if_pos q]
theorem hidC_out {H : Hid} {cl : List (Str × Addr)} {h : Heap} {a : Addr} (ne : a ≠ C) (q : ¬ (a = env.locals ∨ (∃ y ∈ env.cells, y.2 = a ∧ ∀ z ∈ cl, z.2 ≠ a))) : hidC H env cl C h a = H a := by unfold hidC; rw [if_neg ne, if_neg q]

theorem St.notTup_locals (S : St G B H env ρ σ s) {items : Array Value} : ¬ IsTup s.heap env.locals items := fun ⟨o, ho, _, _, hd⟩ => by
  obtain ⟨m, ⟨o', es, ep, ho', hd', _⟩, _⟩ := S.frame.ns
  rw [ho] at ho'; cases ho'; rw [hd] at hd'; cases hd'
theorem St.notTup_cell (S : St G B H env ρ σ s) {y : Str × Addr} (hy : y ∈ env.cells) {items : Array Value} : ¬ IsTup s.heap y.2 items := fun ⟨o, ho, _, _, hd⟩ => by
  obtain ⟨v, o', ho', hd'⟩ := S.frame.there y hy
  rw [ho] at ho'; cases ho'; rw [hd] at hd'; cases hd'

/-- into the comprehension's own frame -/
theorem St.inComp {v : AV} {u : Value} {m : Str → Option Value} (X : CompScope env.scope cs x) (q : NOk B H env N) (E0 : EnvOk B H env) (S : St G B (hidN H N s.heap) env ρ σ s) (hC : C ∈ N) (hCn : s.heap.Ns C m) (hx : m x = some u) (r : Rel (hidN H N s.heap) s.heap v u) :
    St G B (hidC (hidN H N s.heap) env (clOf env cs.names []) C s.heap) (compEnvC cs (clOf env cs.names []) C env) (putA x v ρ) σ s := by
  have sub : ∀ y ∈ clOf env cs.names [], env.cells.lookup y.1 = some y.2 := clOf_sound env _ _ fun _ h => nomatch h
  have hCsome : hidN H N s.heap C ≠ none := by obtain ⟨o, _, _, ho, _⟩ := hCn; rw [hidN_of hC, ho]; simp
  have hCL : env.locals ≠ C := fun z => q.loc (z ▸ hC)
  have hCc : ∀ y ∈ env.cells, y.2 ≠ C := fun y hy z => q.cells y hy (z ▸ hC)
  have d : ∀ a items, IsTup s.heap a items → hidN H N s.heap a = none → hidC (hidN H N s.heap) env (clOf env cs.names []) C s.heap a = none := fun a items t z => by
    have ne : a ≠ C := fun e => hCsome (e ▸ z)
    rw [hidC_out ne]
    · exact z
    · rintro (e | ⟨y, hy, e, _⟩)
      · subst e; exact S.notTup_locals t
      · subst e; exact S.notTup_cell hy t
  refine ⟨S.keep, fun a o e => ?_, ⟨⟨m, hCn, fun y hy hz => ?_⟩, fun y hy => ?_, fun y hy => S.frame.there (y.1, y.2) (mem_of_lookup (sub y hy))⟩, fun a c e => ?_, S.root, S.low⟩
  · by_cases e1 : a = C
    · subst e1; rw [hidC_C] at e; cases e
    · by_cases e2 : a = env.locals ∨ (∃ y ∈ env.cells, y.2 = a ∧ ∀ z ∈ clOf env cs.names [], z.2 ≠ a)
      · rw [hidC_in e1 e2] at e
        exact ⟨o.slots, e, fun _ => rfl⟩
      · rw [hidC_out e1 e2] at e
        exact S.hid a o e
  · have hy' : (relabelS cs env.scope).names.lookup y = some .local := hy
    rw [lookup_relabelS] at hy'
    cases e : cs.names.lookup y with
    | none => rw [e] at hy'; cases hy'
    | some k =>
      rw [e] at hy'
      simp only [Option.map_some, Option.some.injEq] at hy'
      have hk : k = .local := by
        split at hy'
        · cases hy'
        · exact hy'
      subst hk
      rcases (X.loc _ (mem_of_lookup e) rfl).1 with e1 | e1
      · obtain rfl : y = x := e1
        rw [putA_lookup, if_pos rfl, hx]; exact r.dom d
      · exact absurd e1 hz
  · have hy' : (relabelS cs env.scope).names.lookup y = some .cell ∨ (relabelS cs env.scope).names.lookup y = some .free := hy
    rw [lookup_relabelS] at hy'
    cases e : cs.names.lookup y with
    | none => rw [e] at hy'; rcases hy' with hy' | hy' <;> cases hy'
    | some k =>
      rw [e] at hy'
      simp only [Option.map_some, Option.some.injEq] at hy'
      have hk : k = .free := by
        cases k <;> simp at hy' ⊢
        exact X.cell _ (mem_of_lookup e) rfl
      subst hk
      have hkc := (X.free _ (mem_of_lookup e) rfl).1
      obtain ⟨c, v', e1, e2, e3⟩ := S.frame.cells y (.inl hkc)
      have yx : y ≠ x := fun z => by rw [z, X.x] at e; cases e
      refine ⟨c, v', clOf_some env e1 _ _ (fun _ h => nomatch h) (.inl (mem_of_lookup e)), e2, ?_⟩
      rw [putA_lookup, if_neg yx]; exact e3.dom d
  · obtain ⟨q1, q2, q3, q4, q5⟩ := S.store a c e
    have ne : a ≠ C := fun z => hCsome (z ▸ q3)
    refine ⟨q1.dom d, q2, ?_, ne, fun y hy => q5 _ (mem_of_lookup (sub y hy))⟩
    rw [hidC_out ne]
    · exact q3
    · rintro (z | ⟨y, hy, z, _⟩)
      · exact q4 z
      · exact q5 y hy z

theorem cx_inComp (X : CompScope env.scope cs x) (q : NOk B H env N) (t : There N s.heap) (hf : env.frame = some env.locals) (S : St G B (hidN H N s.heap) env ρ σ s) (hC : C ∈ N) (K : Cx G B H A env n) :
    Cx G B (hidC (hidN H N s.heap) env (clOf env cs.names []) C s.heap) A (compEnvC cs (clOf env cs.names []) C env) n := by
  have sub : ∀ y ∈ clOf env cs.names [], env.cells.lookup y.1 = some y.2 := clOf_sound env _ _ fun _ h => nomatch h
  have hCL : env.locals ≠ C := fun z => q.loc (z ▸ hC)
  have hCc : ∀ y ∈ env.cells, y.2 ≠ C := fun y hy z => q.cells y hy (z ▸ hC)
  have up : ∀ {a o}, H a = some o → hidC (hidN H N s.heap) env (clOf env cs.names []) C s.heap a = some o := fun {a o} e => by
    have na : a ∉ N := fun z => by rw [q.hid a z] at e; cases e
    have nc : a ≠ C := fun z => na (by rw [z]; exact hC)
    rw [hidC_out nc, hidN_ne na, e]
    rintro (z | ⟨y, hy, z, _⟩)
    · rw [z, K.E.loc.2] at e; cases e
    · rw [← z, (K.E.own y hy).2] at e; cases e
  have fr : ∀ l, FramesIn B H l → FramesIn B (hidC (hidN H N s.heap) env (clOf env cs.names []) C s.heap) l := fun l hl e he => by
    obtain ⟨h1, L, o, h2, h3, h4, h5⟩ := hl e he
    exact ⟨h1, L, o, h2, h3, up h4, h5⟩
  obtain ⟨T, E, ⟨a1, a2, a3, fe, outer, a4, a5, a6, a7⟩⟩ := K
  refine ⟨T, ⟨X.kind, E.glob, E.bltn, ⟨q.base C hC, hidC_C⟩, fun y hy => hCc _ (mem_of_lookup (sub y hy)), fun y hy => ⟨(E.own _ (mem_of_lookup (sub y hy))).1, ?_⟩⟩, a1, a2, ?_, fe, outer, a4, fr _ a5, fun z => ?_, fun _ => ?_⟩
  · have hm := mem_of_lookup (sub y hy)
    rw [hidC_out (hCc _ hm), hidN_ne (q.cells _ hm)]
    · exact (E.own _ hm).2
    · rintro (z | ⟨w, hw, z, z'⟩)
      · exact E.apart _ hm z
      · exact z' y hy rfl
  · rcases a3 with a3 | ⟨z, e, o, vs, h1, h2, h3⟩
    · exact .inl a3
    · exact .inr ⟨z, e, o, vs, h1, up h2, h3⟩
  · have z' : env.frame = some C := z
    rw [hf] at z'; exact absurd (Option.some.inj z') hCL
  · obtain rfl := a6 hf
    intro e he
    obtain rfl : e = fe := by simpa using he
    obtain ⟨m, ⟨o, es, ep, e1, e2, _⟩, _⟩ := S.frame.ns
    exact ⟨by rw [E.kind]; decide, e.locals, o, hf, E.loc.1, by rw [hidC_in hCL (.inl rfl), e1], es, ep, e2⟩
/-- and back -/
theorem St.outComp {ρ' : Loc} {σ' : Sto} {s' : Shared} (X : CompScope env.scope cs x) (q : NOk B H env N) (t : There N s.heap) (E0 : EnvOk B H env) (S : St G B (hidN H N s.heap) env ρ σ s) (hC : C ∈ N) (nd : env.cells.Pairwise fun x y => x.2 ≠ y.2) (hρ : ∀ y, y ≠ x → ρ'.lookup y = ρ.lookup y)
    (S' : St G B (hidC (hidN H N s.heap) env (clOf env cs.names []) C s.heap) (compEnvC cs (clOf env cs.names []) C env) ρ' σ' s') (g : Grow (hidC (hidN H N s.heap) env (clOf env cs.names []) C s.heap) s.heap s'.heap) :
    St G B (hidN H N s'.heap) env ρ σ' s' ∧ There N s'.heap ∧ (∀ a items, IsTup s.heap a items → hidN H N s.heap a = none → hidC (hidN H N s.heap) env (clOf env cs.names []) C s.heap a = none) ∧
      (∀ a items, IsTup s'.heap a items → hidC (hidN H N s.heap) env (clOf env cs.names []) C s.heap a = none → hidN H N s'.heap a = none) := by
  have sub : ∀ y ∈ clOf env cs.names [], env.cells.lookup y.1 = some y.2 := clOf_sound env _ _ fun _ h => nomatch h
  have hCL : env.locals ≠ C := fun z => q.loc (z ▸ hC)
  have hCc : ∀ y ∈ env.cells, y.2 ≠ C := fun y hy z => q.cells y hy (z ▸ hC)
  have hCsome : hidN H N s.heap C ≠ none := by obtain ⟨o, ho, _⟩ := t C hC; rw [hidN_of hC, ho]; simp
  have notC : ∀ items, ¬ IsTup s'.heap C items := fun items t => S'.notTup_locals t
  have nin : ∀ b ∈ N, b ≠ C → hidC (hidN H N s.heap) env (clOf env cs.names []) C s.heap b = s.heap.get? b := fun b hb ne => by
    rw [hidC_out ne, hidN_of hb]
    rintro (z | ⟨y, hy, z, _⟩)
    · exact q.loc (z ▸ hb)
    · exact q.cells y hy (z ▸ hb)
  have t' : There N s'.heap := fun b hb => by
    by_cases e : b = C
    · subst e
      obtain ⟨m, ⟨o, es, ep, ho, hd, _⟩, _⟩ := S'.frame.ns
      exact ⟨o, ho, fun D vs _ z => by rw [hd] at z; cases z⟩
    · obtain ⟨o, ho, hr⟩ := t b hb
      obtain ⟨sl, h1, _⟩ := S'.hid b o ((nin b hb e).trans ho)
      exact ⟨_, h1, hr⟩
  have d1 : ∀ a items, IsTup s.heap a items → hidN H N s.heap a = none → hidC (hidN H N s.heap) env (clOf env cs.names []) C s.heap a = none := fun a items tt z => by
    have ne : a ≠ C := fun e => hCsome (e ▸ z)
    rw [hidC_out ne]
    · exact z
    · rintro (e | ⟨y, hy, e, _⟩)
      · subst e; exact S.notTup_locals tt
      · subst e; exact S.notTup_cell hy tt
  have d2 : ∀ a items, IsTup s'.heap a items → hidC (hidN H N s.heap) env (clOf env cs.names []) C s.heap a = none → hidN H N s'.heap a = none := fun a items tt z => by
    have ne : a ≠ C := fun e => notC items (e ▸ tt)
    refine (hidN_some q t').mpr ?_
    by_cases e2 : a = env.locals ∨ (∃ y ∈ env.cells, y.2 = a ∧ ∀ z ∈ clOf env cs.names [], z.2 ≠ a)
    · rw [hidC_in ne e2] at z
      rcases e2 with e2 | ⟨y, hy, e2, _⟩
      · obtain ⟨m, ⟨o, es, ep, ho, _⟩, _⟩ := S.frame.ns
        rw [e2, ho] at z; cases z
      · obtain ⟨v, o, ho, _⟩ := S.frame.there y hy
        rw [← e2, ho] at z; cases z
    · rw [hidC_out ne e2] at z
      exact (hidN_some q t).mp z
  have capt : ∀ y ∈ env.cells, (∃ z ∈ clOf env cs.names [], z.2 = y.2) ∨ hidC (hidN H N s.heap) env (clOf env cs.names []) C s.heap y.2 = s.heap.get? y.2 := fun y hy => by
    by_cases e : ∃ z ∈ clOf env cs.names [], z.2 = y.2
    · exact .inl e
    · exact .inr (hidC_in (hCc y hy) (.inr ⟨y, hy, rfl, fun z hz w => e ⟨z, hz, w⟩⟩))
  refine ⟨⟨S'.keep, fun a o e => ?_, ⟨?_, fun y hy => ?_, fun y hy => ?_⟩, fun a c e => ?_, S'.root, S'.low⟩, t', d1, d2⟩
  · by_cases z : a ∈ N
    · rw [hidN_of z] at e
      exact ⟨o.slots, e, fun _ => rfl⟩
    · rw [hidN_ne z] at e
      refine S'.hid a o ?_
      have nc : a ≠ C := fun w => z (by rw [w]; exact hC)
      rw [hidC_out nc, hidN_ne z, e]
      rintro (w | ⟨y, hy, w, _⟩)
      · rw [w, E0.loc.2] at e; cases e
      · rw [← w, (E0.own y hy).2] at e; cases e
  · obtain ⟨m, ⟨o, es, ep, ho, hd, hr⟩, hm⟩ := S.frame.ns
    obtain ⟨sl, h1, _⟩ := S'.hid env.locals o (by rw [hidC_in hCL (.inl rfl), ho])
    exact ⟨m, ⟨_, es, ep, h1, hd, hr⟩, fun y hy hz => (((hm y hy hz).dom d1).grow g).dom d2⟩
  · obtain ⟨c, v, e1, ⟨o, ho, hd⟩, e3⟩ := S.frame.cells y hy
    have hmem := mem_of_lookup e1
    by_cases w : ∃ z ∈ clOf env cs.names [], z.2 = c
    · obtain ⟨z, hz, e⟩ := w
      have zm := mem_of_lookup (sub z hz)
      have zy : z.1 = y := Classical.byContradiction fun ne => Pairwise.of_mem (R := fun (a b : Str × Addr) => a.2 ≠ b.2) (fun _ _ w => w.symm) nd zm hmem (fun w => ne (congrArg Prod.fst w)) e
      obtain ⟨f1, f2⟩ : (z.1, NameKind.free) ∈ cs.names ∧ True := ⟨(clOf_free env _ _ z hz).elim (fun w => nomatch w) id, trivial⟩
      have lk := (X.free _ f1 rfl).2
      have ck := (X.free _ f1 rfl).1
      rw [zy] at lk ck
      have kc : (compEnvC cs (clOf env cs.names []) C env).kindOf y = some .cell := by
        show (relabelS cs env.scope).names.lookup y = some .cell
        have lk' : List.lookup y cs.names = some .free := lk
        have ck' : List.lookup y env.scope.names = some .cell := ck
        rw [lookup_relabelS, lk', ck']
        simp [E0.kind]
      obtain ⟨c', v', g1, g2, g3⟩ := S'.frame.cells y (.inl kc)
      have : env.cells.lookup y = some c' := sub (y, c') (mem_of_lookup g1)
      rw [e1] at this; cases this
      have yx : y ≠ x := fun w => by
        have lk' : List.lookup y cs.names = some .free := lk
        rw [w, X.x] at lk'; cases lk'
      rw [hρ y yx] at g3
      exact ⟨c, v', e1, g2, g3.dom d2⟩
    · obtain ⟨sl, h1, _⟩ := S'.hid c o (by rw [hidC_in (hCc _ hmem) (.inr ⟨_, hmem, rfl, fun z hz e => w ⟨z, hz, e⟩⟩), ho])
      exact ⟨c, v, e1, ⟨_, h1, hd⟩, ((e3.dom d1).grow g).dom d2⟩
  · rcases capt y hy with ⟨z, hz, e⟩ | e
    · rw [← e]; exact S'.frame.there z hz
    · obtain ⟨v, o, ho, hd⟩ := S.frame.there y hy
      obtain ⟨sl, h1, _⟩ := S'.hid y.2 o (e.trans ho)
      exact ⟨v, _, h1, hd⟩
  · obtain ⟨q1, q2, q3, q4, q5⟩ := S'.store a c e
    have ne : a ≠ C := q4
    obtain ⟨o, ho, nt, _⟩ := q1.there
    have na : ¬ (a = env.locals ∨ (∃ y ∈ env.cells, y.2 = a ∧ ∀ z ∈ clOf env cs.names [], z.2 ≠ a)) := fun z => by
      rw [hidC_in ne z] at q3
      rcases z with z | ⟨y, hy, z, _⟩
      · obtain ⟨m, ⟨o, es, ep, ho, _⟩, _⟩ := S.frame.ns
        rw [z, ho] at q3; cases q3
      · obtain ⟨v, o, ho, _⟩ := S.frame.there y hy
        rw [← z, ho] at q3; cases q3
    rw [hidC_out ne na] at q3
    refine ⟨q1.dom d2, q2, (hidN_some q t').mpr ((hidN_some q t).mp q3), fun z => na (.inl z), fun y hy z => ?_⟩
    rcases capt y hy with ⟨w, hw, e⟩ | e
    · exact q5 w hw (e.trans z)
    · by_cases w : ∃ z ∈ clOf env cs.names [], z.2 = y.2
      · obtain ⟨w, hw, e⟩ := w; exact q5 w hw (e.trans z)
      · exact na (.inr ⟨y, hy, z, fun u hu e => w ⟨u, hu, e.trans z.symm⟩⟩)
end
end Mine
set_option maxRecDepth 100000
namespace Mine
open PySem PyProof.Rows

variable {G : PG}
section
variable {B : Heap} {H : Hid} {A : Around} {env : Env} {n : Nat} {ρ : Loc} {σ : Sto} {s s₀ s₁ : Shared} {N : List Addr} {Ψ : PX} {Φ : PS} {cs : Scope} {x : Str} {C : Addr}

/-- what stands behind an evaluation in the comprehension's frame -/
structure CompSt (G : PG) (B : Heap) (H : Hid) (N : List Addr) (env : Env) (ρ : Loc) (C : Addr) (x : Str) (v : AV) (s₀ : Shared) (σ : Sto) (s : Shared) : Prop where
  S : St G B (hidN H N s.heap) env ρ σ s
  T : There N s.heap
  X : ∃ m u, s.heap.Ns C m ∧ m x = some u ∧ Rel (hidN H N s.heap) s.heap v u
  st : Step H s₀ s
structure CompMv (H : Hid) (N : List Addr) (C : Addr) (s s' : Shared) : Prop where
  ex : ∀ b ∈ N, b ≠ C → ∀ o, s.heap.get? b = some o → (∀ es n, o.data ≠ .dict es n) → s'.heap.get? b = some o
  rel : ∀ as ws, RelL (hidN H N s.heap) s.heap as ws → RelL (hidN H N s'.heap) s'.heap as ws
theorem comp_out {v : AV} {σ' : Sto} {s' : Shared} (Sc : CompScope env.scope cs x) (q : NOk B H env N) (fN : ∀ b ∈ N, s₀.heap.objs.size ≤ b) (K : Cx G B H A env n) (nd : env.cells.Pairwise fun x y => x.2 ≠ y.2) (hC : C ∈ N) (Z : CompSt G B H N env ρ C x v s₀ σ s)
    (S' : St G B (hidC (hidN H N s.heap) env (clOf env cs.names []) C s.heap) (compEnvC cs (clOf env cs.names []) C env) (putA x v ρ) σ' s') (st : Step (hidC (hidN H N s.heap) env (clOf env cs.names []) C s.heap) s s') :
    CompSt G B H N env ρ C x v s₀ σ' s' ∧ CompMv H N C s s' ∧ ∀ a u, Rel (hidC (hidN H N s.heap) env (clOf env cs.names []) C s.heap) s'.heap a u → Rel (hidN H N s'.heap) s'.heap a u := by
  obtain ⟨S1, t', d1, d2⟩ := Z.S.outComp Sc q Z.T K.E hC nd (fun y hy => by rw [putA_lookup, if_neg hy]) S' st.grow
  have kx : (compEnvC cs (clOf env cs.names []) C env).kindOf x = some .local := by
    show (relabelS cs env.scope).names.lookup x = some .local
    rw [lookup_relabelS, Sc.x]; rfl
  have x0 := Sc.nz
  obtain ⟨m, hn, hm⟩ := S'.frame.ns
  have hv := hm x kx x0
  rw [putA_lookup, if_pos rfl] at hv
  refine ⟨⟨S1, t', ?_, ?_⟩, ⟨fun b hb ne o ho nd => ?_, fun as ws r => ((r.dom d1).grow st.grow).dom d2⟩, fun a u r => r.dom d2⟩
  · cases e : m x with
    | none => rw [e] at hv; exact hv.elim
    | some u => rw [e] at hv; exact ⟨m, u, hn, e, Rel.dom d2 hv⟩
  · refine ⟨⟨fun a items z w => ?_, fun a o vs D e c d => ?_⟩, st.gens.trans Z.st.gens, st.os.trans Z.st.os⟩
    · have na : a ∉ N := fun y => by obtain ⟨o, ho, _⟩ := w; exact Nat.lt_irrefl _ (Nat.lt_of_lt_of_le (Heap.lt_size ho) (fN a y))
      have w' := Z.st.grow.tup a items z w
      exact st.grow.tup a items (d1 a items w' (by rw [hidN_ne na]; exact z)) w'
    · obtain ⟨o', vs', e1, c1, dd1⟩ := Z.st.grow.recs a o vs D e c d
      obtain ⟨o2, vs2, e2, c2, dd2⟩ := st.grow.recs a o' vs' D e1 (c1.1.trans c) dd1
      exact ⟨o2, vs2, e2, c2.trans c1, dd2⟩
  · obtain ⟨sl, h1, h2⟩ := S'.hid b o (by
      rw [hidC_out ne, hidN_of hb, ho]
      rintro (z | ⟨y, hy, z, _⟩)
      · exact q.loc (z ▸ hb)
      · exact q.cells y hy (z ▸ hb))
    rw [h1, h2 nd]

theorem comp_eval {v : AV} {t : Env → Sem Value} {ΦE : PE} {Q : Value → Shared → Prop} {E : Value → Shared → Prop} (Sc : CompScope env.scope cs x) (q : NOk B H env N) (fN : ∀ b ∈ N, s₀.heap.objs.size ≤ b) (K : Cx G B H A env n) (hf : env.frame = some env.locals) (nd : env.cells.Pairwise fun x y => x.2 ≠ y.2) (hC : C ∈ N)
    (Z : CompSt G B H N env ρ C x v s₀ σ s) (h : WE G n (compEnvC cs (clOf env cs.names []) C env) (t (compEnvC cs (clOf env cs.names []) C env)) (putA x v ρ) σ ΦE (fun _ _ _ => False))
    (hQ : ∀ a u σ' s', CompSt G B H N env ρ C x v s₀ σ' s' → CompMv H N C s s' → Rel (hidN H N s'.heap) s'.heap a u → ΦE a σ' → Q u s') : wpAny G.M A (t (compEnvC cs (clOf env cs.names []) C env)) Q E s := by
  obtain ⟨m, u, hn, hx, r⟩ := Z.X
  have K' := cx_inComp Sc q Z.T hf Z.S hC K
  have S' := Z.S.inComp Sc q K.E hC hn hx r
  refine wpAny_mono (h B _ A s K'.T K'.E K'.A S') (fun w s' hw => ?_) fun e s' hx => ?_
  · obtain ⟨a, σ', ra, S'', st, p⟩ := hw
    obtain ⟨z1, z2, z3⟩ := comp_out Sc q fN K nd hC Z S'' st
    exact hQ a w σ' s' z1 z2 (z3 a w ra) p
  · obtain ⟨_, _, _, _, _, _, _, _, z⟩ := hx; exact z.elim
theorem comp_test {v : AV} {t : Env → Sem Bool} {ΦB : Bool → Sto → Prop} {Q : Bool → Shared → Prop} {E : Value → Shared → Prop} (Sc : CompScope env.scope cs x) (q : NOk B H env N) (fN : ∀ b ∈ N, s₀.heap.objs.size ≤ b) (K : Cx G B H A env n) (hf : env.frame = some env.locals) (nd : env.cells.Pairwise fun x y => x.2 ≠ y.2) (hC : C ∈ N)
    (Z : CompSt G B H N env ρ C x v s₀ σ s) (h : WB G n (compEnvC cs (clOf env cs.names []) C env) (t (compEnvC cs (clOf env cs.names []) C env)) (putA x v ρ) σ ΦB (fun _ _ _ => False))
    (hQ : ∀ b σ' s', CompSt G B H N env ρ C x v s₀ σ' s' → CompMv H N C s s' → ΦB b σ' → Q b s') : wpAny G.M A (t (compEnvC cs (clOf env cs.names []) C env)) Q E s := by
  obtain ⟨m, u, hn, hx, r⟩ := Z.X
  have K' := cx_inComp Sc q Z.T hf Z.S hC K
  have S' := Z.S.inComp Sc q K.E hC hn hx r
  refine wpAny_mono (h B _ A s K'.T K'.E K'.A S') (fun w s' hw => ?_) fun e s' hx => ?_
  · obtain ⟨σ', S'', st, p⟩ := hw
    obtain ⟨z1, z2, z3⟩ := comp_out Sc q fN K nd hC Z S'' st
    exact hQ w σ' s' z1 z2 p
  · obtain ⟨_, _, _, _, _, _, _, _, z⟩ := hx; exact z.elim

/-- a hidden list comes into the store -/
theorem St.adopt {D : Addr} {c : Cell} (S : St G B H env ρ σ s) (x : CellAt G H s.heap D c) (h1 : B.get? D = none) (h2 : H D = none) (h3 : D ≠ env.locals) (h4 : ∀ x ∈ env.cells, x.2 ≠ D) (h5 : mainGlobals < D) : St G B H env ρ (upd σ D c) s := by
  refine ⟨S.keep, S.hid, S.frame, fun a c' e => ?_, S.root, fun a c' e w => ?_⟩
  · by_cases q : a = D
    · subst q; rw [upd_same] at e; cases e; exact ⟨x, fun _ => h1, h2, h3, h4⟩
    · rw [upd_ne q] at e; exact S.store a c' e
  · by_cases q : a = D
    · subst q; exact h5
    · rw [upd_ne q] at e; exact S.low a c' e w

theorem hidN_cons {h : Heap} {D : Addr} {N : List Addr} (hD : D ∉ N) : hidN H (D :: N) h = hidN (hidN H [D] h) N h := by
  funext a
  by_cases q : a ∈ N
  · rw [hidN_of q, hidN_of (.tail _ q)]
  · rw [hidN_ne q]
    by_cases e : a = D
    · subst e; rw [hidN_of (.head _), hidN_of (.head _)]
    · rw [hidN_ne (by simp [e, q]), hidN_ne (by simp [e])]

/-- the whole loop -/
theorem comp_loop {src : Src} {it D : Addr} {J : Nat → Heap → Prop} {px : Pos} {elt iter : Expr} {ifs : List Expr} {pos : Pos} {eT : Tr} {iT : List Tr} {ΦE : PE} {R : Result → Shared → Prop} {vs : List AV}
    (I0 : Itr G n src it N J) (hpair : src.pair = false) (Sc : CompScope env.scope cs x)
    (helt : ∀ cenv : Env, cenv.scope = relabelS cs env.scope → ∀ ρ σ Φ, eT.v ρ σ Φ (fun _ _ => False) → WE G n cenv (eval elt cenv) ρ σ Φ (fun _ _ _ => False))
    (htst : ∀ cenv : Env, cenv.scope = relabelS cs env.scope → ∀ ρ σ Φ, allT iT ρ σ Φ (fun _ _ => False) →
      WB G n cenv (forIn ifs true fun c r => if r = true then do let ok ← isTrue c cenv (eval c cenv); pure (ForInStep.yield ok) else pure (ForInStep.yield r)) ρ σ Φ (fun _ _ _ => False))
    (K : Cx G B H A env n) (hf : env.frame = some env.locals) (nd : env.cells.Pairwise fun x y => x.2 ≠ y.2)
    (S : St G B H env ρ σ s₀) (k : ∀ b o, s₀.heap.get? b = some o → s.heap.get? b = some o) (st : Step H s₀ s) (fN : ∀ b ∈ C :: D :: N, s₀.heap.objs.size ≤ b) (hCD : C ≠ D) (hCN : C ∉ N) (hDN : D ∉ N) (j : J 0 s.heap)
    (hD : s.heap.PlainList D #[]) (hCn : s.heap.Ns C fun _ => none)
    (I : List AV → List AV → Sto → Prop) (i0 : I vs [] σ) (hvs : ∀ rest acc σ₂, I rest acc σ₂ → src.items σ₂ = some vs)
    (turn : ∀ v rest acc σ₂, I (v :: rest) acc σ₂ → acc.length < sizeLine ∧ allT iT (putA x v ρ) σ₂ (fun b σ₃ => if b = true then eT.v (putA x v ρ) σ₃ (fun a σ₄ => I rest (acc ++ [a]) σ₄) (fun _ _ => False) else I rest acc σ₃) (fun _ _ => False))
    (fin0 : ∀ acc σ₂, I [] acc σ₂ → ∀ a, σ₂ a = none → ΦE (.ref a) (upd σ₂ a (.list acc)))
    (fin : ∀ s₁ σ₁, St G B (hidN H [C] s₁.heap) env ρ σ₁ s₁ → Step H s₀ s₁ → (∃ m, s₁.heap.Ns C m) → NOk B H env [C] → There [C] s₁.heap → ΦE (.ref D) σ₁ → R (.ok .next) s₁) :
    codeAny G.M A (.compLoop (.ListComp elt [⟨.Name x px, iter, ifs, 0⟩] cs pos) 0 (.ref it) (.ref D) (compEnvC cs (clOf env cs.names []) C env)) R s := by
  obtain ⟨S₁, q⟩ := S.hide k fN
  have hCm : C ∈ C :: D :: N := .head _
  have hDm : D ∈ C :: D :: N := .tail _ (.head _)
  have hN : ∀ b ∈ N, b ∈ C :: D :: N := fun b hb => .tail _ (.tail _ hb)
  have kx : (compEnvC cs (clOf env cs.names []) C env).kindOf x = some .local := by
    show (relabelS cs env.scope).names.lookup x = some .local
    rw [lookup_relabelS, Sc.x]; rfl
  have big : mainGlobals < s₀.heap.objs.size := let ⟨_, e⟩ := S.root; Heap.lt_size (S.keep _ _ e)
  have thr : ∀ {h : Heap} {i : Nat} {ys : Array Value} {m : Str → Option Value}, J i h → h.PlainList D ys → h.Ns C m → There (C :: D :: N) h := fun {h i ys m} jj hl hn b hb => by
    rcases List.mem_cons.mp hb with rfl | hb
    · obtain ⟨o, es, ep, ho, hd, _⟩ := hn
      exact ⟨o, ho, fun D vs _ z => by rw [hd] at z; cases z⟩
    · rcases List.mem_cons.mp hb with rfl | hb
      · obtain ⟨m, ho⟩ := hl
        exact ⟨_, ho, fun D vs z => by cases z⟩
      · obtain ⟨o, h1, _, h2⟩ := I0.there i h jj b hb
        exact ⟨o, h1, fun D vs z => absurd z (h2 D)⟩
  refine codeAny_compLoop_tests (fun m s' => ∃ i acc ys mm σ, i ≤ vs.length ∧ m = vs.length - i ∧ I (vs.drop i) acc σ ∧ St G B (hidN H (C :: D :: N) s'.heap) env ρ σ s' ∧ J i s'.heap ∧ s'.heap.Ns C mm ∧ s'.heap.PlainList D ys ∧ RelL (hidN H (C :: D :: N) s'.heap) s'.heap acc ys.toList ∧ Step H s₀ s') ?_ vs.length
    ⟨0, [], #[], _, σ, Nat.zero_le _, rfl, i0, S₁, j, hCn, hD, .nil, st⟩
  rintro m s' ⟨i, acc, ys, mm, σ', hi, rfl, hI, S', j', hCn', hD', ra, st'⟩
  have t' := thr j' hD' hCn'
  have hH : ∀ b ∈ N, hidN H (C :: D :: N) s'.heap b ≠ none := fun b hb => by
    obtain ⟨o, ho, _⟩ := t' b (hN b hb)
    rw [hidN_of (hN b hb), ho]; simp
  have K' : Cx G B (hidN H (C :: D :: N) s'.heap) A env n := K.hidN q
  by_cases hlt : i < vs.length
  · have hd : vs.drop i = vs[i] :: vs.drop (i + 1) := List.drop_eq_getElem_cons hlt
    rw [hd] at hI
    obtain ⟨hsz, ht⟩ := turn _ _ _ _ hI
    refine I0.nextN hpair K' S' j' hH (hvs _ _ _ hI) (List.getElem?_eq_getElem hlt) fun u h' tk kk jn r => ?_
    have kk' : ∀ b o, b ∉ C :: D :: N → s'.heap.get? b = some o → h'.get? b = some o := fun b o hb e => kk b o (fun z => hb (hN b z)) e
    have hCn1 : h'.Ns C mm := hCn'.at' fun o e => kk C o hCN e
    have hD1 : h'.PlainList D ys := hD'.at fun o e => kk D o hDN e
    have t1 := thr jn hD1 hCn1
    obtain ⟨S₂, g₂, dd₂⟩ := St.turn (s₁ := { s' with heap := h', toks := tk }) q t' S' kk' t1 t'
    have st₂ : Step H s₀ { s' with heap := h', toks := tk } := st'.over fN ⟨g₂, rfl, rfl⟩
    have r₂ : Rel (hidN H (C :: D :: N) h') h' vs[i] u := r.dom fun a _ _ z => by
      by_cases za : a ∈ N
      · rw [hidN_of za] at z
        obtain ⟨o, h1, _⟩ := I0.there _ _ jn a za
        rw [h1] at z; cases z
      · rw [hidN_ne za] at z
        exact dd₂ a z
    have ra₂ : RelL (hidN H (C :: D :: N) h') h' acc ys.toList := (ra.grow g₂).dom fun a _ _ z => dd₂ a z
    refine wpAny_assign_Name (wpAny_storeName_local kx hCn1 (fun h₂ hn₂ hs₂ => ?_) (by show (cs.kind == _ || (cs.kind == _ && _)) = false; rw [Sc.kind]; rfl))
    have k3 : ∀ b o, b ≠ C → h'.get? b = some o → h₂.get? b = some o := fun b o nb e => hs₂.extBut b o nb e
    have k3' : ∀ b o, b ∉ C :: D :: N → h'.get? b = some o → h₂.get? b = some o := fun b o hb e => k3 b o (fun z => hb (z ▸ hCm)) e
    have j3 : J (i + 1) h₂ := I0.frame _ _ _ jn fun b hb o e => k3 b o (fun z => hCN (z ▸ hb)) e
    have hD3 : h₂.PlainList D ys := hD1.at fun o e => k3 D o hCD.symm e
    have t3 := thr j3 hD3 hn₂
    obtain ⟨S₃, g₃, dd₃⟩ := St.turn (s₁ := { s' with heap := h₂, toks := tk + 1 }) q t1 S₂ k3' t3 t1
    have st₃ : Step H s₀ { s' with heap := h₂, toks := tk + 1 } := st₂.over fN ⟨g₃, rfl, rfl⟩
    have r₃ : Rel (hidN H (C :: D :: N) h₂) h₂ vs[i] u := (r₂.grow g₃).dom fun a _ _ z => dd₃ a z
    have ra₃ : RelL (hidN H (C :: D :: N) h₂) h₂ acc ys.toList := (ra₂.grow g₃).dom fun a _ _ z => dd₃ a z
    have Z : CompSt G B H (C :: D :: N) env ρ C x vs[i] s₀ σ' { s' with heap := h₂, toks := tk + 1 } := ⟨S₃, t3, ⟨_, u, hn₂, by simp, r₃⟩, st₃⟩
    have exact1 : ∀ {sa sb : Shared}, CompMv H (C :: D :: N) C sa sb → J (i + 1) sa.heap → sa.heap.PlainList D ys → J (i + 1) sb.heap ∧ sb.heap.PlainList D ys := fun {sa sb} mv ja la => by
      refine ⟨I0.frame _ _ _ ja fun b hb o e => ?_, ?_⟩
      · obtain ⟨o', e', ndd, _⟩ := I0.there _ _ ja b hb
        rw [e] at e'; cases e'
        exact mv.ex b (hN b hb) (fun z => hCN (z ▸ hb)) o e ndd
      · obtain ⟨m, ho⟩ := la
        exact ⟨m, mv.ex D hDm hCD.symm _ ho (by simp)⟩
    refine comp_test (t := fun cenv => forIn ifs true fun c r => if r = true then do let ok ← isTrue c cenv (eval c cenv); pure (ForInStep.yield ok) else pure (ForInStep.yield r)) Sc q fN K hf nd hCm Z (htst _ rfl _ _ _ ht) fun b σ₄ s₄ Z₄ mv₄ p₄ => ?_
    obtain ⟨j₄, l₄⟩ := exact1 mv₄ j3 hD3
    have ra₄ := mv₄.rel _ _ ra₃
    cases b with
    | false =>
      simp only [Bool.false_eq_true, if_false] at p₄ ⊢
      obtain ⟨m₄, u₄, hn₄, _⟩ := Z₄.X
      exact ⟨vs.length - (i + 1), (by first | decide | (with_reducible first | exact lv hn | exact lv1 hn | exact lv2 hn | exact Int.natCast_nonneg _) | omega), i + 1, acc, ys, m₄, σ₄, hlt, rfl, p₄, Z₄.S, j₄, hn₄, l₄, ra₄, Z₄.st⟩
    | true =>
      simp only [if_true] at p₄ ⊢
      refine comp_eval (t := fun cenv => eval elt cenv) Sc q fN K hf nd hCm Z₄ (helt _ rfl _ _ _ p₄) fun a w σ₅ s₅ Z₅ mv₅ rw₅ p₅ => ?_
      obtain ⟨j₅, l₅⟩ := exact1 mv₅ j₄ l₄
      have ra₅ := mv₅.rel _ _ ra₄
      have hys : ys.size ≤ sizeLine := by
        have := ra₅.length
        rw [Array.length_toList] at this; omega
      refine wpAny_list_append_plain (hsz := hys) l₅ fun h₆ l₆ hs₆ => ?_
      have k6 : ∀ b o, b ≠ D → s₅.heap.get? b = some o → h₆.get? b = some o := fun b o nb e => hs₆.extBut b o nb e
      obtain ⟨m₅, u₅, hn₅, _⟩ := Z₅.X
      have hn₆ : h₆.Ns C m₅ := hn₅.at' fun o e => k6 C o hCD e
      have j₆ : J (i + 1) h₆ := I0.frame _ _ _ j₅ fun b hb o e => k6 b o (fun z => hDN (z ▸ hb)) e
      have t₆ := thr j₆ l₆ hn₆
      obtain ⟨S₆, g₆, dd₆⟩ := St.turn (s₁ := { s₅ with heap := h₆ }) q Z₅.T Z₅.S (fun b o hb e => k6 b o (fun z => hb (z ▸ hDm)) e) t₆ Z₅.T
      refine ⟨vs.length - (i + 1), (by first | decide | (with_reducible first | exact lv hn | exact lv1 hn | exact lv2 hn | exact Int.natCast_nonneg _) | omega), i + 1, acc ++ [a], ys.push w, m₅, σ₅, hlt, rfl, p₅, S₆, j₆, hn₆, l₆, ?_, Z₅.st.over fN ⟨g₆, rfl, rfl⟩⟩
      rw [Array.toList_push]
      exact ((ra₅.append (.one rw₅)).grow g₆).dom fun a _ _ z => dd₆ a z
  · have hie : i = vs.length := by omega
    subst hie
    rw [List.drop_length] at hI
    refine I0.done K' S' j' (hvs _ _ _ hI) fun h' tk kk => ?_
    have hCn1 : h'.Ns C mm := hCn'.at' fun o e => kk C o hCN e
    have hD1 : h'.PlainList D ys := hD'.at fun o e => kk D o hDN e
    have hC' : C ∉ D :: N := by simp [hCD, hCN]
    have e1 := hidN_cons (H := H) (h := s'.heap) hC'
    have S'' := S'
    rw [e1] at S''
    have q1 : NOk B H env [C] := ⟨fun b hb => q.base b (by rw [mem1 hb]; exact hCm), fun b hb => q.hid b (by rw [mem1 hb]; exact hCm), fun z => q.loc (by rw [mem1 z]; exact hCm), fun y hy z => q.cells y hy (by rw [mem1 z]; exact hCm)⟩
    have q2 : NOk B (hidN H [C] s'.heap) env (D :: N) := ⟨fun b hb => q.base b (.tail _ hb), fun b hb => by rw [hidN_ne (by intro z; rw [mem1 z] at hb; exact hC' hb)]; exact q.hid b (.tail _ hb), fun z => q.loc (.tail _ z), fun y hy z => q.cells y hy (.tail _ z)⟩
    have t2 : There (D :: N) s'.heap := fun b hb => t' b (.tail _ hb)
    obtain ⟨S₂, g₂⟩ := St.leave (s₁ := { s' with heap := h', toks := tk }) q2 t2 S'' (fun b o hb e => kk b o (fun z => hb (.tail _ z)) e) t2
    have tC : There [C] s'.heap := fun b hb => by rw [mem1 hb]; exact t' C hCm
    have S₃ := S₂.fresh_hidN q1 tC
    have g₂' : Grow (hidN H (C :: D :: N) s'.heap) s'.heap h' := by rw [e1]; exact g₂
    have st₂ : Step H s₀ { s' with heap := h', toks := tk } := st'.over fN ⟨g₂', rfl, rfl⟩
    have tC' : There [C] h' := tC.after S₂
    have hDnone : σ' D = none := none_of_not_some fun c e => by
      have := (S'.store D c e).2.2.1
      obtain ⟨m, ho⟩ := hD'
      rw [hidN_of hDm, ho] at this; cases this
    have hfresh := fN D hDm
    refine fin _ _ (S₃.adopt (c := .list acc) ?_ (q.base D hDm) (by rw [hidN_ne (by simp [hCD.symm])]; exact q.hid D hDm) (fun z => q.loc (z ▸ hDm)) (fun y hy z => q.cells y hy (z ▸ hDm)) (Nat.lt_of_lt_of_le big hfresh)) st₂ ⟨mm, hCn1⟩ q1 tC' (fin0 _ _ hI D hDnone)
    obtain ⟨m, ho⟩ := hD1
    refine ⟨ys, m, ho, (ra.grow g₂').dom fun a _ _ z => ?_⟩
    obtain ⟨z1, z2⟩ := (hidN_some q t').mp z
    rw [hidN_ne (by intro w; rw [mem1 w] at z1; exact z1 hCm)]; exact z2
end
end Mine
set_option maxRecDepth 100000
namespace Mine
open PySem PyProof.Rows

variable {G : PG}

abbrev PXof (ρ : Loc) (Ψ : PY) : PX := fun c ρ' σ' => ρ' = ρ ∧ Ψ c σ'
abbrev GoT (G : PG) (B : Heap) (H : Hid) (A : Around) (env : Env) (ρ : Loc) (s : Shared) (t : Sem Bool) (Φ : Bool → Sto → Prop) (Ψ : PX) : Prop :=
  wpAny G.M A t (fun b s' => ∃ σ', St G B H env ρ σ' s' ∧ Step H s s' ∧ Φ b σ') (QX G B H env Ψ s) s
abbrev GoL (G : PG) (B : Heap) (H : Hid) (A : Around) (env : Env) (ρ : Loc) (s : Shared) (t : Sem (List Value)) (Φ : List AV → Sto → Prop) (Ψ : PX) : Prop :=
  wpAny G.M A t (fun vs s' => ∃ as σ', RelL H s'.heap as vs ∧ St G B H env ρ σ' s' ∧ Step H s s' ∧ Φ as σ') (QX G B H env Ψ s) s
/-- an iterator at its start -/
noncomputable def ItrAt (G : PG) (n : Nat) (B : Heap) (H : Hid) (env : Env) (ρ : Loc) (s : Shared) (Φ : Src → Sto → Prop) (itv : Value) (s₂ : Shared) : Prop :=
  ∃ src it N J σ₁ sm, itv = .ref it ∧ Itr G n src it N J ∧ St G B H env ρ σ₁ sm ∧ Step H s sm ∧ (∀ b o, sm.heap.get? b = some o → s₂.heap.get? b = some o) ∧ Step H sm s₂ ∧ (∀ b ∈ N, sm.heap.objs.size ≤ b) ∧ J 0 s₂.heap ∧ Φ src σ₁
abbrev GoI (G : PG) (n : Nat) (B : Heap) (H : Hid) (A : Around) (env : Env) (ρ : Loc) (s : Shared) (t : Sem Value) (Φ : Src → Sto → Prop) (Ψ : PX) : Prop :=
  wpAny G.M A t (fun x s₁ => wpAny G.M A (pyIter x) (ItrAt G n B H env ρ s Φ) (QX G B H env Ψ s) s₁) (QX G B H env Ψ s) s

structure Snd (G : PG) (n : Nat) (env : Env) (e : Expr) (T : Tr) : Prop where
  v : ∀ {B H A ρ σ s Φ Ψ}, Cx G B H A env n → St G B H env ρ σ s → T.v ρ σ Φ Ψ → Go G B H A env ρ s (eval e env) Φ (PXof ρ Ψ)
  t : ∀ {B H A ρ σ s Φ Ψ}, Cx G B H A env n → St G B H env ρ σ s → T.t ρ σ Φ Ψ → GoT G B H A env ρ s (isTrue e env (eval e env)) Φ (PXof ρ Ψ)
  i : ∀ {B H A ρ σ s Φ Ψ}, Cx G B H A env n → St G B H env ρ σ s → (∀ src σ, Φ src σ → ∃ vs, src.items σ = some vs) → T.i ρ σ Φ Ψ → GoI G n B H A env ρ s (eval e env) Φ (PXof ρ Ψ)

section
variable {B : Heap} {H : Hid} {A : Around} {env : Env} {n : Nat} {ρ : Loc} {σ : Sto} {s s₁ : Shared} {Ψ : PX}

theorem GoT.step {t : Sem Bool} {Φ : Bool → Sto → Prop} (st : Step H s s₁) (h : GoT G B H A env ρ s₁ t Φ Ψ) : wpAny G.M A t (fun b s' => ∃ σ', St G B H env ρ σ' s' ∧ Step H s s' ∧ Φ b σ') (QX G B H env Ψ s) s₁ :=
  wpAny_mono h (fun _ _ ⟨σ', S, q, p⟩ => ⟨σ', S, st.trans q, p⟩) fun _ _ q => q.step st
theorem GoL.after {t : Sem (List Value)} {Φ₁ : List AV → Sto → Prop} {Q : List Value → Shared → Prop} (h : GoL G B H A env ρ s t Φ₁ Ψ)
    (k : ∀ vs s₁ as σ₁, RelL H s₁.heap as vs → St G B H env ρ σ₁ s₁ → Step H s s₁ → Φ₁ as σ₁ → Q vs s₁) : wpAny G.M A t Q (QX G B H env Ψ s) s :=
  wpAny_mono h (fun v s₁ ⟨a, σ₁, r, S, st, p⟩ => k v s₁ a σ₁ r S st p) fun _ _ x => x
theorem Go.after' {t : Sem Value} {Φ₁ : PE} {Q : Value → Shared → Prop} (h : Go G B H A env ρ s t Φ₁ Ψ)
    (k : ∀ v s₁ a σ₁, Rel H s₁.heap a v → St G B H env ρ σ₁ s₁ → Step H s s₁ → Φ₁ a σ₁ → Q v s₁) : wpAny G.M A t Q (QX G B H env Ψ s) s :=
  wpAny_mono h (fun v s₁ ⟨a, σ₁, r, S, st, p⟩ => k v s₁ a σ₁ r S st p) fun _ _ x => x

theorem Go.then {t : Sem Value} {Φ₁ : PE} {Q : Value → Shared → Prop} (st : Step H s s₁) (h : Go G B H A env ρ s₁ t Φ₁ Ψ)
    (k : ∀ v s₂ a σ₂, Rel H s₂.heap a v → St G B H env ρ σ₂ s₂ → Step H s₁ s₂ → Step H s s₂ → Φ₁ a σ₂ → Q v s₂) : wpAny G.M A t Q (QX G B H env Ψ s) s₁ :=
  wpAny_mono h (fun v s₂ ⟨a, σ₂, r, S, st₂, p⟩ => k v s₂ a σ₂ r S st₂ (st.trans st₂) p) fun _ _ x => x.step st
theorem GoL.then {t : Sem (List Value)} {Φ₁ : List AV → Sto → Prop} {Q : List Value → Shared → Prop} (st : Step H s s₁) (h : GoL G B H A env ρ s₁ t Φ₁ Ψ)
    (k : ∀ vs s₂ as σ₂, RelL H s₂.heap as vs → St G B H env ρ σ₂ s₂ → Step H s₁ s₂ → Step H s s₂ → Φ₁ as σ₂ → Q vs s₂) : wpAny G.M A t Q (QX G B H env Ψ s) s₁ :=
  wpAny_mono h (fun v s₂ ⟨a, σ₂, r, S, st₂, p⟩ => k v s₂ a σ₂ r S st₂ (st.trans st₂) p) fun _ _ x => x.step st
/-- iteration over a value -/
theorem iter_value {t : Sem Value} {Φ : Src → Sto → Prop} {f : PE} (C : Cx G B H A env n) (hΦ : ∀ src σ, Φ src σ → ∃ vs, src.items σ = some vs) (h : Go G B H A env ρ s t f Ψ)
    (hf : ∀ a σ₁, f a σ₁ → match a with | .ref l => Φ (.lst l) σ₁ | _ => False) : GoI G n B H A env ρ s t Φ Ψ := by
  refine h.after' fun v s₁ a σ₁ ra S st p0 => ?_
  have p := hf a σ₁ p0
  clear p0
  split at p
  · rename_i l
    simp only [Rel] at ra; subst ra
    obtain ⟨vs, hq⟩ := hΦ _ _ p
    have hq' : lstOf σ₁ l = some vs := hq
    · skip
      obtain ⟨items, m, ho, rl⟩ := S.listAt hq'
      refine wpAny_pyIter_list (isList_of ho) ⟨.lst l, s₁.heap.objs.size, [s₁.heap.objs.size], _, σ₁, s₁, rfl, itr_list G n l _, S, st, fun b o e => Heap.get?_push_of_some _ e, .push _, fun b hb => by rw [mem1 hb]; exact Nat.le_refl _, ⟨_, Heap.get?_push_size _ rfl, rfl, rfl⟩, p⟩
  · exact p.elim

theorem truth_goT {a : AV} {v : Value} {Φ : Bool → Sto → Prop} {b : Bool} (S : St G B H env ρ σ s₁) (st : Step H s s₁) (ra : Rel H s₁.heap a v) (e : truthV σ a = some b) (p : Φ b σ) :
    wpAny G.M A (truthy v) (fun b s' => ∃ σ', St G B H env ρ σ' s' ∧ Step H s s' ∧ Φ b σ') (QX G B H env Ψ s) s₁ :=
  truth_ok ra e ⟨σ, S, st, p⟩

noncomputable def plainTrue (e : Expr) (env : Env) : Prop := ∀ whole, isTrue e env whole = (do let v ← whole; standAt e.pos; holding [v] (truthy v))
/-- by its value alone -/
theorem Snd.of_v {e : Expr} {f : Loc → Sto → PE → PY → Prop} (he : plainTrue e env)
    (hv : ∀ {B H A ρ σ s Φ Ψ}, Cx G B H A env n → St G B H env ρ σ s → f ρ σ Φ Ψ → Go G B H A env ρ s (eval e env) Φ (PXof ρ Ψ)) : Snd G n env e (Tr.plain n f) where
  v := hv
  t := fun {B H A ρ σ s Φ Ψ} C S p => by
    refine isTrue_plain (Go.after' (hv C S p) fun v s₁ a σ₁ ra S₁ st q => ?_) (he _)
    obtain ⟨b, e, q⟩ := q
    exact truth_goT S₁ st ra e q
  i := fun {B H A ρ σ s Φ Ψ} C S hΦ p => iter_value C hΦ (hv C S p) fun a σ₁ q => q

theorem Snd.mk' {e : Expr} {V : Loc → Sto → PE → PY → Prop} {T : Loc → Sto → (Bool → Sto → Prop) → PY → Prop}
    (hv : ∀ {B H A ρ σ s Φ Ψ}, Cx G B H A env n → St G B H env ρ σ s → V ρ σ Φ Ψ → Go G B H A env ρ s (eval e env) Φ (PXof ρ Ψ))
    (ht : ∀ {B H A ρ σ s Φ Ψ}, Cx G B H A env n → St G B H env ρ σ s → T ρ σ Φ Ψ → GoT G B H A env ρ s (isTrue e env (eval e env)) Φ (PXof ρ Ψ)) : Snd G n env e ⟨V, T, Tr.iter n V⟩ :=
  ⟨hv, ht, fun C S hΦ p => iter_value C hΦ (hv C S p) fun _ _ q => q⟩

/-! ### names and constants -/
theorem snd_nm {x : Str} {pos : Pos} (hd : (x == ("__debug__" : Str)) = false) (hc : (x == ("__classdict__" : Str)) = false) (hz : x ≠ ".0") (hk : env.kindOf x = some .local ∨ env.kindOf x = some .cell ∨ env.kindOf x = some .free) : Snd G n env (.Name x pos) (tr G n (.nm x)) := by
  show Snd G n env _ (Tr.plain n _)
  refine .of_v (fun _ => rfl) fun {B H A ρ σ s Φ Ψ} C S p => ?_
  split at p
  · rename_i a e
    exact wpAny_Name (go_load C S hk hc hz e p) hd
  · exact p.elim
theorem snd_gl {x : Str} {pos : Pos} (hd : (x == ("__debug__" : Str)) = false) (hn : x ≠ "__name__") (hk : env.kindOf x = some .globalImplicit) : Snd G n env (.Name x pos) (tr G n (.gl x)) := by
  show Snd G n env _ (Tr.plain n _)
  exact .of_v (fun _ => rfl) fun {B H A ρ σ s Φ Ψ} C S p => go_glob C S hk hn pos hd p
theorem snd_int {i : Int} {k : Nat} {pos : Pos} : Snd G n env (.Constant (.int i) k pos) (tr G n (.cst (.int i))) := by
  show Snd G n env _ (Tr.plain n _)
  exact .of_v (fun _ => rfl) fun {B H A ρ σ s Φ Ψ} C S p => fun _ _ _ => qe (S.tok _) (Step.tok _ _ _) (by simp [Rel]) p
theorem snd_str {x : Str} {k : Nat} {pos : Pos} : Snd G n env (.Constant (.str x) k pos) (tr G n (.cst (.str x))) := by
  show Snd G n env _ (Tr.plain n _)
  exact .of_v (fun _ => rfl) fun {B H A ρ σ s Φ Ψ} C S p => Calls.Constant_str (qe (S.tok _) (Step.tok _ _ _) (by simp [Rel]) p)
theorem snd_bool {b : Bool} {k : Nat} {pos : Pos} : Snd G n env (.Constant (.bool b) k pos) (tr G n (.cst (.bool b))) := by
  show Snd G n env _ (Tr.plain n _)
  exact .of_v (fun _ => rfl) fun {B H A ρ σ s Φ Ψ} C S p => Constant_bool (qe S (.refl _ _) (by simp [Rel]) p)
theorem snd_none {k : Nat} {pos : Pos} : Snd G n env (.Constant .none k pos) (tr G n (.cst .none)) := by
  show Snd G n env _ (Tr.plain n _)
  exact .of_v (fun _ => rfl) fun {B H A ρ σ s Φ Ψ} C S p => Constant_none (qe S (.refl _ _) (by simp [Rel]) p)

/-! ### operators -/
theorem snd_bin {l r : Expr} {op : Operator} {pos : Pos} {a b : Ex} (ha : Snd G n env l (tr G n a)) (hb : Snd G n env r (tr G n b)) : Snd G n env (.BinOp l op r pos) (tr G n (.bin op a b)) := by
  show Snd G n env _ (Tr.plain n _)
  refine .of_v (fun _ => rfl) fun {B H A ρ σ s Φ Ψ} C S p => ?_
  exact wpAny_BinOp (Go.after' (ha.v C S p) fun v s₁ x σ₁ rx S₁ st₁ p₁ => Go.then st₁ (hb.v C S₁ p₁) fun u s₂ y σ₂ ry S₂ st₂ st₂' p₂ => Go.step st₂' (bin_ok S₂ (rx.grow st₂.grow) ry p₂))

theorem cmp_val {op : CmpOp} {a b : AV} {v u : Value} {Φ : Bool → Sto → Prop} {Q : Value → Shared → Prop} (C : Cx G B H A env n) (S : St G B H env ρ σ s₁) (st : Step H s s₁) (ra : Rel H s₁.heap a v) (rb : Rel H s₁.heap b u) (p : cmpV G op a b σ fun q => Φ q σ)
    (k : ∀ q s₂ σ₂, St G B H env ρ σ₂ s₂ → Step H s₁ s₂ → Step H s s₂ → Φ q σ₂ → Q (.bool q) s₂) : wpAny G.M A (compareOp op v u) Q (QX G B H env Ψ s) s₁ := by
  refine wpAny_mono (cmp_ok (Ψ := Ψ) C S ra rb p) (fun r s₂ q => ?_) fun _ _ x => x.step st
  obtain ⟨b, σ', rfl, S', st', p'⟩ := q
  exact k b s₂ σ' S' st' (st.trans st') p'

theorem snd_cmp {l r : Expr} {op : CmpOp} {pos : Pos} {a b : Ex} (hm : behindInMarks op r = false) (ha : Snd G n env l (tr G n a)) (hb : Snd G n env r (tr G n b)) : Snd G n env (.Compare l [op] [r] pos) (tr G n (.cmp op a b)) := by
  show Snd G n env _ (Tr.plain n _)
  have hv : ∀ {B H A ρ σ s Φ Ψ}, Cx G B H A env n → St G B H env ρ σ s → ((tr G n a).v ρ σ (fun a σ₁ => (tr G n b).v ρ σ₁ (fun b σ₂ => cmpV G op a b σ₂ fun q => Φ (.bool q) σ₂) Ψ) Ψ) → Go G B H A env ρ s (eval (.Compare l [op] [r] pos) env) Φ (PXof ρ Ψ) := fun {B H A ρ σ s Φ Ψ} C S p =>
    wpAny_Compare1 (Go.after' (ha.v C S p) fun v s₁ x σ₁ rx S₁ st₁ p₁ => Go.then st₁ (hb.v C S₁ p₁) fun u s₂ y σ₂ ry S₂ st₂ st₂' p₂ => cmp_val (Φ := fun q σ => Φ (.bool q) σ) C S₂ st₂' (rx.grow st₂.grow) ry p₂ fun q s₃ σ₃ S₃ _ st₃ p₃ => qe S₃ st₃ (by simp [Rel]) p₃) hm
  refine Snd.mk' hv fun {B H A ρ σ s Φ Ψ} C S p => ?_
  exact wpAny_isTrue_Compare1 (Go.after' (ha.v C S p) fun v s₁ x σ₁ rx S₁ st₁ p₁ => Go.then st₁ (hb.v C S₁ p₁) fun u s₂ y σ₂ ry S₂ st₂ st₂' p₂ => cmp_val (Φ := fun q σ => ∃ b, truthV σ (.bool q) = some b ∧ Φ b σ) C S₂ st₂' (rx.grow st₂.grow) ry p₂ fun q s₃ σ₃ S₃ _ st₃ p₃ => by
    obtain ⟨b, e, p₃⟩ := p₃
    exact truth_goT S₃ st₃ (a := .bool q) (by simp [Rel]) e p₃) hm

theorem snd_cmp2 {l m r : Expr} {o1 o2 : CmpOp} {pos : Pos} {a b c : Ex} (hm : lastMarks [o1, o2] [m, r] = false) (ha : Snd G n env l (tr G n a)) (hb : Snd G n env m (tr G n b)) (hc : Snd G n env r (tr G n c)) : Snd G n env (.Compare l [o1, o2] [m, r] pos) (tr G n (.cmp2 o1 o2 a b c)) := by
  show Snd G n env _ (Tr.plain n _)
  have hv : ∀ {B H A ρ σ s Φ Ψ}, Cx G B H A env n → St G B H env ρ σ s → ((tr G n a).v ρ σ (fun a σ₁ => (tr G n b).v ρ σ₁ (fun b σ₂ => cmpV G o1 a b σ₂ fun q =>
      if q = true then (tr G n c).v ρ σ₂ (fun c σ₃ => cmpV G o2 b c σ₃ fun q' => Φ (.bool q') σ₃) Ψ else Φ (.bool false) σ₂) Ψ) Ψ) → Go G B H A env ρ s (eval (.Compare l [o1, o2] [m, r] pos) env) Φ (PXof ρ Ψ) := fun {B H A ρ σ s Φ Ψ} C S p => by
    refine Compare_chain (ops := []) (rs := []) (Go.after' (ha.v C S p) fun v s₁ x σ₁ rx S₁ st₁ p₁ => chain_link (Go.then st₁ (hb.v C S₁ p₁) fun u s₂ y σ₂ ry S₂ st₂ st₂' p₂ => cmp_val (Φ := fun q σ => if q = true then (tr G n c).v ρ σ (fun c σ₃ => cmpV G o2 y c σ₃ fun q' => Φ (.bool q') σ₃) Ψ else Φ (.bool false) σ) C S₂ st₂' (rx.grow st₂.grow) ry p₂ fun q s₃ σ₃ S₃ st3 st₃ p₃ => wpAny_truthy_bool ?_)) hm
    cases q with
    | false => exact qe S₃ st₃ (by simp [Rel]) p₃
    | true => exact chain_last (Go.then st₃ (hc.v C S₃ p₃) fun w s₄ z σ₄ rz S₄ st₄ st₄' p₄ => cmp_val (Φ := fun q σ => Φ (.bool q) σ) C S₄ st₄' ((ry.grow st3.grow).grow st₄.grow) rz p₄ fun q s₃ σ₃ S₃ _ st₃ p₃ => qe S₃ st₃ (by simp [Rel]) p₃)
  refine Snd.mk' hv fun {B H A ρ σ s Φ Ψ} C S p => ?_
  refine isTrue_chain (ops := []) (rs := []) (Go.after' (ha.v C S p) fun v s₁ x σ₁ rx S₁ st₁ p₁ => test_link (Go.then st₁ (hb.v C S₁ p₁) fun u s₂ y σ₂ ry S₂ st₂ st₂' p₂ => cmp_val (Φ := fun q σ => if q = true then (tr G n c).v ρ σ (fun c σ₃ => cmpV G o2 y c σ₃ fun q' => ∃ b, truthV σ₃ (.bool q') = some b ∧ Φ b σ₃) Ψ else ∃ b, truthV σ (.bool false) = some b ∧ Φ b σ) C S₂ st₂' (rx.grow st₂.grow) ry p₂ fun q s₃ σ₃ S₃ st3 st₃ p₃ => wpAny_truthy_bool ?_)) hm
  cases q with
  | false =>
    obtain ⟨b, e, p₃⟩ := p₃
    simp only [truthV] at e; cases e
    exact ⟨σ₃, S₃, st₃, p₃⟩
  | true =>
    exact test_last (Go.then st₃ (hc.v C S₃ p₃) fun w s₄ z σ₄ rz S₄ st₄ st₄' p₄ => cmp_val (Φ := fun q σ => ∃ b, truthV σ (.bool q) = some b ∧ Φ b σ) C S₄ st₄' ((ry.grow st3.grow).grow st₄.grow) rz p₄ fun q s₃ σ₃ S₃ _ st₃ p₃ => by
      obtain ⟨b, e, p₃⟩ := p₃
      exact truth_goT S₃ st₃ (a := .bool q) (by simp [Rel]) e p₃)

noncomputable def isStar : Expr → Bool
  | .Starred .. => true
  | _ => false
theorem starEach_cons {e : Expr} {rest : List Expr} (h : isStar e = false) : starEach (e :: rest) env = (false, eval e env) :: starEach rest env := by cases e <;> first | rfl | cases h
inductive SndL (G : PG) (n : Nat) (env : Env) : List Expr → List Tr → Prop
  | nil : SndL G n env [] []
  | cons {e es T Ts} : Snd G n env e T → isStar e = false → SndL G n env es Ts → SndL G n env (e :: es) (T :: Ts)

theorem snd_andL {pos : Pos} : ∀ {es : List Expr} {Ts : List Tr}, SndL G n env es Ts → ∀ {B H A ρ σ s Φ Ψ}, Cx G B H A env n → St G B H env ρ σ s → andV Ts ρ σ Φ Ψ → Go G B H A env ρ s (eval (.BoolOp .And es pos) env) Φ (PXof ρ Ψ) := by
  intro es Ts h
  induction h with
  | nil => intro _ _ _ _ _ _ _ _ _ _ p; exact p.elim
  | cons h _ t ih =>
    intro B H A ρ σ s Φ Ψ C S p
    cases t with
    | nil => exact BoolOp_one (h.v C S p)
    | cons h' b' t' =>
      refine BoolOp_and (Go.after' (h.v C S p) fun v s₁ a σ₁ ra S₁ st₁ p₁ => ?_)
      obtain ⟨b, e, p₁⟩ := p₁
      refine truth_ok ra e ?_
      cases b with
      | false => exact qe S₁ st₁ ra p₁
      | true => exact Go.step st₁ (ih C S₁ p₁)
theorem snd_orL {pos : Pos} : ∀ {es : List Expr} {Ts : List Tr}, SndL G n env es Ts → ∀ {B H A ρ σ s Φ Ψ}, Cx G B H A env n → St G B H env ρ σ s → orV Ts ρ σ Φ Ψ → Go G B H A env ρ s (eval (.BoolOp .Or es pos) env) Φ (PXof ρ Ψ) := by
  intro es Ts h
  induction h with
  | nil => intro _ _ _ _ _ _ _ _ _ _ p; exact p.elim
  | cons h _ t ih =>
    intro B H A ρ σ s Φ Ψ C S p
    cases t with
    | nil => exact BoolOp_one (h.v C S p)
    | cons h' b' t' =>
      refine BoolOp_or (Go.after' (h.v C S p) fun v s₁ a σ₁ ra S₁ st₁ p₁ => ?_)
      obtain ⟨b, e, p₁⟩ := p₁
      refine truth_ok ra e ?_
      cases b with
      | false => exact Go.step st₁ (ih C S₁ p₁)
      | true => exact qe S₁ st₁ ra p₁
theorem snd_allT {pos : Pos} {whole : Sem Value} : ∀ {es : List Expr} {Ts : List Tr}, SndL G n env es Ts → ∀ {B H A ρ σ s Φ Ψ}, Cx G B H A env n → St G B H env ρ σ s → allT Ts ρ σ Φ Ψ → GoT G B H A env ρ s (isTrue (.BoolOp .And es pos) env whole) Φ (PXof ρ Ψ) := by
  intro es Ts h
  induction h with
  | nil => intro B H A ρ σ s Φ Ψ C S p; exact isTrue_and_nil ⟨σ, S, .refl _ _, p⟩
  | cons h _ t ih =>
    intro B H A ρ σ s Φ Ψ C S p
    refine isTrue_and (wpAny_mono (h.t C S p) (fun b s₁ q => ?_) fun _ _ x => x)
    obtain ⟨σ₁, S₁, st₁, p₁⟩ := q
    cases b with
    | false => exact ⟨σ₁, S₁, st₁, p₁⟩
    | true => exact GoT.step st₁ (ih C S₁ p₁)
theorem snd_anyT {pos : Pos} {whole : Sem Value} : ∀ {es : List Expr} {Ts : List Tr}, SndL G n env es Ts → ∀ {B H A ρ σ s Φ Ψ}, Cx G B H A env n → St G B H env ρ σ s → anyT Ts ρ σ Φ Ψ → GoT G B H A env ρ s (isTrue (.BoolOp .Or es pos) env whole) Φ (PXof ρ Ψ) := by
  intro es Ts h
  induction h with
  | nil => intro B H A ρ σ s Φ Ψ C S p; exact isTrue_or_nil ⟨σ, S, .refl _ _, p⟩
  | cons h _ t ih =>
    intro B H A ρ σ s Φ Ψ C S p
    refine isTrue_or (wpAny_mono (h.t C S p) (fun b s₁ q => ?_) fun _ _ x => x)
    obtain ⟨σ₁, S₁, st₁, p₁⟩ := q
    cases b with
    | false => exact GoT.step st₁ (ih C S₁ p₁)
    | true => exact ⟨σ₁, S₁, st₁, p₁⟩
theorem snd_and {es : List Expr} {as : List Ex} {pos : Pos} (h : SndL G n env es (trs G n as)) : Snd G n env (.BoolOp .And es pos) (tr G n (.and_ as)) := by
  show Snd G n env _ { Tr.plain n (andV (trs G n as)) with t := allT (trs G n as) }
  exact Snd.mk' (fun C S p => snd_andL h C S p) fun C S p => snd_allT h C S p
theorem snd_or {es : List Expr} {as : List Ex} {pos : Pos} (h : SndL G n env es (trs G n as)) : Snd G n env (.BoolOp .Or es pos) (tr G n (.or_ as)) := by
  show Snd G n env _ { Tr.plain n (orV (trs G n as)) with t := anyT (trs G n as) }
  exact Snd.mk' (fun C S p => snd_orL h C S p) fun C S p => snd_anyT h C S p
theorem snd_not {e : Expr} {a : Ex} {pos : Pos} (h : Snd G n env e (tr G n a)) : Snd G n env (.UnaryOp .Not e pos) (tr G n (.not_ a)) := by
  show Snd G n env _ { Tr.plain n (fun ρ σ Φ Ψ => (tr G n a).v ρ σ (fun a σ₁ => ∃ b, truthV σ₁ a = some b ∧ Φ (.bool (!b)) σ₁) Ψ) with t := fun ρ σ Φ Ψ => (tr G n a).t ρ σ (fun b σ₁ => Φ (!b) σ₁) Ψ }
  have hv : ∀ {B H A ρ σ s Φ Ψ}, Cx G B H A env n → St G B H env ρ σ s → ((tr G n a).v ρ σ (fun a σ₁ => ∃ b, truthV σ₁ a = some b ∧ Φ (.bool (!b)) σ₁) Ψ) → Go G B H A env ρ s (eval (.UnaryOp .Not e pos) env) Φ (PXof ρ Ψ) := fun {B H A ρ σ s Φ Ψ} C S p => by
    refine UnaryOp_ (Go.after' (h.v C S p) fun v s₁ a σ₁ ra S₁ st₁ p₁ => not_of ?_)
    obtain ⟨b, e, p₁⟩ := p₁
    exact truth_ok ra e (qe S₁ st₁ (by simp [Rel]) p₁)
  refine Snd.mk' hv fun {B H A ρ σ s Φ Ψ} C S p => ?_
  exact isTrue_not (h.t C S p)
theorem snd_neg {e : Expr} {a : Ex} {pos : Pos} (h : Snd G n env e (tr G n a)) : Snd G n env (.UnaryOp .USub e pos) (tr G n (.neg a)) := by
  show Snd G n env _ (Tr.plain n _)
  refine .of_v (fun _ => rfl) fun {B H A ρ σ s Φ Ψ} C S p => ?_
  refine UnaryOp_ (Go.after' (h.v C S p) fun v s₁ a σ₁ ra S₁ st₁ p₁ => ?_)
  split at p₁
  · simp only [Rel] at ra
    obtain ⟨t, rfl⟩ := ra
    exact PyProof.Rows.neg_int (qe (S₁.tok _) (st₁.trans (Step.tok _ _ _)) (by simp [Rel]) p₁)
  · exact p₁.elim
theorem snd_sub {e i : Expr} {a b : Ex} {pos : Pos} (hs : notSlice i = true) (ha : Snd G n env e (tr G n a)) (hb : Snd G n env i (tr G n b)) : Snd G n env (.Subscript e i pos) (tr G n (.sub a b)) := by
  show Snd G n env _ (Tr.plain n _)
  refine .of_v (fun _ => rfl) fun {B H A ρ σ s Φ Ψ} C S p => ?_
  exact Subscript_ (Go.after' (ha.v C S p) fun v s₁ x σ₁ rx S₁ st₁ p₁ => Go.then st₁ (hb.v C S₁ p₁) fun u s₂ y σ₂ ry S₂ st₂ st₂' p₂ => Go.step st₂' (sub_ok hs S₂ (rx.grow st₂.grow) ry p₂))

inductive SndO (G : PG) (n : Nat) (env : Env) : Option Expr → Option Tr → Prop
  | none : SndO G n env none none
  | some {e T} : Snd G n env e T → SndO G n env (some e) (some T)
noncomputable def noSuper : Expr → Bool
  | .Name .. => true
  | .Attribute .. => true
  | .Subscript .. => true
  | _ => false
theorem noSuper_eval {e : Expr} {x : Str} {w : Sem Value} (h : noSuper e = true) : attributeBase e x env w = w := by
  cases e with
  | Name _ _ => rfl
  | Attribute _ _ _ => rfl
  | Subscript _ _ _ => rfl
  | _ => cases h
theorem snd_attr {e : Expr} {a : Ex} {x : Str} {pos : Pos} (hn : noSuper e = true) (ha : Snd G n env e (tr G n a)) : Snd G n env (.Attribute e x pos) (tr G n (.attr a x)) := by
  show Snd G n env _ (Tr.plain n _)
  refine .of_v (fun _ => rfl) fun {B H A ρ σ s Φ Ψ} C S p => ?_
  refine Attribute_any_ (Go.after' (ha.v C S p) fun v s₁ o σ₁ ro S₁ st₁ p₁ => Go.step st₁ (attr_ok C S₁ ro p₁)) ?_
  have : eval (.Attribute e x pos) env = (do
    let o ← attributeBase e x env (eval e env)
    standAt pos.atName
    let r ← holding [o] (getAttr o x true)
    letTemporaryGo e o r
    pure r) := rfl
  rw [this, noSuper_eval hn]

/-! ### rows of arguments -/
theorem snd_seq {pos : Pos} : ∀ {es : List Expr} {Ts : List Tr}, SndL G n env es Ts → ∀ {B H A ρ σ s Φ Ψ}, Cx G B H A env n → St G B H env ρ σ s → seqV Ts ρ σ Φ Ψ → GoL G B H A env ρ s (spliced (backTo pos (starEach es env))) Φ (PXof ρ Ψ) := by
  intro es Ts h
  induction h with
  | nil => intro B H A ρ σ s Φ Ψ C S p; exact wpAny_pure ⟨[], σ, .nil, S, .refl _ _, p⟩
  | cons h hs t ih =>
    intro B H A ρ σ s Φ Ψ C S p
    refine args_cons (Go.after' (h.v C S p) fun v s₁ a σ₁ ra S₁ st₁ p₁ => ?_) (starEach_cons hs)
    exact GoL.then st₁ (ih C S₁ p₁) fun vs s₂ as σ₂ rs S₂ st₂ st₂' p₂ => ⟨a :: as, σ₂, .cons (ra.grow st₂.grow) rs, S₂, st₂', p₂⟩
theorem plain_args {pos : Pos} : ∀ {es : List Expr} {Ts : List Tr}, SndL G n env es Ts → (backTo pos (starEach es env)).any (·.1) = false := by
  intro es Ts h
  induction h with
  | nil => rfl
  | cons h hs t ih =>
    rw [starEach_cons hs]
    show (false || (backTo pos (starEach _ env)).any (·.1)) = false
    rw [ih]; rfl
theorem evalArgs_ok {pos : Pos} {f : Value} {es : List Expr} {Ts : List Tr} {Q : Args → Shared → Prop} {E : Value → Shared → Prop} (h : SndL G n env es Ts) (k : wpAny G.M A (spliced (backTo pos (starEach es env))) (fun vs s' => Q ⟨vs, []⟩ s') E s) :
    wpAny G.M A (evalArgs f true (backTo pos (starEach es env)) []) Q E s := by
  cases h with
  | nil =>
    unfold evalArgs
    show wpAny G.M A (spliced [] >>= _) Q E s
    refine wpAny_bind (wpAny_mono k (fun vs s' h' => ?_) fun _ _ x => x)
    refine wpAny_bind (wpAny_pure (wpAny_holding ?_))
    exact wpAny_bind (wpAny_pure (wpAny_bind (wpAny_pure (wpAny_pure h'))))
  | cons h hs t =>
    rw [starEach_cons hs] at k ⊢
    exact Calls.evalArgs_plain k
end
end Mine
set_option maxRecDepth 100000
namespace Mine
open PySem PyProof.Rows

variable {G : PG}
section
variable {B : Heap} {H : Hid} {A : Around} {env : Env} {n : Nat} {ρ : Loc} {σ : Sto} {s s₁ : Shared} {Ψ : PX}

theorem go_newTup {vs : List AV} {ws : List Value} {Φ : PE} (S : St G B H env ρ σ s) (r : RelL H s.heap vs ws) (p : Φ (.tup vs) σ) : QE G B H env ρ Φ s (.ref s.heap.objs.size) { s with heap := s.heap.push { cls := .type "tuple", data := .seq ws.toArray } } := by
  have k : ∀ b o, s.heap.get? b = some o → (s.heap.push { cls := .type "tuple", data := .seq ws.toArray }).get? b = some o := fun b o e => Heap.get?_push_of_some _ e
  refine qe (S.push _) (.push _) (a := .tup vs) ?_ p
  simp only [Rel]
  exact ⟨s.heap.objs.size, ws.toArray, rfl, ⟨_, Heap.get?_push_size _ rfl, rfl, _, rfl⟩, S.fresh_hid, by simpa using r.grow (.of_keep k)⟩

theorem snd_tup {es : List Expr} {as : List Ex} {k : Nat} {pos : Pos} (h : SndL G n env es (trs G n as)) : Snd G n env (.Tuple es k pos) (tr G n (.tup as)) := by
  show Snd G n env _ (Tr.plain n _)
  refine .of_v (fun _ => rfl) fun {B H A ρ σ s Φ Ψ} C S p => ?_
  refine wpAny_Tuple (GoL.after (snd_seq h C S p) fun vs s₁ as σ₁ rs S₁ st₁ p₁ => ⟨by rw [rs.length]; exact p₁.1, ?_⟩)
  exact (go_newTup S₁ rs p₁.2).step st₁
theorem snd_list {es : List Expr} {as : List Ex} {pos : Pos} (h : SndL G n env es (trs G n as)) : Snd G n env (.List es pos) (tr G n (.list as)) := by
  show Snd G n env _ (Tr.plain n _)
  refine .of_v (fun _ => rfl) fun {B H A ρ σ s Φ Ψ} C S p => ?_
  show wpAny G.M A (do standAt pos; PySem.newList (← spliced (backTo pos (starEach es env)))) _ _ s
  refine wpAny_bind (wpAny_standAt (wpAny_bind (GoL.after (snd_seq h C S p) fun vs s₁ as σ₁ rs S₁ st₁ p₁ => ?_)))
  refine wpAny_newObj_type ?_ (by show vs.toArray.size ≤ sizeLine; rw [List.size_toArray, rs.length]; exact p₁.1)
  exact (go_newList (Q := fun v s' => QE G B H env ρ Φ s₁ v s') S₁ rs p₁ fun s' q _ => q).step st₁

theorem keep_ok {fa : Addr} {h : Heap} (hT : G.T B) (hk : KeepOk G fa) (X : W.Frag.In G.K h) (k : B.StaysIn h) : ∃ k, (k = Keeper.frame ∨ k = Keeper.machine ∨ k = Keeper.boundFrame) ∧ W.Looks G.M h (keeperOf (.ref fa)) k := by
  rcases hk with hk | hk
  · exact W.keeps_K hk h X
  · obtain ⟨o, fd, ho, hd⟩ := hk B hT
    refine ⟨.frame, .inl rfl, fun A Q E s k' q => ?_⟩
    unfold keeperOf
    refine wpAny_bind (wpAny_load (k' _ _ (k _ _ ho)) ?_)
    rw [hd]
    exact wpAny_pure q

/-- a global function or class is called -/
theorem snd_call {f : Str} {pf pos : Pos} {es : List Expr} {as : List Ex} (hd : (f == ("__debug__" : Str)) = false) (hn : f ≠ "__name__") (hk : env.kindOf f = some .globalImplicit) (h : SndL G n env es (trs G n as)) : Snd G n env (.Call (.Name f pf) es [] pos) (tr G n (.call f as)) := by
  show Snd G n env _ (Tr.plain n _)
  refine .of_v (fun _ => rfl) fun {B H A ρ σ s Φ Ψ} C S p => ?_
  obtain ⟨fa, hf, hke, p⟩ := p
  refine Call_ (Go.after' (go_glob (Φ := fun a σ' => a = .ref fa ∧ σ' = σ) C S hk hn pf hd (by unfold globV; rw [hf]; exact ⟨rfl, rfl⟩)) fun fv s₁ a σ₁ ra S₁ st₁ q => ?_)
  obtain ⟨rfl, rfl⟩ := q
  simp only [Rel] at ra; subst ra
  refine W.callWith_of (P := fun h => W.Frag.In G.K h ∧ B.StaysIn h) (by rw [plain_args h]; rfl) (fun h X => keep_ok C.T hke X.1 X.2) (evalArgs_ok h (GoL.then st₁ (snd_seq h C S₁ p) fun vs s₂ as σ₂ rs S₂ st₂ st₂' p₂ => ⟨⟨inK_at C S₂, S₂.keep⟩, ?_⟩))
  have := p₂ B H A env ρ s₂ vs (.ref fa) C.T C.E C.A S₂ rs (by simp [Rel])
  exact wpAny_mono this (fun _ _ q => q.step st₂') fun _ _ q => q.step st₂'

theorem boot_all : (bnames.all fun f => match bootBuiltins f with | some (.builtin _) => true | some (.type _) => true | _ => false) = true := by decide +kernel
theorem boot_kind {f : Str} (hf : f ∈ bnames) : (∃ id, bootBuiltins f = some (.builtin id)) ∨ (∃ T, bootBuiltins f = some (.type T)) := by
  have := List.all_eq_true.mp boot_all f hf
  split at this
  · rename_i id e; exact .inl ⟨id, e⟩
  · rename_i T e; exact .inr ⟨T, e⟩
  · cases this

/-- a builtin by its name: the arguments, then the call -/
theorem bi_call {f : Str} {pf pos : Pos} {es : List Expr} {Ts : List Tr} {Φ : List AV → Sto → Prop} {Ψ : PY} {Q : Value → Shared → Prop} (hb : f ∈ bnames) (hd : (f == ("__debug__" : Str)) = false) (hn : f ≠ "__name__") (hk : env.kindOf f = some .globalImplicit) (h : SndL G n env es Ts)
    (C : Cx G B H A env n) (S : St G B H env ρ σ s) (p : seqV Ts ρ σ Φ Ψ)
    (k : ∀ fv vs s₁ as σ₁, bootBuiltins f = some fv → RelL H s₁.heap as vs → St G B H env ρ σ₁ s₁ → Step H s s₁ → Φ as σ₁ → wpAny G.M A (call fv vs) Q (QX G B H env (PXof ρ Ψ) s) s₁) :
    wpAny G.M A (eval (.Call (.Name f pf) es [] pos) env) Q (QX G B H env (PXof ρ Ψ) s) s := by
  rcases boot_kind hb with ⟨id, e⟩ | ⟨T, e⟩
  · refine Call_ (Go.after' (go_glob (Φ := fun a σ' => a = .val (.builtin id) ∧ σ' = σ) C S hk hn pf hd (by unfold globV; rw [G.nob f hb]; exact ⟨_, e, rfl, rfl⟩)) fun fv s₁ a σ₁ ra S₁ st₁ q => ?_)
    obtain ⟨rfl, rfl⟩ := q
    simp only [Rel] at ra; subst ra
    exact Calls.callWith_builtin (plain_args h) (evalArgs_ok h (GoL.then st₁ (snd_seq h C S₁ p) fun vs s₂ as σ₂ rs S₂ st₂ st₂' p₂ => k _ vs s₂ as σ₂ e rs S₂ st₂' p₂))
  · refine Call_ (Go.after' (go_glob (Φ := fun a σ' => a = .val (.type T) ∧ σ' = σ) C S hk hn pf hd (by unfold globV; rw [G.nob f hb]; exact ⟨_, e, rfl, rfl⟩)) fun fv s₁ a σ₁ ra S₁ st₁ q => ?_)
    obtain ⟨rfl, rfl⟩ := q
    simp only [Rel] at ra; subst ra
    exact PyProof.Rows.callWith_type (plain_args h) (evalArgs_ok h (GoL.then st₁ (snd_seq h C S₁ p) fun vs s₂ as σ₂ rs S₂ st₂ st₂' p₂ => k _ vs s₂ as σ₂ e rs S₂ st₂' p₂))

theorem log2_small {c : Int} (h : 0 < c) (h' : c < 1000) : c.natAbs.log2 < 9000 := by
  have hq : c.natAbs ≠ 0 := by omega
  have : c.natAbs < 2 ^ 10 := by omega
  have := (Nat.log2_lt hq).mpr this
  omega
theorem rangeSize_bd {a b c : Int} (hc : 0 < c) : 0 ≤ Builtin.Range.rangeSize a b c ∧ (Builtin.Range.rangeSize a b c ≤ b - a ∨ Builtin.Range.rangeSize a b c = 0) := by
  unfold Builtin.Range.rangeSize
  rw [if_pos hc]
  split
  · have h1 : 0 ≤ (b - a - 1) / c := Int.ediv_nonneg (by first | decide | (with_reducible first | exact lv hn | exact lv1 hn | exact lv2 hn | exact Int.natCast_nonneg _) | omega) (by first | decide | (with_reducible first | exact lv hn | exact lv1 hn | exact lv2 hn | exact Int.natCast_nonneg _) | omega)
    have h2 : (b - a - 1) / c ≤ b - a - 1 := Int.ediv_le_self _ (by first | decide | (with_reducible first | exact lv hn | exact lv1 hn | exact lv2 hn | exact Int.natCast_nonneg _) | omega)
    omega
  · omega
theorem small_pos {a b c : Int} (ha : -(2 ^ 62) ≤ a) (ha' : a < 2 ^ 62) (hb : -(2 ^ 62) ≤ b) (hb' : b < 2 ^ 62) (hc : 0 < c) (hc' : c < 1000) : Builtin.Range.small a b c = true := by
  obtain ⟨h1, h2⟩ := rangeSize_bd (a := a) (b := b) hc
  unfold Builtin.Range.small
  simp only [Builtin.Range.rangeFitsLong, Bool.and_eq_true, Bool.or_eq_true, decide_eq_true_eq, beq_iff_eq, if_pos hc]
  refine ⟨⟨⟨⟨⟨Int.le_trans (by decide) ha, Int.lt_trans ha' (by decide)⟩, Int.le_trans (by decide) hb, Int.lt_trans hb' (by decide)⟩, Int.le_trans (by decide) (Int.le_of_lt hc), Int.lt_trans hc' (by decide)⟩, Int.le_trans (by decide) h1, ?_⟩, .inr ⟨Int.le_trans (Int.le_trans (by decide) hb) (Int.le_add_of_nonneg_right (Int.sub_nonneg_of_le hc)), Int.lt_of_lt_of_le (Int.add_lt_add hb' (Int.lt_trans (Int.sub_lt_self c (by decide)) hc')) (by decide)⟩⟩
  exact h2.elim (fun h => Int.lt_of_le_of_lt h (Int.lt_of_lt_of_le (Int.sub_lt_sub_of_lt_of_le hb' ha) (by decide))) fun h => h ▸ by decide

/-- a range is iterated -/
theorem range_iter {a b c : Int} {t u v : Tok} {r : Addr} {Φ : Src → Sto → Prop} (hn : 10 ≤ n) (S : St G B H env ρ σ s₁) (st : Step H s s₁) (hr : IsRange s₁.heap r a b c t u v) (hs : Builtin.Range.small a b c = true) (hc : 0 < c) (p : Φ (.vals (rangeL a b c)) σ) :
    wpAny G.M A (pyIter (.ref r)) (ItrAt G n B H env ρ s Φ) (QX G B H env Ψ s) s₁ := by
  refine wpAny_pyIter_range hr hs ⟨_, s₁.heap.objs.size, [s₁.heap.objs.size], _, σ, s₁, rfl, itr_range G n hn a b c _, S, st, fun b o e => Heap.get?_push_of_some _ e, .push _, fun b hb => by rw [mem1 hb]; exact Nat.le_refl _, ?_, p⟩
  have := (rangeSize_bd (a := a) (b := b) hc).1
  have e : ((Builtin.Range.rangeSize a b c).toNat : Int) - ((0 : Nat) : Int) = Builtin.Range.rangeSize a b c := by omega
  show IsRangeIter _ _ (a + ((0 : Nat) : Int) * c) _ c
  rw [e, show a + ((0 : Nat) : Int) * c = a by simp]
  exact Heap.get?_push_size _ rfl

theorem snd_bi {f : Str} {pf pos : Pos} {es : List Expr} {as : List Ex} (hb : f ∈ bnames) (hd : (f == ("__debug__" : Str)) = false) (hn : f ≠ "__name__") (hk : env.kindOf f = some .globalImplicit) (h : SndL G n env es (trs G n as)) : Snd G n env (.Call (.Name f pf) es [] pos) (tr G n (.bi f as)) := by
  show Snd G n env _ { Tr.plain n (fun ρ σ Φ Ψ => seqV (trs G n as) ρ σ (fun as σ₁ => biV G n f as σ₁ Φ) Ψ) with i := biI G n f (trs G n as) }
  have hv : ∀ {B H A ρ σ s Φ Ψ}, Cx G B H A env n → St G B H env ρ σ s → (seqV (trs G n as) ρ σ (fun as σ₁ => biV G n f as σ₁ Φ) Ψ) → Go G B H A env ρ s (eval (.Call (.Name f pf) es [] pos) env) Φ (PXof ρ Ψ) := fun {B H A ρ σ s Φ Ψ} C S p =>
    bi_call hb hd hn hk h C S p fun fv vs s₁ as σ₁ e rs S₁ st₁ p₁ => Go.step st₁ (bi_ok e C S₁ rs p₁)
  refine ⟨hv, (Snd.of_v (e := .Call (.Name f pf) es [] pos) (fun _ => rfl) hv).t, fun {B H A ρ σ s Φ Ψ} C S hΦ p => ?_⟩
  have p : biI G n f (trs G n as) ρ σ Φ Ψ := p
  unfold biI at p
  split at p
  · rename_i e; subst e
    refine bi_call hb hd hn hk h C S p fun fv vs s₁ as σ₁ e rs S₁ st₁ p₁ => ?_
    rw [show bootBuiltins "range" = some (.type "range") from by decide +kernel] at e; cases e
    obtain ⟨h10, p₁⟩ := p₁
    unfold rangeV at p₁
    split at p₁
    · simp only [RelL, Rel] at rs
      obtain ⟨v, _, rfl, ⟨t, rfl⟩, rfl⟩ := rs
      exact call_range_1 (range_iter h10 ((S₁.push _).tok _) ((st₁.trans (.push _)).trans (Step.tok _ _ _)) (IsRange.new _ _ _ _ _ _ _) (small_pos (by first | decide | (with_reducible first | exact lv hn | exact lv1 hn | exact lv2 hn | exact Int.natCast_nonneg _) | omega) (by first | decide | (with_reducible first | exact lv hn | exact lv1 hn | exact lv2 hn | exact Int.natCast_nonneg _) | omega) p₁.1 p₁.2.1 (by first | decide | (with_reducible first | exact lv hn | exact lv1 hn | exact lv2 hn | exact Int.natCast_nonneg _) | omega) (by first | decide | (with_reducible first | exact lv hn | exact lv1 hn | exact lv2 hn | exact Int.natCast_nonneg _) | omega)) (by first | decide | (with_reducible first | exact lv hn | exact lv1 hn | exact lv2 hn | exact Int.natCast_nonneg _) | omega) p₁.2.2)
    · simp only [RelL, Rel] at rs
      obtain ⟨v, _, rfl, ⟨t, rfl⟩, v', _, rfl, ⟨t', rfl⟩, v'', _, rfl, ⟨t'', rfl⟩, rfl⟩ := rs
      obtain ⟨q1, q2, q3, q4, q5, q6, p₁⟩ := p₁
      refine call_range_3 (by first | decide | (with_reducible first | exact lv hn | exact lv1 hn | exact lv2 hn | exact Int.natCast_nonneg _) | omega) (range_iter h10 ((S₁.push _).tok _) ((st₁.trans (.push _)).trans (Step.tok _ _ _)) (IsRange.new _ _ _ _ _ _ _) (small_pos q1 q2 q3 q4 q5 q6) q5 p₁) (.inl (PyProof.noPylong_of_log2 ?_))
      exact log2_small q5 q6
    · exact p₁.elim
  · exact iter_value C hΦ (hv C S p) fun a σ₁ q => q
end
end Mine
set_option maxRecDepth 100000
namespace Mine
open PySem PyProof.Rows

variable {G : PG}
section
variable {B : Heap} {H : Hid} {A : Around} {env : Env} {n : Nat} {ρ : Loc} {σ : Sto} {s s₁ : Shared}

/-! ### methods -/
theorem few_of {pos : Pos} : ∀ {es : List Expr} {Ts : List Tr}, SndL G n env es Ts → (backTo pos (starEach es env)).all (fun x => !x.1) = true := by
  intro es Ts h
  induction h with
  | nil => rfl
  | cons h hs t ih =>
    rw [starEach_cons hs]
    show (!false && (backTo pos (starEach _ env)).all (fun x => !x.1)) = true
    rw [ih]; rfl
theorem meth_eval {o : Expr} {name : Str} {apos pos : Pos} {es : List Expr} {Ts : List Tr} (h : SndL G n env es Ts) (hn : noSuper o = true) (h30 : es.length < 30) (hl : (apos.endLine == pos.line) = true) :
    eval (.Call (.Attribute o name apos) es [] pos) env = (do
      let ov ← eval o env
      standAt apos.atName
      let (f, first) ← holding [ov] (getMethod ov name (do return (← importBound o env).getD true))
      callWith pos f first (backTo pos (starEach es env)) []) := by
  have e : eval (.Call (.Attribute o name apos) es [] pos) env = (do
      let ov ← attributeBase o name env (eval o env)
      standAt apos.atName
      methodCall o name apos pos env ov (es.length + 0) (backTo pos (starEach es env)) []) := rfl
  have few : methodCallForm (es.length + 0) (backTo pos (starEach es env)) [] = true := by
    unfold methodCallForm
    rw [few_of h]
    simp [h30]
  rw [e, noSuper_eval hn]
  unfold methodCall calleeOf methodCallPos
  rw [few, hl]
  rfl

theorem list_method {l : Addr} {items : Array Value} {m : Nat} {name : Str} {pl : Sem Bool} {Q : Value × List Value → Shared → Prop} {E : Value → Shared → Prop} (ho : s.heap.get? l = some ⟨.type "list", none, .seq items m, #[]⟩) (hm : name = "append" ∨ name = "pop" ∨ name = "clear") :
    ∃ id : String, (name = "append" → id = "list.append") ∧ (name = "pop" → id = "list.pop") ∧ (name = "clear" → id = "list.clear") ∧ (Q (.builtin id, [.ref l]) s → wpAny G.M A (getMethod (.ref l) name pl) Q E s) := by
  have nd : s.heap.NoDictAt (.ref l) := ⟨_, ho, rfl⟩
  rcases hm with rfl | rfl | rfl
  · exact ⟨"list.append", fun _ => rfl, fun z => absurd z (by decide), fun z => absurd z (by decide), fun q => getMethod_list_of PySem.F.slot_list_append PySem.F.type_list_append (isList_of ho) nd q⟩
  · exact ⟨"list.pop", fun z => absurd z (by decide), fun _ => rfl, fun z => absurd z (by decide), fun q => getMethod_list_of PySem.F.slot_list_pop PySem.F.type_list_pop (isList_of ho) nd q⟩
  · exact ⟨"list.clear", fun z => absurd z (by decide), fun z => absurd z (by decide), fun _ => rfl, fun q => getMethod_list_of PySem.F.slot_list_clear PySem.F.type_list_clear (isList_of ho) nd q⟩

theorem filt_rel {K : Type} [DecidableEq K] {h : Heap} (i : K) : ∀ {vs : List (K × Value)} {kvs : List (K × AV)}, vs.map (·.1) = kvs.map (·.1) → RelL H h (kvs.map (·.2)) (vs.map (·.2)) → (without vs i).map (·.1) = (kvs.filter fun kv => decide (kv.1 ≠ i)).map (·.1) ∧ RelL H h ((kvs.filter fun kv => decide (kv.1 ≠ i)).map (·.2)) ((without vs i).map (·.2)) := by
  intro vs
  induction vs with
  | nil =>
    intro kvs e r
    cases kvs with
    | nil => exact ⟨rfl, .nil⟩
    | cons _ _ => cases e
  | cons a vs ih =>
    intro kvs e r
    cases kvs with
    | nil => cases e
    | cons b kvs =>
      simp only [List.map_cons, List.cons.injEq] at e
      simp only [List.map_cons, RelL] at r
      obtain ⟨_, _, z, r1, r2⟩ := r
      cases z
      obtain ⟨i1, i2⟩ := ih e.2 r2
      unfold without at i1 i2 ⊢
      by_cases q : b.1 = i
      · rw [List.filter_cons_of_neg (by simp [e.1, q]), List.filter_cons_of_neg (by simp [q])]
        exact ⟨i1, i2⟩
      · rw [List.filter_cons_of_pos (by simp [e.1, q]), List.filter_cons_of_pos (by simp [q])]
        exact ⟨by simp only [List.map_cons, e.1, i1], .cons r1 i2⟩
theorem dget_ok {x : Addr} {kvs : List (Str × AV)} {y : Str} {t : Tok} {a : AV} {v : Value} {Φ : PE} {Ψ : PX} (S : St G B H env ρ σ s) (hq : σ x = some (.dictS kvs)) (ra : Rel H s.heap a v) (p : Φ ((kvs.lookup y).getD a) σ) : Go G B H A env ρ s (call (.builtin "dict.get") [.ref x, .str y t, v]) Φ Ψ := by
  obtain ⟨vs, D, e, r⟩ := (S.store x _ hq).1
  refine call_meetsIn PySem.F.slot_dict_get D.typeIs PySem.F.entry_dict_get (PySem.F.args_dict_get_3 _ _ _) (meets_dict_get_default (strKind G.prog G.w) x (strKind_is G.prog G.w y t) (ref_ne_sys S hq) v) ⟨_, mapOf_of D, ?_⟩
  have L := dictOf_lookup y e r
  cases hk : kvs.lookup y with
  | none =>
    rw [hk] at L p
    rw [show valueAt vs y = none from L]
    exact qe (S.tok _) (Step.tok _ _ _) ra p
  | some b =>
    rw [hk] at L p
    obtain ⟨u, hu, ru⟩ := L
    rw [hu]
    exact qe (S.tok _) (Step.tok _ _ _) ru p
theorem dpop_ok {x : Addr} {kvs : List (Int × AV)} {i : Int} {t : Tok} {a : AV} {Φ : PE} {Ψ : PX} (S : St G B H env ρ σ s) (hq : σ x = some (.dictI kvs)) (hi : kvs.lookup i = some a) (hz : kvs.length ≤ sizeLine) (p : Φ a (upd σ x (.dictI (kvs.filter fun kv => decide (kv.1 ≠ i))))) : Go G B H A env ρ s (call (.builtin "dict.pop") [.ref x, .int i t]) Φ Ψ := by
  obtain ⟨vs, D, e, r⟩ := (S.store x _ hq).1
  have hl : vs.length = kvs.length := by have := congrArg List.length e; simpa using this
  have L := dictOf_lookup i e r
  rw [hi] at L
  obtain ⟨u, hu, ru⟩ := L
  refine call_meetsIn PySem.F.slot_dict_pop D.typeIs PySem.F.entry_dict_pop (PySem.F.args_dict_pop_2 _ _) (meets_dict_pop_there (intKind G.prog G.w) x (intKind_is G.prog G.w i t) [] (.inl rfl) rfl) ⟨vs, u, D, (by first | decide | (with_reducible first | exact lv hn | exact lv1 hn | exact lv2 hn | exact Int.natCast_nonneg _) | omega), hu, fun h' D' hs => ?_⟩
  have kk : ∀ b o, b ≠ x → s.heap.get? b = some o → h'.get? b = some o := fun b o nb e => hs.extBut b o nb e
  have g : Grow H s.heap h' := by
    obtain ⟨o', ho', ht, hr⟩ := (S.store x _ hq).1.there
    exact .of_keepBut kk ht fun o'' vs e => by rw [ho'] at e; cases e; exact hr vs
  obtain ⟨i1, i2⟩ := filt_rel i e (r.grow g)
  obtain ⟨S', _⟩ := S.put (s' := { s with heap := h', toks := s.toks + 1 }) (c := .dictI (kvs.filter fun kv => decide (kv.1 ≠ i))) hq rfl kk ⟨_, D', i1, i2⟩
  exact ⟨a, _, ru.grow g, S', ⟨g, rfl, rfl⟩, p⟩
theorem snd_meth {o : Expr} {name : Str} {apos pos : Pos} {es : List Expr} {a : Ex} {as : List Ex} (hn : noSuper o = true) (h30 : es.length < 30) (hl : (apos.endLine == pos.line) = true) (ho : Snd G n env o (tr G n a)) (h : SndL G n env es (trs G n as)) :
    Snd G n env (.Call (.Attribute o name apos) es [] pos) (tr G n (.meth a name as)) := by
  show Snd G n env _ (Tr.plain n _)
  refine .of_v (fun _ => rfl) fun {B H A ρ σ s Φ Ψ} C S p => ?_
  refine MethodCall_ (Go.after' (ho.v C S p) fun ov s₁ x σ₁ rx S₁ st₁ p₁ => ?_) (meth_eval h hn h30 hl)
  unfold methV at p₁
  split at p₁
  · rename_i x
    simp only [Rel] at rx; subst rx
    split at p₁
    · rename_i C' d hx
      split at p₁
      · rename_i m hd
        obtain ⟨f, q1, q2, q3, q4, q5, p₁⟩ := p₁
        obtain ⟨es', k, I, _, r⟩ := inst_at S₁ hx hd
        have L := ent_look name r
        rw [q1] at L
        obtain ⟨g1, g2⟩ := W.plainGet_of q2
        refine W.method_fn (inK_at C S₁) I g1 g2 q3 (by unfold W.isFn at q4; simpa using q4) ?_ ?_
        · show (W.lookIn name (W.dictOf es' k)).map (·.isSome) = some false
          rw [W.lookIn_dict, L]; rfl
        · refine W.callWith_of (P := fun h => W.Frag.In G.K h) (by rw [plain_args h]; rfl) (fun h X => W.keeps_K q5 h X) (evalArgs_ok h (GoL.then st₁ (snd_seq h C S₁ p₁) fun vs s₂ as σ₂ rs S₂ st₂ st₂' p₂ => ⟨inK_at C S₂, ?_⟩))
          have := p₂ B H A env ρ s₂ (.ref x :: vs) (.ref f) C.T C.E C.A S₂ (.cons (by simp [Rel]) rs) (by simp [Rel])
          exact wpAny_mono this (fun _ _ q => q.step st₂') fun _ _ q => q.step st₂'
      · exact p₁.elim
    · rename_i ws hx
      obtain ⟨hm, p₁⟩ := p₁
      obtain ⟨items, m, hob, rl⟩ := S₁.listAt (lstOf_list hx)
      obtain ⟨id, i1, i2, i3, gm⟩ := list_method (G := G) (A := A) (name := name) (pl := (do return (← importBound o env).getD true)) (Q := fun fx s₂ => wpAny G.M A (callWith pos fx.1 fx.2 (backTo pos (starEach es env)) []) (QE G B H env ρ Φ s) (QX G B H env (PXof ρ Ψ) s) s₂) (E := QX G B H env (PXof ρ Ψ) s) hob hm
      refine gm (Calls.callWith_builtin (plain_args h) (evalArgs_ok h (GoL.then st₁ (snd_seq h C S₁ p₁) fun vs s₂ as σ₂ rs S₂ st₂ st₂' p₂ => ?_)))
      show wpAny G.M A (call (.builtin id) (.ref x :: vs)) _ _ s₂
      split at p₂
      · rename_i us hx2
        unfold listM at p₂
        split at p₂
        · rename_i e; rw [i1 e]
          split at p₂
          · simp only [RelL] at rs
            obtain ⟨v, _, rfl, r1, rfl⟩ := rs
            exact append_ok S₂ hx2 r1 (Nat.le_of_lt p₂.1) fun s' S' st' => qe S' (st₂'.trans st') (by simp [Rel]) p₂.2
          · exact p₂.elim
        split at p₂
        · rename_i e; rw [i2 e]
          split at p₂
          · simp only [RelL, Rel] at rs
            obtain ⟨v, _, rfl, ⟨t, rfl⟩, rfl⟩ := rs
            obtain ⟨w, c1, c2, c3, c4, c5, c6⟩ := p₂
            exact pop_ok S₂ hx2 c1 c2 c3 c5 c4 fun s' v S' st' rv => qe S' (st₂'.trans st') rv c6
          · exact p₂.elim
        split at p₂
        · rename_i e; rw [i3 e]
          split at p₂
          · simp only [RelL] at rs; subst rs
            exact clear_ok S₂ hx2 p₂.1 fun s' S' st' => qe S' (st₂'.trans st') (by simp [Rel]) p₂.2
          · exact p₂.elim
        · exact p₂.elim
      · exact p₂.elim
    · rename_i ks hx
      obtain ⟨rfl, p₁⟩ := p₁
      obtain ⟨vs', D, _⟩ := (S₁.store x _ hx).1
      refine getMethod_builtin D.typeIs PySem.F.plainAttrs_dict PySem.F.slot_dict_get PySem.F.type_dict_get D.mapOf.noDict (Calls.callWith_builtin (plain_args h) (evalArgs_ok h (GoL.then st₁ (snd_seq h C S₁ p₁) fun vs s₂ as σ₂ rs S₂ st₂ st₂' p₂ => ?_)))
      show wpAny G.M A (call (.builtin "dict.get") (.ref x :: vs)) _ _ s₂
      obtain ⟨kvs, y, d, hx2, rfl, p₂⟩ := p₂
      simp only [RelL, Rel] at rs
      obtain ⟨v, _, rfl, ⟨t, rfl⟩, u, _, rfl, ru, rfl⟩ := rs
      exact wpAny_mono (dget_ok (Φ := Φ) (Ψ := PXof ρ Ψ) S₂ hx2 ru p₂) (fun _ _ q => q.step st₂') fun _ _ q => q.step st₂'
    · rename_i ks hx
      obtain ⟨rfl, p₁⟩ := p₁
      obtain ⟨vs', D, _⟩ := (S₁.store x _ hx).1
      refine getMethod_builtin D.typeIs PySem.F.plainAttrs_dict PySem.F.slot_dict_pop PySem.F.type_dict_pop D.mapOf.noDict (Calls.callWith_builtin (plain_args h) (evalArgs_ok h (GoL.then st₁ (snd_seq h C S₁ p₁) fun vs s₂ as σ₂ rs S₂ st₂ st₂' p₂ => ?_)))
      show wpAny G.M A (call (.builtin "dict.pop") (.ref x :: vs)) _ _ s₂
      obtain ⟨kvs, i, w, hx2, rfl, hi, hz, p₂⟩ := p₂
      simp only [RelL, Rel] at rs
      obtain ⟨v, _, rfl, ⟨t, rfl⟩, rfl⟩ := rs
      exact wpAny_mono (dpop_ok (Φ := Φ) (Ψ := PXof ρ Ψ) S₂ hx2 hi hz p₂) (fun _ _ q => q.step st₂') fun _ _ q => q.step st₂'
    · exact p₁.elim
  · exact p₁.elim

/-! ### comprehensions -/
theorem tests_ok : ∀ {es : List Expr} {Ts : List Tr}, SndL G n env es Ts → ∀ {B H A ρ σ s Φ Ψ}, Cx G B H A env n → St G B H env ρ σ s → allT Ts ρ σ Φ Ψ →
    GoT G B H A env ρ s (forIn es true fun c r => if r = true then do let ok ← isTrue c env (eval c env); pure (ForInStep.yield ok) else pure (ForInStep.yield r)) Φ (PXof ρ Ψ) := by
  intro es Ts h
  induction h with
  | nil => intro B H A ρ σ s Φ Ψ C S p; exact wpAny_pure ⟨σ, S, .refl _ _, p⟩
  | @cons _ es _ _ h _ t ih =>
    intro B H A ρ σ s Φ Ψ C S p
    rw [List.forIn_cons]
    have off : ∀ (l : List Expr), (forIn l false fun c r => if r = true then do let ok ← isTrue c env (eval c env); pure (ForInStep.yield ok) else pure (ForInStep.yield r) : Sem Bool) = pure false := by
      intro l
      induction l with
      | nil => rfl
      | cons c l ih => rw [List.forIn_cons]; simp only [Bool.false_eq_true, if_false, pure_bind]; exact ih
    simp only [if_true]
    refine wpAny_bind (wpAny_bind (wpAny_mono (h.t C S p) (fun b s₁ q => ?_) fun _ _ x => x))
    obtain ⟨σ₁, S₁, st₁, p₁⟩ := q
    refine wpAny_pure ?_
    cases b with
    | false => dsimp only; rw [off es]; exact wpAny_pure ⟨σ₁, S₁, st₁, p₁⟩
    | true => exact GoT.step st₁ (ih C S₁ p₁)

noncomputable def notSet : Expr → Bool
  | .Set .. => false
  | _ => true
theorem notSet_iter {e : Expr} (h : notSet e = true) (x : Value) : foldedSetIterable e env x = pure x := by
  cases e <;> first | rfl | cases h

/-- the comprehension, whatever becomes of it -/
theorem comp_core {x : Str} {px pos fpos : Pos} {elt iter : Expr} {ifs : List Expr} {cs : Scope} {eT iT : Tr} {fT : List Tr} {use : Option (Value → Sem Unit)} {Φ : PE} {Ψ : PY} {Q : Value → Shared → Prop}
    (Sc : CompScope env.scope cs x) (hset : notSet iter = true) (hf : env.frame = some env.locals) (nd : env.cells.Pairwise fun x y => x.2 ≠ y.2)
    (hi : Snd G n env iter iT) (he : ∀ cenv : Env, cenv.scope = relabelS cs env.scope → Snd G n cenv elt eT) (ht : ∀ cenv : Env, cenv.scope = relabelS cs env.scope → SndL G n cenv ifs fT)
    (C : Cx G B H A env n) (S : St G B H env ρ σ s) (p : compV eT x iT fT ρ σ Φ Ψ)
    (post : ∀ D C s₁ σ₁, St G B (hidN H [C] s₁.heap) env ρ σ₁ s₁ → Step H s s₁ → (∃ m, s₁.heap.Ns C m) → NOk B H env [C] → There [C] s₁.heap → Φ (.ref D) σ₁ → compPost G.M A (QX G B H env (PXof ρ Ψ) s) use Q (.ref D) C (.ok .next) s₁) :
    wpAny G.M A (comprehension (.ListComp elt [⟨.Name x px, iter, ifs, 0⟩] cs pos) cs env fpos (PySem.newList []) false (eval iter env) use) Q (QX G B H env (PXof ρ Ψ) s) s := by
  have hcl : closureFor cs env = pure (clOf env cs.names []) := closureFor_cl fun y hy hk => by
    obtain ⟨c, v, e1, _⟩ := S.frame.cells y.1 (.inl (Sc.free y hy hk).1)
    exact ⟨c, e1⟩
  refine wpAny_comprehension_free rfl (notSet_iter hset) hcl Sc.kind (fun y hy hk => (Sc.loc y hy hk).2) ?_
  refine wpAny_mono (hi.i C S (fun src σ q => by obtain ⟨_, vs, h, _⟩ := q; exact ⟨vs, h⟩) p) (fun xv s₁ w => wpAny_mono w (fun itv s₂ q => ?_) fun _ _ x => x) fun _ _ x => x
  obtain ⟨src, it, N, J, σ₁, sm, rfl, I0, Sm, stm, km, st₂, fN, j0, hpair, vs, hvs, I, i0, iv, turn, fin⟩ := q
  refine wpAny_newObj_type (wpAny_newFunctionEnv Sc.cell (by intro y hy; simp at hy) (fun h₁ hns₁ hsb₁ => ?_) Sc.kind)
  dsimp only at hns₁ hsb₁ ⊢
  generalize hH2 : s₂.heap.push { cls := .type "list", dict := none, data := .seq ([] : List Value).toArray } = H2 at hns₁ hsb₁ ⊢
  have hC : H2.objs.size = s₂.heap.objs.size + 1 := by rw [← hH2, Heap.size_push]
  have old : ∀ b o, s₂.heap.get? b = some o → h₁.get? b = some o := fun b o e => hsb₁.extBut b o (fun z => by
    have l : @LT.lt Nat instLTNat b s₂.heap.objs.size := Heap.lt_size e
    have z : @Eq Nat b H2.objs.size := z
    omega) (Heap.get?_push_of_some _ (hH2 ▸ Heap.get?_push_of_some _ e))
  have nlt : ∀ b ∈ N, @LT.lt Nat instLTNat b s₂.heap.objs.size := fun b hb => by
    obtain ⟨o, e, _⟩ := I0.there _ _ j0 b hb
    exact Heap.lt_size e
  have sle : @LE.le Nat instLENat sm.heap.objs.size s₂.heap.objs.size := Nat.le_trans (fN it I0.mem) (Nat.le_of_lt (nlt it I0.mem))
  have hDC : s₂.heap.objs.size ≠ H2.objs.size := by rw [hC]; exact Nat.ne_of_lt (Nat.lt_succ_self _)
  have hcore : ∀ (s₃ : Shared), s₃ = { s₂ with heap := h₁, toks := s₂.toks + ([] : List (Str × Value)).length } → codeAny G.M A (.compLoop (.ListComp elt [⟨.Name x px, iter, ifs, 0⟩] cs pos) 0 (.ref it) (.ref s₂.heap.objs.size) (compEnvC cs (clOf env cs.names []) H2.objs.size env))
      (compPost G.M A (QX G B H env (PXof ρ Ψ) s) use Q (.ref s₂.heap.objs.size) H2.objs.size) s₃ := by
    rintro s₃ rfl
    refine comp_loop (s₀ := sm) (eT := eT) (iT := fT) (ΦE := Φ) (vs := vs) I0 hpair Sc (fun cenv e ρ σ Φ p B H A s T E A' S => ?_) (fun cenv e ρ σ Φ p B H A s T E A' S => ?_) C hf nd Sm (fun b o e => old b o (km b o e)) (st₂.trans (.keeps old)) ?_ ?_ ?_ ?_ ?_ ?_ ?_ I i0 iv turn fin fun s₅ σ₅ S₅ st₅ m₅ q₅ t₅ p₅ => post _ _ s₅ σ₅ S₅ (stm.trans st₅) m₅ q₅ t₅ p₅
    · exact wpAny_mono ((he cenv e).v ⟨T, E, A'⟩ S p) (fun _ _ q => q) fun _ _ q => by obtain ⟨_, _, _, _, _, _, _, _, _, z⟩ := q; exact z.elim
    · exact wpAny_mono (tests_ok (ht cenv e) ⟨T, E, A'⟩ S p) (fun _ _ q => q) fun _ _ q => by obtain ⟨_, _, _, _, _, _, _, _, _, z⟩ := q; exact z.elim
    · intro b hb
      rcases List.mem_cons.mp hb with e | hb
      · have e : @Eq Nat b H2.objs.size := e
        show @LE.le Nat instLENat _ _
        omega
      · rcases List.mem_cons.mp hb with e | hb
        · have e : @Eq Nat b s₂.heap.objs.size := e
          show @LE.le Nat instLENat _ _
          omega
        · exact fN b hb
    · exact hDC.symm
    · intro hm
      have := nlt _ hm
      omega
    · intro hm
      have := nlt _ hm
      omega
    · exact I0.frame _ _ _ j0 fun b _ o e => old b o e
    · exact ⟨_, hsb₁.extBut _ _ hDC (Heap.get?_push_of_some _ (hH2 ▸ Heap.get?_push_size _ rfl))⟩
    · exact hns₁
  exact codeAny_compStart_list (hcore _ rfl) (I0.self (I0.frame _ _ _ j0 fun b _ o e => old b o e) (hcore _ rfl))

theorem grow_ns {h h' : Heap} {K : Addr} {m : Str → Option Value} (hm : h.Ns K m) (hs : Heap.SameBut K h h') : Grow H h h' := by
  obtain ⟨o, es, ep, ho, hd, _⟩ := hm
  exact .of_keepBut (fun b o nb e => hs.extBut b o nb e) (fun items ⟨o', ho', _, _, hd'⟩ => by rw [ho] at ho'; cases ho'; rw [hd] at hd'; cases hd') fun o' vs ho' hd' => by rw [ho] at ho'; cases ho'; rw [hd] at hd'; cases hd'

theorem snd_comp {x : Str} {px pos : Pos} {elt iter : Expr} {ifs : List Expr} {cs : Scope} {a b : Ex} {cs' : List Ex}
    (Sc : CompScope env.scope cs x) (hset : notSet iter = true) (hf : env.frame = some env.locals) (nd : env.cells.Pairwise fun x y => x.2 ≠ y.2)
    (hi : Snd G n env iter (tr G n b)) (he : ∀ cenv : Env, cenv.scope = relabelS cs env.scope → Snd G n cenv elt (tr G n a)) (ht : ∀ cenv : Env, cenv.scope = relabelS cs env.scope → SndL G n cenv ifs (trs G n cs')) :
    Snd G n env (.ListComp elt [⟨.Name x px, iter, ifs, 0⟩] cs pos) (tr G n (.comp a x b cs')) := by
  show Snd G n env _ (Tr.plain n _)
  refine .of_v (fun _ => rfl) fun {B H A ρ σ s Φ Ψ} C S p => ?_
  rw [eval_ListComp]
  refine comp_core Sc hset hf nd hi he ht C S p fun D K s₁ σ₁ S₁ st₁ m₁ q₁ t₁ p₁ => ?_
  obtain ⟨m, hm⟩ := m₁
  refine ⟨m, hm, fun h' hs => ?_⟩
  obtain ⟨S₂, g₂⟩ := St.leave (s₁ := { s₁ with heap := h' }) q₁ t₁ S₁ (fun b o hb e => hs.extBut b o (notMem1 hb) e) t₁
  exact qe S₂ (st₁.trans ⟨grow_ns hm hs, rfl, rfl⟩) (by simp [Rel]) p₁

/-- the comprehension's list is bound at once -/
theorem asg_comp_ok {x y : Str} {px py pos spos : Pos} {elt iter : Expr} {ifs : List Expr} {cs : Scope} {a b : Ex} {cs' : List Ex} {Φ : PS} {Ψ : PX}
    (hsw : swapsWith (.ListComp elt [⟨.Name x px, iter, ifs, 0⟩] cs pos) (some (.Name y py)) spos.line env = pure true)
    (Sc : CompScope env.scope cs x) (hset : notSet iter = true) (hy : isLoc env.scope y) (F : FrameOk B H env)
    (hi : Snd G n env iter (tr G n b)) (he : ∀ cenv : Env, cenv.scope = relabelS cs env.scope → Snd G n cenv elt (tr G n a)) (ht : ∀ cenv : Env, cenv.scope = relabelS cs env.scope → SndL G n cenv ifs (trs G n cs'))
    (C : Cx G B H A env n) (S : St G B H env ρ σ s) (p : compV (tr G n a) x (tr G n b) (trs G n cs') ρ σ (fun v σ₁ => Φ .next (putA y v ρ) σ₁) (fun c σ₁ => Ψ c ρ σ₁)) :
    wpAny G.M A (exec (.Assign [.Name y py] (.ListComp elt [⟨.Name x px, iter, ifs, 0⟩] cs pos) spos) env) (fun f s' => ∃ fl ρ' σ', RelF H s'.heap fl f ∧ St G B H env ρ' σ' s' ∧ Step H s s' ∧ Φ fl ρ' σ') (QX G B H env Ψ s) s := by
  rw [exec_Assign_Name_used _ _ _ _ hsw]
  refine wpAny_bind (wpAny_standAt (wpAny_bind ?_))
  have key := comp_core (use := some (assign (.Name y py) env)) (fpos := iter.pos) (px := px) (pos := pos) (Q := fun _ s' => ∃ fl ρ' σ', RelF H s'.heap fl Flow.next ∧ St G B H env ρ' σ' s' ∧ Step H s s' ∧ Φ fl ρ' σ') Sc hset F.fr F.nodup hi he ht C S p fun D K s₁ σ₁ S₁ st₁ m₁ q₁ t₁ p₁ => ?_
  · show wpAny G.M A (do let _ ← comprehension (.ListComp elt [⟨.Name x px, iter, ifs, 0⟩] cs pos) cs env iter.pos (PySem.newList []) false (eval iter env) (some (assign (.Name y py) env))) _ _ s
    refine wpAny_bind (wpAny_mono key (fun _ s' q => wpAny_pure (wpAny_pure q)) fun e s' q => ?_)
    obtain ⟨ea, cls, ρ', σ', rfl, f, S', st', rfl, p'⟩ := q
    exact ⟨ea, cls, _, σ', rfl, f, S', st', p'⟩
  · obtain ⟨m, hm⟩ := m₁
    show wpAny G.M A (assign (.Name y py) env (.ref D)) _ _ s₁
    refine assign_name_ok (F.hidN q₁) hy S₁ (a := .ref D) (by simp [Rel]) fun s₂ S₂ st₂ => ?_
    obtain ⟨o, es, ep, ho, hd, hr⟩ := hm
    obtain ⟨sl, h1, _⟩ := S₂.hid K o (by rw [hidN_of (.head _)]; exact ho)
    have hm₂ : s₂.heap.Ns K m := ⟨_, es, ep, h1, hd, hr⟩
    refine ⟨m, hm₂, fun h' hs => ?_⟩
    have t₂ := t₁.after S₂
    obtain ⟨S₃, g₃⟩ := St.leave (s₁ := { s₂ with heap := h' }) q₁ t₁ S₂ (fun b o hb e => hs.extBut b o (notMem1 hb) e) t₂
    have g₂ : Grow H s₁.heap s₂.heap := ⟨fun c items z w => st₂.grow.tup c items (by
        rw [hidN_ne]; exact z
        intro q; rw [mem1 q] at w
        obtain ⟨o', ho', _, _, hd'⟩ := w
        rw [ho] at ho'; cases ho'; rw [hd] at hd'; cases hd') w, st₂.grow.recs⟩
    exact ⟨.next, _, _, rfl, S₃, (st₁.trans ⟨g₂, st₂.gens, st₂.os⟩).trans ⟨grow_ns hm₂ hs, rfl, rfl⟩, p₁⟩
end
end Mine
set_option maxRecDepth 100000
namespace Mine
open PySem PyProof.Rows

variable {G : PG}
theorem stored_cons {K : Type} [DecidableEq K] {j k : K} {u v : Value} {r : List (K × Value)} (hn : j ∉ r.map (·.1)) : stored ((j, u) :: r) k v = if j = k then (j, v) :: r else (j, u) :: stored r k v := by
  unfold stored
  by_cases q : j = k
  · subst q
    have e : r.map (fun kv => if kv.1 = j then (kv.1, v) else kv) = r := by
      conv => rhs; rw [← List.map_id r]
      apply List.map_congr_left
      intro kv hkv
      rw [if_neg (fun z : kv.1 = j => hn (List.mem_map.mpr ⟨kv, hkv, z⟩))]; rfl
    simp [e]
  · simp only [List.any_cons, q, decide_false, Bool.false_or, if_false, List.map_cons]
    split <;> rfl
theorem put_stored {K : Type} [DecidableEq K] {H : Hid} {h : Heap} {k : K} {a : AV} {v : Value} (ra : Rel H h a v) : ∀ {vs : List (K × Value)} {kvs : List (K × AV)}, (vs.map (·.1)).Nodup → vs.map (·.1) = kvs.map (·.1) → RelL H h (kvs.map (·.2)) (vs.map (·.2)) →
    (stored vs k v).map (·.1) = (putI k a kvs).map (·.1) ∧ RelL H h ((putI k a kvs).map (·.2)) ((stored vs k v).map (·.2))
  | [], [], _, _, _ => ⟨rfl, .one ra⟩
  | [], _ :: _, _, e, _ => by simp at e
  | _ :: _, [], _, e, _ => by simp at e
  | (j, u) :: vs, (j', b) :: kvs, nd, e, r => by
    simp only [List.map_cons, List.cons.injEq] at e
    obtain ⟨rfl, e⟩ := e
    simp only [List.map_cons, List.nodup_cons] at nd
    simp only [List.map_cons, RelL] at r
    obtain ⟨_, _, z, r1, r2⟩ := r
    cases z
    rw [stored_cons nd.1]
    unfold putI
    by_cases q : j = k
    · rw [if_pos q, if_pos q]
      exact ⟨by simp [e], .cons ra r2⟩
    · rw [if_neg q, if_neg q]
      obtain ⟨i1, i2⟩ := put_stored ra nd.2 e r2
      exact ⟨by simp [i1], .cons r1 i2⟩
theorem putI_keys {K : Type} [DecidableEq K] (k : K) (a : AV) : ∀ kvs : List (K × AV), (kvs.map (·.1)).Nodup → ((putI k a kvs).map (·.1)).Nodup ∧ ∀ x, x ∈ (putI k a kvs).map (·.1) → x = k ∨ x ∈ kvs.map (·.1)
  | [], _ => ⟨by simp [putI], fun x hx => by simp [putI] at hx; exact .inl hx⟩
  | (j, u) :: r, nd => by
    simp only [List.map_cons, List.nodup_cons] at nd
    unfold putI
    by_cases q : j = k
    · rw [if_pos q]
      exact ⟨by simpa using nd, fun x hx => .inr (by simpa using hx)⟩
    · rw [if_neg q]
      obtain ⟨i1, i2⟩ := putI_keys k a r nd.2
      refine ⟨?_, fun x hx => ?_⟩
      · simp only [List.map_cons, List.nodup_cons]
        exact ⟨fun z => (i2 j z).elim q nd.1, i1⟩
      · simp only [List.map_cons, List.mem_cons] at hx ⊢
        rcases hx with hx | hx
        · exact .inr (.inl hx)
        · exact (i2 x hx).imp id .inr
theorem put_merged {K : Type} [DecidableEq K] {H : Hid} {h : Heap} : ∀ (ks : List K) (as : List AV) (ws : List Value) {vs : List (K × Value)} {kvs : List (K × AV)}, ks.length = as.length → RelL H h as ws → (vs.map (·.1)).Nodup → vs.map (·.1) = kvs.map (·.1) → RelL H h (kvs.map (·.2)) (vs.map (·.2)) →
    (merged vs (ks.zip ws)).map (·.1) = (putAll ks as kvs).map (·.1) ∧ RelL H h ((putAll ks as kvs).map (·.2)) ((merged vs (ks.zip ws)).map (·.2))
  | [], [], ws, vs, kvs, _, r, nd, e, q => by simp only [RelL] at r; subst r; exact ⟨by simpa [merged, putAll] using e, by simpa [merged, putAll] using q⟩
  | [], _ :: _, _, _, _, z, _, _, _, _ => by simp at z
  | _ :: _, [], _, _, _, z, _, _, _, _ => by simp at z
  | k :: ks, a :: as, ws, vs, kvs, z, r, nd, e, q => by
    simp only [RelL] at r
    obtain ⟨w, ws, rfl, r1, r2⟩ := r
    obtain ⟨i1, i2⟩ := put_stored (k := k) r1 nd e q
    have nd' : ((stored vs k w).map (·.1)).Nodup := by rw [i1]; exact (putI_keys k a kvs (e ▸ nd)).1
    have := put_merged ks as ws (vs := stored vs k w) (kvs := putI k a kvs) (by simpa using z) r2 nd' i1 i2
    simpa [merged, putAll] using this

/-- the keys of a display -/
inductive KeyTs {K : Type} (enc : K → Const) : List (Option Expr) → List K → Prop
  | nil : KeyTs enc [] []
  | cons {k : K} {p q r ks} : KeyTs enc r ks → KeyTs enc (some (.Constant (enc k) p q) :: r) (k :: ks)

section
variable {B : Heap} {H : Hid} {A : Around} {env : Env} {n : Nat} {ρ : Loc} {σ : Sto} {s s₁ : Shared} {Ψ : PX}
/-- the pairs of a display -/
theorem pairs_ok {K : Type} [DecidableEq K] {knd : KeyKind G.prog G.w K} {enc : K → Const} {pos : Pos} (hc : ∀ (k : K) (p q) (s : Shared) (Q : Value → Shared → Prop) E, (∀ v t, knd.is k v = true → Q v { s with toks := t }) → wpAny G.M A (eval (.Constant (enc k) p q) env) Q E s)
    (C : Cx G B H A env n) {keys : List (Option Expr)} {ks : List K} (hk : KeyTs enc keys ks) : ∀ {es : List Expr} {Ts : List Tr} {σ : Sto} {s₁ : Shared} {Φ : List AV → Sto → Prop} {Ψ' : PY}, SndL G n env es Ts → keys.length = es.length → St G B H env ρ σ s₁ → seqV Ts ρ σ Φ Ψ' →
      wpAny G.M A (evalPairs (pairTrees keys es env pos)) (fun vs s' => ∃ ws as σ', Carries knd vs (ks.zip ws) ∧ ks.length = as.length ∧ RelL H s'.heap as ws ∧ St G B H env ρ σ' s' ∧ Step H s₁ s' ∧ Φ as σ') (QX G B H env (PXof ρ Ψ') s₁) s₁ := by
  induction hk with
  | nil =>
    intro es Ts σ s₁ Φ Ψ' hs hl S p
    cases hs with
    | nil => exact evalPairs_nil ⟨[], [], σ, trivial, rfl, .nil, S, .refl _ _, p⟩
    | cons _ _ _ => cases hl
  | @cons k p1 p2 r ks hk ih =>
    intro es Ts σ s₁ Φ Ψ' hs hl S p
    cases hs with
    | nil => cases hl
    | @cons v es T Ts h1 _ h2 =>
      have p : T.v ρ σ (fun a σ₁ => seqV Ts ρ σ₁ (fun as σ₂ => Φ (a :: as) σ₂) Ψ') Ψ' := p
      refine evalPairs_cons (hc k p1 p2 s₁ _ _ fun kv t hkv => ?_)
      have st0 : Step H s₁ { s₁ with toks := t } := .tok _ _ _
      refine wpAny_bind (wpAny_mono (h1.v C (S.tok t) p) (fun w s₂ q => ?_) fun _ _ x => x.step st0)
      obtain ⟨a, σ₂, ra, S₂, st₂, p₂⟩ := q
      refine wpAny_bind (wpAny_standAt (wpAny_pure (wpAny_mono (ih h2 (Nat.succ.inj hl) S₂ p₂) (fun vs s₃ q => ?_) fun _ _ x => x.step (st0.trans st₂))))
      obtain ⟨ws, as, σ₃, h3, h4, h5, S₃, st₃, p₃⟩ := q
      exact ⟨w :: ws, a :: as, σ₃, ⟨hkv, rfl, h3⟩, congrArg (· + 1) h4, .cons (ra.grow st₃.grow) h5, S₃, (st0.trans st₂).trans st₃, p₃⟩

theorem snd_dict_empty {pos : Pos} : Snd G n env (.Dict [] [] pos) (tr G n (.dict [] [])) := by
  show Snd G n env _ (Tr.plain n _)
  refine .of_v (fun _ => rfl) fun {B H A ρ σ s Φ Ψ} C S p => ?_
  have p : ∀ a, σ a = none → Φ (.ref a) (upd σ a (.dictI [])) := p.2
  refine wpAny_Dict_empty ⟨.ref s.heap.objs.size, _, by simp [Rel], S.new (s' := { s with heap := s.heap.push { cls := .type "dict", data := .dict #[] } }) (fun b o e => Heap.get?_push_of_some _ e) (Nat.le_refl _) (c := .dictI []) ⟨[], .new _, rfl, by simp [RelL]⟩, .push _, p _ (S.fresh (Nat.le_refl _))⟩
/-- a display of keys of one kind -/
theorem snd_dictK {K : Type} [DecidableEq K] {knd : KeyKind G.prog G.w K} {enc : K → Const} {mk : List (K × AV) → Cell} {pos : Pos} (hc : ∀ {A : Around} (k : K) (p q) (s : Shared) (Q : Value → Shared → Prop) E, (∀ v t, knd.is k v = true → Q v { s with toks := t }) → wpAny G.M A (eval (.Constant (enc k) p q) env) Q E s)
    (hmk : ∀ (H : Hid) (h : Heap) (a : Addr) (kvs : List (K × AV)), CellAt G H h a (mk kvs) ↔ ∃ vs : List (K × Value), h.DictOf knd a vs ∧ vs.map (·.1) = kvs.map (·.1) ∧ RelL H h (kvs.map (·.2)) (vs.map (·.2))) (hown : ∀ kvs, (mk kvs).own = true)
    {keys : List (Option Expr)} {ks : List K} {es : List Expr} {Ts : List Tr} (hk : KeyTs enc keys ks) (hs : SndL G n env es Ts) (hl : keys.length = es.length) (hlen : keys.length ≤ 15) (h0 : keys ≠ []) (hall : keys.all (·.isSome) = true) :
    Snd G n env (.Dict keys es pos) (Tr.plain n (dictV mk ks Ts)) := by
  refine .of_v (fun _ => rfl) fun {B H A ρ σ s Φ Ψ} C S p => ?_
  have hn := pairTrees_length keys es env pos hall hl
  refine wpAny_Dict_pairs (knd := knd) (pairs := pairTrees keys es env pos) (zip_pairTrees keys es env pos hall hl) (fun e => by rw [e] at hn; exact h0 (List.length_eq_zero_iff.mp hn.symm)) (by rw [hn]; exact hlen) ?_
  have S₁ : St G B H env ρ (upd σ s.heap.objs.size (mk [])) { s with heap := s.heap.push { cls := .type "dict", data := .dict #[] } } :=
    S.new (fun b o e => Heap.get?_push_of_some _ e) (Nat.le_refl _) ((hmk _ _ _ _).mpr ⟨[], .new _, rfl, by simp [RelL]⟩)
  have st0 : Step H s { s with heap := s.heap.push { cls := .type "dict", data := .dict #[] } } := .push _
  refine wpAny_mono (pairs_ok (knd := knd) (fun k => hc k) C hk hs hl S₁ (p _ (S.fresh (Nat.le_refl _)))) (fun vs s₂ q => ?_) fun _ _ x => x.step st0
  obtain ⟨ws, as, σ₂, h1, h2, h3, S₂, st₂, p₂⟩ := q
  obtain ⟨hσ, p₂⟩ := p₂
  obtain ⟨vs0, D0, e0, r0⟩ := (hmk _ _ _ _).mp (S₂.store _ _ hσ).1
  obtain rfl : vs0 = [] := by simpa using congrArg List.length e0
  refine ⟨_, h1, D0, fun h' D' hs' => ?_⟩
  have kk : ∀ b o, b ≠ s.heap.objs.size → s₂.heap.get? b = some o → h'.get? b = some o := fun b o nb e => hs'.extBut b o nb e
  have g : Grow H s₂.heap h' := by
    obtain ⟨o', ho', ht, hr⟩ := (S₂.store _ _ hσ).1.there
    exact .of_keepBut kk ht fun o'' vs e => by rw [ho'] at e; cases e; exact hr vs
  obtain ⟨i1, i2⟩ := put_merged ks as ws (vs := []) (kvs := []) h2 (h3.grow g) (by simp) rfl (by simp [RelL])
  obtain ⟨S', _⟩ := S₂.put (s' := { s₂ with heap := h', toks := s₂.toks + vs.length }) (c := mk (putAll ks as [])) hσ (hown _) kk ((hmk _ _ _ _).mpr ⟨_, D', i1, i2⟩)
  exact ⟨.ref _, _, by simp [Rel], S', (st0.trans st₂).trans ⟨g, rfl, rfl⟩, p₂⟩

noncomputable def constD : (k : Option Expr) → Option { c : Const // ∃ p q, k = some (.Constant c p q) }
  | some (.Constant c p q) => some ⟨c, p, q, rfl⟩
  | _ => none
theorem vals_of {α : Type} {P : α → Prop} {o : Option { x : α // P x }} {x : α} (h : o.map Subtype.val = some x) : P x := by
  obtain ⟨y, _, rfl⟩ := Option.map_eq_some_iff.mp h
  exact y.2
noncomputable def constE (k : Option Expr) : Option Const := (constD k).map Subtype.val
theorem constE_of {k : Option Expr} {c : Const} (h : constE k = some c) : ∃ p q, k = some (.Constant c p q) := vals_of (o := constD k) h
noncomputable def kE : Const → Option Ex
  | .str k => some (.cst (.str k))
  | .int k => some (.cst (.int k))
  | _ => none
noncomputable def keyE : List (Option Expr) → Option (List Ex)
  | [] => some []
  | k :: r => ((constE k).bind kE).bind fun a => (keyE r).map (a :: ·)
theorem keyE_cons {k : Option Expr} {r : List (Option Expr)} {ks : List Ex} (h : keyE (k :: r) = some ks) : ∃ c p q a as, k = some (.Constant c p q) ∧ kE c = some a ∧ keyE r = some as ∧ ks = a :: as := by
  obtain ⟨a, h1, h2⟩ := Option.bind_eq_some_iff.mp h
  obtain ⟨as, h3, rfl⟩ := Option.map_eq_some_iff.mp h2
  obtain ⟨c, h4, h5⟩ := Option.bind_eq_some_iff.mp h1
  obtain ⟨p, q, h6⟩ := constE_of h4
  exact ⟨c, p, q, a, as, h6, h5, h3, rfl⟩
theorem keyE_some {keys : List (Option Expr)} : ∀ {ks : List Ex}, keyE keys = some ks → keys.all (·.isSome) = true ∧ keys.length = ks.length := by
  induction keys with
  | nil => exact fun h => by cases h; exact ⟨rfl, rfl⟩
  | cons k r ih =>
    intro ks h
    obtain ⟨c, p, q, a, as, rfl, _, h2, rfl⟩ := keyE_cons h
    exact ⟨(ih h2).1, congrArg (· + 1) (ih h2).2⟩
theorem keyE_str {keys : List (Option Expr)} : ∀ {ks : List Ex} {l : List Str}, keyE keys = some ks → strKs ks = some l → KeyTs Const.str keys l := by
  induction keys with
  | nil => exact fun h q => by cases h; cases q; exact .nil
  | cons k r ih =>
    intro ks l h w
    obtain ⟨c, p, q, a, as, rfl, h1, h2, rfl⟩ := keyE_cons h
    cases c with
    | str x =>
      cases h1
      obtain ⟨l2, e2, rfl⟩ := Option.map_eq_some_iff.mp w
      exact .cons (ih h2 e2)
    | int x => cases h1; cases w
    | _ => cases h1
theorem snd_dict {keys : List (Option Expr)} {ks : List Ex} {es : List Expr} {as : List Ex} {pos : Pos} (hk : keyE keys = some ks) (hs : SndL G n env es (trs G n as)) (hl : keys.length = es.length) (hlen : keys.length ≤ 15) : Snd G n env (.Dict keys es pos) (tr G n (.dict ks as)) := by
  obtain ⟨h1, h2⟩ := keyE_some hk
  cases ks with
  | nil =>
    obtain rfl : keys = [] := List.length_eq_zero_iff.mp h2
    obtain rfl : es = [] := List.length_eq_zero_iff.mp hl.symm
    cases as with
    | nil => exact snd_dict_empty
    | cons a as => unfold trs at hs; cases hs
  | cons k ks =>
    have h0 : keys ≠ [] := fun e => by rw [e] at h2; simp at h2
    show Snd G n env _ (Tr.plain n (dictD (k :: ks) (trs G n as)))
    cases q : strKs (k :: ks) with
    | some l =>
      have e : dictD (k :: ks) (trs G n as) = dictV .dictS l (trs G n as) := by unfold dictD; simp only [q]
      rw [e]
      exact snd_dictK (knd := strKind G.prog G.w) (enc := Const.str) (fun k p q s Q E h => Calls.Constant_str (h _ _ (strKind_is G.prog G.w k _))) (fun _ _ _ _ => Iff.rfl) (fun _ => rfl) (keyE_str hk q) hs hl hlen h0 h1
    | none =>
      have e : dictD (k :: ks) (trs G n as) = fun _ _ _ _ => False := by unfold dictD; simp only [q]
      rw [e]
      exact .of_v (fun _ => rfl) fun C S p => p.elim
end
end Mine
set_option maxRecDepth 100000
namespace Mine
open PySem PyProof.Rows

/-! ### from the program's text to terms -/
noncomputable def okStr (x : Str) : Bool := x != "__debug__" && x != "__classdict__" && x != ".0" && x != "__name__"
noncomputable def nameE (sc : Scope) (x : Str) : Option Ex :=
  if okStr x then match sc.names.lookup x with
    | some .local => some (.nm x)
    | some .cell => some (.nm x)
    | some .free => some (.nm x)
    | some .globalImplicit => some (.gl x)
    | _ => none
  else none
noncomputable def compOk (sc cs : Scope) (x : Str) : Bool :=
  cs.kind == .function && x != ".0" && cs.names.lookup x == some .local && cs.names.all fun y =>
    y.2 != .cell && (y.2 != .local || ((y.1 == x || y.1 == ".0") && cs.names.lookup y.1 == some .local)) && (y.2 != .free || (sc.names.lookup y.1 == some .cell && cs.names.lookup y.1 == some .free))
theorem compOk_of {sc cs : Scope} {x : Str} (h : compOk sc cs x = true) : CompScope sc cs x := by
  unfold compOk at h
  simp only [Bool.and_eq_true, beq_iff_eq, bne_iff_ne, List.all_eq_true, Bool.or_eq_true] at h
  obtain ⟨⟨⟨h1, h2⟩, h3⟩, h4⟩ := h
  exact { kind := h1, nz := h2, cell := fun y hy => (h4 y hy).1.1, loc := fun y hy e => ((h4 y hy).1.2.resolve_left (fun z => z e)), x := h3, free := fun y hy e => ((h4 y hy).2.resolve_left (fun z => z e)) }

noncomputable def opt2 {α β γ : Type} (f : α → β → γ) : Option α → Option β → Option γ
  | some a, some b => some (f a b)
  | _, _ => none
theorem opt2_some {α β γ : Type} {f : α → β → γ} {a : Option α} {b : Option β} {c : γ} (h : opt2 f a b = some c) : ∃ x y, a = some x ∧ b = some y ∧ f x y = c := by
  cases a <;> cases b <;> simp [opt2] at h
  exact ⟨_, _, rfl, rfl, h⟩
noncomputable def listE (f : Expr → Option Ex) : List Expr → Option (List Ex)
  | [] => some []
  | e :: r => if isStar e then none else opt2 (· :: ·) (f e) (listE f r)
noncomputable def cstE : Const → Option Ex
  | .int i => some (.cst (.int i))
  | .str x => some (.cst (.str x))
  | .bool b => some (.cst (.bool b))
  | .none => some (.cst .none)
  | _ => none
noncomputable def cmpE (f : Expr → Option Ex) (l : Expr) : List CmpOp → List Expr → Option Ex
  | [op], [r] => if behindInMarks op r then none else opt2 (.cmp op) (f l) (f r)
  | [o1, o2], [m, r] => if lastMarks [o1, o2] [m, r] then none else opt2 (fun (f : Ex → Ex) c => f c) (opt2 (Ex.cmp2 o1 o2) (f l) (f m)) (f r)
  | _, _ => none
noncomputable def boolE : BoolOp → List Ex → Ex
  | .And => .and_
  | .Or => .or_
noncomputable def unE (f : Expr → Option Ex) (e : Expr) : UnaryOp → Option Ex
  | .Not => (f e).map .not_
  | .USub => (f e).map .neg
  | _ => none
noncomputable def subE (f : Expr → Option Ex) (e : Expr) (i : Expr) : Option Ex := if notSlice i then opt2 .sub (f e) (f i) else none
noncomputable def callE (sc : Scope) (f : Expr → Option Ex) (args : List Expr) (pos : Pos) : Expr → Option Ex
  | .Attribute o m apos => if noSuper o && decide (args.length < 30) && (apos.endLine == pos.line) then opt2 (fun a as => .meth a m as) (f o) (listE f args) else none
  | .Name g _ => if okStr g && (sc.names.lookup g == some .globalImplicit) then (listE f args).map (if bnames.contains g then .bi g else .call g) else none
  | _ => none
/-- a name, with what it is -/
noncomputable def nmD : (e : Expr) → Option { x : Str // ∃ p, e = .Name x p }
  | .Name x p => some ⟨x, p, rfl⟩
  | _ => none
noncomputable def nmE (e : Expr) : Option Str := (nmD e).map Subtype.val
theorem val_of {α : Type} {P : α → Prop} {o : Option { x : α // P x }} {x : α} (h : o.map Subtype.val = some x) : P x := by
  obtain ⟨y, _, rfl⟩ := Option.map_eq_some_iff.mp h
  exact y.2
theorem nmE_of {e : Expr} {x : Str} (h : nmE e = some x) : ∃ p, e = .Name x p := val_of (o := nmD e) h
noncomputable def genE (g : Comprehension) : Option (Str × Expr × List Expr) := (nmE g.target).bind fun x => if g.is_async = 0 then some (x, g.iter, g.ifs) else none
noncomputable def compE (fl : Bool) (sc cs : Scope) (f₁ f : Expr → Option Ex) (elt : Expr) : List Comprehension → Option Ex
  | [g] => match genE g with
    | some (x, iter, ifs) => if fl && compOk sc cs x && notSet iter then opt2 (fun (f : List Ex → Ex) c => f c) (opt2 (fun a b c => Ex.comp a x b c) (f₁ elt) (f iter)) (listE f₁ ifs) else none
    | none => none
  | _ => none
theorem genE_of {g : Comprehension} {x : Str} {iter : Expr} {ifs : List Expr} (h : genE g = some (x, iter, ifs)) : ∃ p, g = ⟨.Name x p, iter, ifs, 0⟩ := by
  obtain ⟨y, h1, h2⟩ := Option.bind_eq_some_iff.mp h
  obtain ⟨p, e⟩ := nmE_of h1
  split at h2
  · rename_i z
    cases h2
    cases g
    cases e
    cases z
    exact ⟨p, rfl⟩
  · cases h2
noncomputable def dictE (f : Expr → Option Ex) (keys : List (Option Expr)) (es : List Expr) : Option Ex := if keys.length == es.length && decide (keys.length ≤ 15) then opt2 .dict (keyE keys) (listE f es) else none
noncomputable def callL (sc : Scope) (f : Expr → Option Ex) (args : List Expr) (pos : Pos) (g : Expr) : Option Ex := callE sc f args pos g
noncomputable def cE : Nat → Scope → Bool → Expr → Option Ex
  | 0, _, _, _ => none
  | k + 1, sc, fl, e => match e with
    | .Name x _ => nameE sc x
    | .Constant c _ _ => cstE c
    | .BinOp l op r _ => opt2 (.bin op) (cE k sc fl l) (cE k sc fl r)
    | .Compare l ops rs _ => cmpE (cE k sc fl) l ops rs
    | .BoolOp op es _ => (listE (cE k sc fl) es).map (boolE op)
    | .UnaryOp op e _ => unE (cE k sc fl) e op
    | .Subscript e i _ => subE (cE k sc fl) e i
    | .Attribute e a _ => if noSuper e then (cE k sc fl e).map (.attr · a) else none
    | .Call g args kws pos => if kws.isEmpty then callL sc (cE k sc fl) args pos g else none
    | .Dict keys es _ => dictE (cE k sc fl) keys es
    | .List es _ => (listE (cE k sc fl) es).map .list
    | .Tuple es _ _ => (listE (cE k sc fl) es).map .tup
    | .ListComp elt gens cs _ => compE fl sc cs (cE k (relabelS cs sc) false) (cE k sc fl) elt gens
    | _ => none

structure ScOk (sc : Scope) (fl : Bool) (env : Env) : Prop where
  sc : env.scope = sc
  fr : fl = true → env.frame = some env.locals ∧ env.cells.Pairwise fun x y => x.2 ≠ y.2

section
variable {G : PG} {n : Nat}
theorem listE_ok {f : Expr → Option Ex} {env : Env} (h : ∀ e a, f e = some a → Snd G n env e (tr G n a)) : ∀ {es : List Expr} {as : List Ex}, listE f es = some as → SndL G n env es (trs G n as)
  | [], as, e => by cases e; unfold trs; exact .nil
  | x :: r, as, e => by
    unfold listE at e
    split at e
    · cases e
    · rename_i hs
      obtain ⟨a, b, e1, e2, rfl⟩ := opt2_some e
      unfold trs
      exact .cons (h _ _ e1) (by simpa using hs) (listE_ok h e2)
theorem okStr_of {x : Str} (h : okStr x = true) : (x == ("__debug__" : Str)) = false ∧ (x == ("__classdict__" : Str)) = false ∧ x ≠ ".0" ∧ x ≠ "__name__" := by
  unfold okStr at h
  simp only [Bool.and_eq_true, bne_iff_ne] at h
  exact ⟨by simpa using h.1.1.1, by simpa using h.1.1.2, h.1.2, h.2⟩

theorem cE_ok : ∀ (k : Nat) {sc : Scope} {fl : Bool} {e : Expr} {a : Ex} {env : Env}, ScOk sc fl env → cE k sc fl e = some a → Snd G n env e (tr G n a)
  | 0, _, _, _, _, _, _, h => by cases h
  | k + 1, sc, fl, e, a, env, hs, h => by
    have ih : ∀ e a, cE k sc fl e = some a → Snd G n env e (tr G n a) := fun e a q => cE_ok k hs q
    obtain rfl := hs.sc
    cases e with
    | Name x p =>
      have h : nameE env.scope x = some a := h
      unfold nameE at h
      split at h
      · rename_i ho
        obtain ⟨o1, o2, o3, o4⟩ := okStr_of ho
        split at h
        · rename_i q; cases h; exact snd_nm o1 o2 o3 (.inl q)
        · rename_i q; cases h; exact snd_nm o1 o2 o3 (.inr (.inl q))
        · rename_i q; cases h; exact snd_nm o1 o2 o3 (.inr (.inr q))
        · rename_i q; cases h; exact snd_gl o1 o4 q
        · cases h
      · cases h
    | Constant c p q =>
      have h : cstE c = some a := h
      cases c <;> first | (cases h; first | exact snd_int | exact snd_str | exact snd_bool | exact snd_none) | cases h
    | BinOp l op r p =>
      have h : opt2 (.bin op) (cE k env.scope fl l) (cE k env.scope fl r) = some a := h
      obtain ⟨x, y, e1, e2, rfl⟩ := opt2_some h; exact snd_bin (ih _ _ e1) (ih _ _ e2)
    | Compare l ops rs p =>
      have h : cmpE (cE k env.scope fl) l ops rs = some a := h
      cases ops with
      | nil => cases h
      | cons o1 ops => cases ops with
        | nil => cases rs with
          | nil => cases h
          | cons r rs => cases rs with
            | nil =>
              replace h : (if behindInMarks o1 r then none else opt2 (.cmp o1) (cE k env.scope fl l) (cE k env.scope fl r)) = some a := h
              split at h
              · cases h
              · rename_i hm
                obtain ⟨x, y, e1, e2, rfl⟩ := opt2_some h; exact snd_cmp (by simpa using hm) (ih _ _ e1) (ih _ _ e2)
            | cons _ _ => cases h
        | cons o2 ops => cases ops with
          | nil => cases rs with
            | nil => cases h
            | cons m rs => cases rs with
              | nil => cases h
              | cons r rs => cases rs with
                | nil =>
                  replace h : (if lastMarks [o1, o2] [m, r] then none else opt2 (fun (f : Ex → Ex) c => f c) (opt2 (Ex.cmp2 o1 o2) (cE k env.scope fl l) (cE k env.scope fl m)) (cE k env.scope fl r)) = some a := h
                  split at h
                  · cases h
                  · rename_i hm
                    obtain ⟨f, z, e0, e3, rfl⟩ := opt2_some h
                    obtain ⟨x, y, e1, e2, rfl⟩ := opt2_some e0; exact snd_cmp2 (by simpa using hm) (ih _ _ e1) (ih _ _ e2) (ih _ _ e3)
                | cons _ _ => cases h
          | cons _ _ => cases h
    | BoolOp op es p =>
      have h : (listE (cE k env.scope fl) es).map (boolE op) = some a := h
      obtain ⟨as, e1, rfl⟩ := Option.map_eq_some_iff.mp h
      cases op with
      | And => exact snd_and (listE_ok ih e1)
      | Or => exact snd_or (listE_ok ih e1)
    | UnaryOp op e p =>
      have h : unE (cE k env.scope fl) e op = some a := h
      cases op with
      | Not => obtain ⟨as, e1, rfl⟩ := Option.map_eq_some_iff.mp h; exact snd_not (ih _ _ e1)
      | USub => obtain ⟨as, e1, rfl⟩ := Option.map_eq_some_iff.mp h; exact snd_neg (ih _ _ e1)
      | _ => cases h
    | Subscript e i p =>
      have h : subE (cE k env.scope fl) e i = some a := h
      unfold subE at h
      split at h
      · rename_i hm
        obtain ⟨x, y, e1, e2, rfl⟩ := opt2_some h; exact snd_sub hm (ih _ _ e1) (ih _ _ e2)
      · cases h
    | Attribute e x p =>
      have h : (if noSuper e then (cE k env.scope fl e).map (.attr · x) else none) = some a := h
      split at h
      · rename_i hm
        obtain ⟨x, e1, rfl⟩ := Option.map_eq_some_iff.mp h; exact snd_attr hm (ih _ _ e1)
      · cases h
    | Call g args kws pos =>
      replace h : (if kws.isEmpty then callL env.scope (cE k env.scope fl) args pos g else none) = some a := h
      split at h
      · rename_i hk
        obtain rfl : kws = [] := List.isEmpty_iff.mp hk
        unfold callL at h
        cases g with
        | Attribute o m apos =>
          replace h : (if noSuper o && decide (args.length < 30) && (apos.endLine == pos.line) then opt2 (fun a as => Ex.meth a m as) (cE k env.scope fl o) (listE (cE k env.scope fl) args) else none) = some a := h
          split at h
          · rename_i hm
            simp only [Bool.and_eq_true, decide_eq_true_eq] at hm
            obtain ⟨x, y, e1, e2, rfl⟩ := opt2_some h
            exact snd_meth hm.1.1 hm.1.2 hm.2 (ih _ _ e1) (listE_ok ih e2)
          · cases h
        | Name g p =>
          replace h : (if okStr g && (env.scope.names.lookup g == some .globalImplicit) then (listE (cE k env.scope fl) args).map (if bnames.contains g then Ex.bi g else Ex.call g) else none) = some a := h
          split at h
          · rename_i hm
            simp only [Bool.and_eq_true, beq_iff_eq] at hm
            obtain ⟨o1, o2, o3, o4⟩ := okStr_of hm.1
            obtain ⟨as, e1, rfl⟩ := Option.map_eq_some_iff.mp h
            split
            · rename_i hb; exact snd_bi (by simpa using hb) o1 o4 hm.2 (listE_ok ih e1)
            · exact snd_call o1 o4 hm.2 (listE_ok ih e1)
          · cases h
        | _ => cases h
      · cases h
    | Dict keys es p =>
      replace h : dictE (cE k env.scope fl) keys es = some a := h
      unfold dictE at h
      split at h
      · rename_i hm
        simp only [Bool.and_eq_true, beq_iff_eq, decide_eq_true_eq] at hm
        obtain ⟨x, y, e1, e2, rfl⟩ := opt2_some h
        exact snd_dict e1 (listE_ok ih e2) hm.1 hm.2
      · cases h
    | List es p =>
      have h : (listE (cE k env.scope fl) es).map Ex.list = some a := h
      obtain ⟨as, e1, rfl⟩ := Option.map_eq_some_iff.mp h; exact snd_list (listE_ok ih e1)
    | Tuple es p q =>
      have h : (listE (cE k env.scope fl) es).map Ex.tup = some a := h
      obtain ⟨as, e1, rfl⟩ := Option.map_eq_some_iff.mp h; exact snd_tup (listE_ok ih e1)
    | ListComp elt gens cs p =>
      replace h : compE fl env.scope cs (cE k (relabelS cs env.scope) false) (cE k env.scope fl) elt gens = some a := h
      unfold compE at h
      split at h
      · split at h
        · rename_i hg
          obtain ⟨_, rfl⟩ := genE_of hg
          split at h
          · rename_i hm
            simp only [Bool.and_eq_true] at hm
            obtain ⟨f, z, e0, e3, rfl⟩ := opt2_some h
            obtain ⟨x, y, e1, e2, rfl⟩ := opt2_some e0
            obtain ⟨f1, f2⟩ := hs.fr hm.1.1
            exact snd_comp (compOk_of hm.1.2) hm.2 f1 f2 (ih _ _ e2) (fun cenv q => cE_ok k ⟨q, fun z => by cases z⟩ e1) (fun cenv q => listE_ok (fun e a w => cE_ok k ⟨q, fun z => by cases z⟩ w) e3)
          · cases h
        · cases h
      · cases h
    | _ => cases h
end
end Mine
set_option maxRecDepth 100000
namespace Mine
open PySem PyProof.Rows

variable {G : PG}
abbrev GoS (G : PG) (B : Heap) (H : Hid) (A : Around) (env : Env) (s : Shared) (t : Sem Flow) (Φ : PS) (Ψ : PX) : Prop :=
  wpAny G.M A t (fun f s' => ∃ fl ρ' σ', RelF H s'.heap fl f ∧ St G B H env ρ' σ' s' ∧ Step H s s' ∧ Φ fl ρ' σ') (QX G B H env Ψ s) s
noncomputable def SndS (G : PG) (n : Nat) (env : Env) (st : Stmt) (T : TS) : Prop := ∀ {B H A ρ σ s Φ Ψ}, Cx G B H A env n → FrameOk B H env → St G B H env ρ σ s → T ρ σ Φ Ψ → GoS G B H A env s (exec st env) Φ Ψ
noncomputable def SndB (G : PG) (n : Nat) (env : Env) (st : List Stmt) (T : TS) : Prop := ∀ {B H A ρ σ s Φ Ψ}, Cx G B H A env n → FrameOk B H env → St G B H env ρ σ s → T ρ σ Φ Ψ → GoS G B H A env s (execs st env) Φ Ψ

section
variable {B : Heap} {H : Hid} {A : Around} {env : Env} {n : Nat} {ρ : Loc} {σ : Sto} {s s₁ : Shared} {Φ : PS} {Ψ : PX}

theorem QX.of {e : Value} {s' : Shared} (q : QX G B H env (PXof ρ fun c σ₁ => Ψ c ρ σ₁) s e s') : QX G B H env Ψ s e s' := by
  obtain ⟨ea, cls, ρ', σ', h1, h2, h3, h4, rfl, h6⟩ := q
  exact ⟨ea, cls, _, σ', h1, h2, h3, h4, h6⟩
theorem Go.stmt {t : Sem Value} {Φ₁ : PE} {Q : Value → Shared → Prop} (h : Go G B H A env ρ s t Φ₁ (PXof ρ fun c σ₁ => Ψ c ρ σ₁))
    (k : ∀ v s₁ a σ₁, Rel H s₁.heap a v → St G B H env ρ σ₁ s₁ → Step H s s₁ → Φ₁ a σ₁ → Q v s₁) : wpAny G.M A t Q (QX G B H env Ψ s) s :=
  wpAny_mono h (fun v s₁ ⟨a, σ₁, r, S, st, p⟩ => k v s₁ a σ₁ r S st p) fun _ _ x => x.of
theorem Go.stmt2 {t : Sem Value} {Φ₁ : PE} {Q : Value → Shared → Prop} (st : Step H s s₁) (h : Go G B H A env ρ s₁ t Φ₁ (PXof ρ fun c σ₁ => Ψ c ρ σ₁))
    (k : ∀ v s₂ a σ₂, Rel H s₂.heap a v → St G B H env ρ σ₂ s₂ → Step H s₁ s₂ → Step H s s₂ → Φ₁ a σ₂ → Q v s₂) : wpAny G.M A t Q (QX G B H env Ψ s) s₁ :=
  wpAny_mono h (fun v s₂ ⟨a, σ₂, r, S, st₂, p⟩ => k v s₂ a σ₂ r S st₂ (st.trans st₂) p) fun _ _ x => (x.step st).of

noncomputable def notComp : Expr → Bool
  | .ListComp .. => false
  | .SetComp .. => false
  | .DictComp .. => false
  | _ => true
theorem swaps_notComp {e : Expr} {t : Option Expr} {line : Nat} (h : notComp e = true) : swapsWith e t line env = pure false := by
  cases e <;> first | rfl | cases h

theorem snd_asg {x : Str} {px pos : Pos} {value : Expr} {a : Ex} (hs : swapsWith value (some (.Name x px)) pos.line env = pure false) (hx : isLoc env.scope x) (h : Snd G n env value (tr G n a)) : SndS G n env (.Assign [.Name x px] value pos) (ts G n (.asg x a)) := by
  intro B H A ρ σ s Φ Ψ C F S p
  exact wpAny_Assign_Name (Go.stmt (h.v C S p) fun v s₁ b σ₁ rb S₁ st₁ p₁ => store_ok F hx S₁ rb fun s₂ S₂ st₂ => ⟨.next, _, _, rfl, S₂, st₁.trans st₂, p₁⟩) hs

noncomputable def swapB (sc : Scope) (x : Str) (px : Pos) (cs : Scope) (vpos : Pos) : Bool :=
  (sc.names.lookup x == some .local) && px.line == vpos.line && !(cs.names.any fun (n, k) => n == x && (k == .local || k == .cell))
theorem swaps_comp {elt : Expr} {gens : List Comprehension} {cs : Scope} {vpos px : Pos} {x : Str} {line : Nat} (hk : env.scope.kind = .function) : swapsWith (.ListComp elt gens cs vpos) (some (.Name x px)) line env = pure (swapB env.scope x px cs vpos) := by
  have : env.blockKind = .function := by unfold Env.blockKind; rw [hk]; rfl
  show (pure (env.blockKind == .function && env.kindOf x == some .local && px.line == vpos.line && !(cs.names.any fun (n, k) => n == x && (k == .local || k == .cell))) : Sem Bool) = _
  rw [this]
  simp only [swapB, Env.kindOf, beq_self_eq_true, Bool.true_and]

theorem swaps_attr {e o : Expr} {x : Str} {pt : Pos} {line : Nat} : swapsWith e (some (.Attribute o x pt)) line env = pure false := by cases e <;> rfl
theorem snd_sattr {o : Expr} {x : Str} {pt pos : Pos} {value : Expr} {a b : Ex} (h : Snd G n env value (tr G n a)) (ho : Snd G n env o (tr G n b)) : SndS G n env (.Assign [.Attribute o x pt] value pos) (ts G n (.sattr b x a)) := by
  intro B H A ρ σ s Φ Ψ C F S p
  refine wpAny_Assign_stores (Go.stmt (h.v C S p) fun v s₁ c σ₁ rc S₁ st₁ p₁ => ?_) (by show swapsWith value (some (.Attribute o x pt)) pos.line env = pure false; exact swaps_attr) rfl
  show wpAny G.M A (do
    let ov ← holding [v] (eval o env)
    standAt pt.atName
    holding [v, ov] (setAttr ov x v)
    release [v, ov] []) _ _ s₁
  refine wpAny_bind (wpAny_holding (Go.stmt2 st₁ (ho.v C S₁ p₁) fun ov s₂ d σ₂ rd S₂ st₂ st₂' p₂ => wpAny_bind (wpAny_standAt (wpAny_bind (wpAny_holding ?_)))))
  exact sattr_ok C S₂ rd (rc.grow st₂.grow) p₂ fun s₃ σ₃ S₃ st₃ p₃ => wpAny_release' ⟨.next, _, _, rfl, S₃, st₂'.trans st₃, p₃⟩

theorem snd_expr {value : Expr} {pos : Pos} {a : Ex} (hk : env.scope.kind = .function) (hc : notComp value = true) (h : Snd G n env value (tr G n a)) : SndS G n env (.Expr value pos) (ts G n (.expr a)) := by
  intro B H A ρ σ s Φ Ψ C F S p
  exact wpAny_Expr_any (Go.stmt (h.v C S p) fun v s₁ c σ₁ rc S₁ st₁ p₁ => ⟨.next, _, _, rfl, S₁, st₁, p₁⟩) (by unfold interactive; rw [hk]; rfl) (swaps_notComp hc)

theorem GoS.step {t : Sem Flow} (st : Step H s s₁) (h : GoS G B H A env s₁ t Φ Ψ) : wpAny G.M A t (fun f s' => ∃ fl ρ' σ', RelF H s'.heap fl f ∧ St G B H env ρ' σ' s' ∧ Step H s s' ∧ Φ fl ρ' σ') (QX G B H env Ψ s) s₁ :=
  wpAny_mono h (fun _ _ ⟨fl, ρ', σ', r, S, q, p⟩ => ⟨fl, ρ', σ', r, S, st.trans q, p⟩) fun _ _ q => q.step st

theorem snd_ite {test : Expr} {pos : Pos} {c : Ex} {t f : List Stmt} {ts' fs : List Sm} (h : Snd G n env test (tr G n c)) (ht : SndB G n env t (tss G n ts')) (hf : SndB G n env f (tss G n fs)) : SndS G n env (.If test t f pos) (ts G n (.ite c ts' fs)) := by
  intro B H A ρ σ s Φ Ψ C F S p
  refine wpAny_If (wpAny_mono (h.t C S p) (fun b s₁ q => ?_) fun _ _ x => x.of)
  obtain ⟨σ₁, S₁, st₁, p₁⟩ := q
  cases b with
  | false => exact GoS.step st₁ (hf C F S₁ p₁)
  | true => exact GoS.step st₁ (ht C F S₁ p₁)

theorem snd_ret {e : Expr} {pos : Pos} {a : Ex} (h : Snd G n env e (tr G n a)) : SndS G n env (.Return (some e) pos) (ts G n (.ret (some a))) := by
  intro B H A ρ σ s Φ Ψ C F S p
  exact wpAny_Return_some (Go.stmt (h.v C S p) fun v s₁ b σ₁ rb S₁ st₁ p₁ => ⟨.ret b, _, _, ⟨v, rfl, rb⟩, S₁, st₁, p₁⟩)
theorem snd_ret0 {pos : Pos} : SndS G n env (.Return none pos) (ts G n (.ret none)) := by
  intro B H A ρ σ s Φ Ψ C F S p
  exact wpAny_Return_none ⟨.ret .none, _, _, ⟨_, rfl, by simp [Rel]⟩, S, .refl _ _, p⟩

theorem snd_for {x : Str} {px pos : Pos} {iter : Expr} {body : List Stmt} {a : Ex} {b : List Sm} (hset : notSet iter = true) (hx : isLoc env.scope x) (h : Snd G n env iter (tr G n a)) (hb : SndB G n env body (tss G n b)) : SndS G n env (.For (.Name x px) iter body [] pos) (ts G n (.for_ x a b)) := by
  intro B H A ρ σ s Φ Ψ C F S p
  refine wpAny_For (wpAny_mono (h.i C S (fun src σ q => by obtain ⟨_, vs, hv, _⟩ := q; exact ⟨vs, hv⟩) p) (fun xv s₁ w => wpAny_mono w (fun itv s₂ q => ?_) fun _ _ x => x.of) fun _ _ x => x.of) (notSet_iter hset)
  obtain ⟨src, it, N, J, σ₁, sm, rfl, I0, Sm, stm, km, st₂, fN, j0, hpair, lp⟩ := q
  refine codeAny_mono (loop_ok I0 (by unfold okFor; rw [hpair]; exact ⟨x, px, rfl⟩) (fun C F S r e k => ?_) (fun ρ σ Φ Ψ p B H A s T F A' S => hb ⟨T, F.toEnvOk, A'⟩ F S p) C F Sm km st₂ fN j0 lp) fun r s' q => ?_
  · cases e; exact assign_name_ok F hx S r k
  · cases r with
    | ok f => obtain ⟨fl, ρ', σ', h1, h2, h3, h4⟩ := q; exact ⟨fl, ρ', σ', h1, h2, stm.trans h3, h4⟩
    | error e => exact wpAny_mono q (fun _ _ z => z.step stm) fun _ _ z => z.step stm
theorem snd_while {test : Expr} {pos : Pos} {body : List Stmt} {c : Ex} {b : List Sm} (h : Snd G n env test (tr G n c)) (hb : SndB G n env body (tss G n b)) : SndS G n env (.While test body [] pos) (ts G n (.while_ c b)) := by
  intro B H A ρ σ s Φ Ψ C F S p
  exact wpAny_While (while_ok (fun ρ σ Φ Ψ p B H A s T E A' S => h.t ⟨T, E, A'⟩ S p) (fun ρ σ Φ Ψ p B H A s T F A' S => hb ⟨T, F.toEnvOk, A'⟩ F S p) C F S p)

theorem snd_nil : SndB G n env [] (tss G n []) := by
  intro B H A ρ σ s Φ Ψ C F S p
  unfold tss at p
  exact wpAny_execs_nil ⟨.next, _, _, rfl, S, .refl _ _, p⟩
theorem snd_cons {st : Stmt} {r : List Stmt} {a : Sm} {b : List Sm} (h : SndS G n env st (ts G n a)) (hr : SndB G n env r (tss G n b)) : SndB G n env (st :: r) (tss G n (a :: b)) := by
  intro B H A ρ σ s Φ Ψ C F S p
  unfold tss at p
  refine wpAny_execs_cons (wpAny_mono (h C F S p) (fun f s₁ q => ?_) fun _ _ x => x)
  obtain ⟨fl, ρ₁, σ₁, rf, S₁, st₁, p₁⟩ := q
  cases fl with
  | next => cases rf; exact GoS.step st₁ (hr C F S₁ p₁)
  | brk => cases rf; exact ⟨.brk, _, _, rfl, S₁, st₁, p₁⟩
  | cont => cases rf; exact ⟨.cont, _, _, rfl, S₁, st₁, p₁⟩
  | ret a => obtain ⟨v, rfl, ra⟩ := rf; exact ⟨.ret a, _, _, ⟨v, rfl, ra⟩, S₁, st₁, p₁⟩
end
end Mine
set_option maxRecDepth 100000
namespace Mine
open PySem PyProof.Rows

variable {G : PG}
section
variable {B : Heap} {H : Hid} {A : Around} {env : Env} {n : Nat} {ρ : Loc} {σ : Sto} {s s₁ : Shared} {Q : Unit → Shared → Prop} {E : Value → Shared → Prop}

theorem mine_none {a : Addr} (S : St G B H env ρ σ s) (h : s.heap.get? a = none) : Mine1 B H σ a where
  base := none_of_not_some fun o e => by
    have := S.keep _ _ e
    rw [h] at this; cases this
  hid := none_of_not_some fun o e => by
    obtain ⟨sl, q, _⟩ := S.hid _ _ e
    rw [h] at q; cases q
  sto := none_of_not_some fun c e => by
    obtain ⟨o, q, _⟩ := (S.store _ _ e).1.there
    rw [h] at q; cases q
/-! ### an object hidden as it stands -/
noncomputable def hideE (H : Hid) (e : Addr) (o : Obj) : Hid := fun a => if a = e then some o else H a
theorem hidE_same (H : Hid) (e : Addr) (o : Obj) : hideE H e o e = some o := by simp [hideE]
theorem hidE_ne {H : Hid} {e a : Addr} {o : Obj} (h : a ≠ e) : hideE H e o a = H a := by simp [hideE, h]
theorem hidE_none {H : Hid} {e a : Addr} {o : Obj} (hn : H e = none) (h : hideE H e o a = none) : H a = none := by
  by_cases q : a = e
  · subst q; exact hn
  · rw [hidE_ne q] at h; exact h
theorem noTupE {h : Heap} {a : Addr} {o : Obj} {vs : Array Value} {items : Array Value} (ho : h.get? a = some o) (hd : o.data = .fields vs) : ¬ IsTup h a items := fun ⟨o', h1, _, m, h2⟩ => by
  rw [ho] at h1; cases h1; rw [hd] at h2; cases h2
theorem St.hidE {e : Addr} {o : Obj} {vs : Array Value} (S : St G B H env ρ σ s) (m : Mine1 B H σ e) (ho : s.heap.get? e = some o) (hd : o.data = .fields vs) : St G B (hideE H e o) env ρ σ s := by
  have d : ∀ a items, IsTup s.heap a items → H a = none → hideE H e o a = none := fun a items t q => by
    have ne : a ≠ e := fun z => by subst z; exact noTupE ho hd t
    rw [hidE_ne ne]; exact q
  refine ⟨S.keep, fun a o' q => ?_, FrameAt.dom d S.frame, fun a c q => ?_, S.root, S.low⟩
  · by_cases z : a = e
    · subst z; rw [hidE_same] at q; cases q; exact ⟨o.slots, ho, fun _ => rfl⟩
    · rw [hidE_ne z] at q; exact S.hid a o' q
  · obtain ⟨q1, q2, q3, q4⟩ := S.store a c q
    refine ⟨CellAt.dom d q1, q2, ?_, q4⟩
    have ne : a ≠ e := fun z => by subst z; rw [m.sto] at q; cases q
    rw [hidE_ne ne]; exact q3
theorem St.unhidE {e : Addr} {o : Obj} (S : St G B (hideE H e o) env ρ σ s) (hn : H e = none) : St G B H env ρ σ s := by
  have d : ∀ a (items : Array Value), IsTup s.heap a items → hideE H e o a = none → H a = none := fun a _ _ q => hidE_none hn q
  refine ⟨S.keep, fun a o' q => S.hid a o' ?_, FrameAt.dom d S.frame, fun a c q => ?_, S.root, S.low⟩
  · have ne : a ≠ e := fun z => by subst z; rw [hn] at q; cases q
    rw [hidE_ne ne]; exact q
  · obtain ⟨q1, q2, q3, q4⟩ := S.store a c q
    exact ⟨CellAt.dom d q1, q2, hidE_none hn q3, q4⟩
theorem Step.unhidE {e : Addr} {o : Obj} {vs : Array Value} (st : Step (hideE H e o) s s₁) (ho : s.heap.get? e = some o) (hd : o.data = .fields vs) : Step H s s₁ :=
  ⟨⟨fun a items q t => st.grow.tup a items (by
    have ne : a ≠ e := fun z => by subst z; exact noTupE ho hd t
    rw [hidE_ne ne]; exact q) t, st.grow.recs⟩, st.gens, st.os⟩
theorem hid_at {e : Addr} {o : Obj} {vs : Array Value} (S : St G B (hideE H e o) env ρ σ s) (hd : o.data = .fields vs) : s.heap.get? e = some o := by
  obtain ⟨sl, h1, h2⟩ := S.hid e o (hidE_same _ _ _)
  rw [h1, h2 (fun es n z => by rw [hd] at z; cases z)]
theorem EnvOk.hidE {e : Addr} {o : Obj} (E0 : EnvOk B H env) (h1 : e ≠ env.locals) (h2 : ∀ x ∈ env.cells, x.2 ≠ e) : EnvOk B (hideE H e o) env :=
  { E0 with loc := ⟨E0.loc.1, by rw [hidE_ne h1.symm]; exact E0.loc.2⟩, own := fun x hx => ⟨(E0.own x hx).1, by rw [hidE_ne (h2 x hx)]; exact (E0.own x hx).2⟩ }
theorem FrameOk.hidE {e : Addr} {o : Obj} (F : FrameOk B H env) (h1 : e ≠ env.locals) (h2 : ∀ x ∈ env.cells, x.2 ≠ e) : FrameOk B (hideE H e o) env := { F.toEnvOk.hidE h1 h2 with fr := F.fr, nodup := F.nodup }
theorem FramesIn.hidE {e : Addr} {o : Obj} {l : List Env} (x : FramesIn B H l) (hn : H e = none) : FramesIn B (hideE H e o) l := fun f hf => by
  obtain ⟨h1, L, oL, h2, h3, h4, h5⟩ := x f hf
  exact ⟨h1, L, oL, h2, h3, by
    have ne : L ≠ e := fun z => by subst z; rw [hn] at h4; cases h4
    rw [hidE_ne ne]; exact h4, h5⟩
theorem AOk.hidE2 {e : Addr} {o : Obj} (a : AOk B H env n A) (hn : H e = none) : AOk B (hideE H e o) env n A := by
  obtain ⟨fe, outer, h1, h2, h3, h4⟩ := a.frames
  refine ⟨a.depth, a.units, ?_, fe, outer, h1, h2.hidE hn, h3, fun q => (h4 q).hidE hn⟩
  rcases a.hand with q | ⟨q, e0, o0, vs, g1, g2, g3⟩
  · exact .inl q
  · have ne : e0 ≠ e := fun z => by subst z; rw [hn] at g2; cases g2
    exact .inr ⟨q, e0, o0, vs, g1, by rw [hidE_ne ne]; exact g2, g3⟩
/-- in a handler -/
theorem AOk.handler {e : Addr} {o : Obj} {vs : Array Value} (a : AOk B H env n A) (hn : H e = none) (h9 : 10 ≤ n) (hd : o.data = .fields vs) (hv : ExcVs vs) : AOk B (hideE H e o) env 9 (A.mark (some (.ref e))) := by
  obtain ⟨fe, outer, h1, h2, h3, h4⟩ := a.frames
  have hd' := a.depth
  have hu' := a.units
  exact ⟨by show A.depth + 4 * 9 ≤ 900; (first | with_reducible assumption | with_reducible exact Nat.lt_of_lt_of_le (by assumption) (by decide) | omega), by show A.units + 40 * 9 ≤ 9000; (first | with_reducible assumption | with_reducible exact Nat.lt_of_lt_of_le (by assumption) (by decide) | omega), .inr ⟨(by first | decide | (with_reducible first | exact lv hn | exact lv1 hn | exact lv2 hn | exact Int.natCast_nonneg _) | omega), e, o, vs, rfl, hidE_same _ _ _, hd, hv.1, hv.2⟩, fe, outer, h1, h2.hidE hn, h3, fun q => (h4 q).hidE hn⟩

/-! ### a name goes -/
noncomputable def delA (y : Str) (ρ : Loc) : Loc := ρ.filter fun p => !(p.1 == y)
theorem delA_lookup (y : Str) : ∀ (ρ : Loc) (z : Str), (delA y ρ).lookup z = if z = y then none else ρ.lookup z
  | [], z => by simp [delA]
  | (x, a) :: r, z => by
    have ih := delA_lookup y r z
    unfold delA at ih ⊢
    by_cases q : x = y
    · subst q
      rw [List.filter_cons_of_neg (by simp), ih, List.lookup_cons]
      by_cases w : z = x
      · simp [w]
      · have : (z == x) = false := by simpa using w
        simp [w, this]
    · rw [List.filter_cons_of_pos (by simpa using q), List.lookup_cons, List.lookup_cons, ih]
      by_cases w : z = x
      · subst w; simp [q]
      · have : (z == x) = false := by simpa using w
        simp [this]
theorem name_gone {y : Str} {pos : Pos} (F : FrameOk B H env) (hl : env.kindOf y = some .local) (hy : y ≠ ".0") (S : St G B H env ρ σ s)
    (h : ∀ s' ρ₃, St G B H env ρ₃ σ s' → (∀ z, z ≠ y → ρ₃.lookup z = ρ.lookup z) → Step H s s' → Q () s') : wpAny G.M A (do bindName env y .none; unbindBehindTheSuite env y pos) Q E s := by
  have hp : (env.scope.kind == .class || (env.scope.kind == .module && env.locals != env.globals)) = false := by rw [F.kind]; rfl
  refine wpAny_bind (wpAny_bindName (store_local (a := .none) F.toEnvOk hl S (by simp [Rel]) fun s₁ S₁ st₁ => ?_))
  unfold unbindBehindTheSuite
  refine wpAny_onRaise ?_
  unfold unbindName
  refine wpAny_bind (wpAny_point (wpAny_bind ?_))
  unfold deleteName
  simp only [hl, hp]
  rw [if_neg (by decide)]
  obtain ⟨m, hn, hm⟩ := S₁.frame.ns
  have hv0 := hm y hl hy
  rw [putA_lookup, if_pos rfl] at hv0
  have hmy : m y = some .none := by
    cases e : m y with
    | none => rw [e] at hv0; exact hv0.elim
    | some u => rw [e] at hv0; simp only [RelO, Rel] at hv0; rw [hv0]
  refine wpAny_bind (wpAny_nsDel_keeps hn fun h' v hn' hs' => ?_)
  simp only [hmy, Option.isSome_some, Bool.not_true, Bool.false_eq_true, if_false]
  have kk : ∀ b o, b ≠ env.locals → s₁.heap.get? b = some o → h'.get? b = some o := fun b o nb e => hs'.extBut b o nb e
  have g : Grow H s₁.heap h' := by
    obtain ⟨o, es, ep, ho, hd, _⟩ := hn
    exact .of_keepBut kk (fun items ⟨o', ho', _, _, hd'⟩ => by rw [ho] at ho'; cases ho'; rw [hd] at hd'; cases hd') fun o' vs ho' hd' => by rw [ho] at ho'; cases ho'; rw [hd] at hd'; cases hd'
  have key : ∀ ρ₃ : Loc, (∀ z, z ≠ y → ρ₃.lookup z = ρ.lookup z) → RelO H h' (ρ₃.lookup y) v → Q () { s₁ with heap := h' } := fun ρ₃ r1 r2 => by
    have E0 := F.toEnvOk
    refine h { s₁ with heap := h' } ρ₃ ⟨fun b o e => kk b o (fun z => by rw [z, E0.loc.1] at e; cases e) (S₁.keep b o e), fun b o e => ?_, ⟨⟨_, hn', fun z hz hz0 => ?_⟩, fun z hz => ?_, fun z hz => ?_⟩, fun b c e => ?_, S₁.root, S₁.low⟩ r1 (st₁.trans ⟨g, rfl, rfl⟩)
    · obtain ⟨sl, e1, e2⟩ := S₁.hid b o e
      exact ⟨sl, kk b _ (fun z => by rw [z, E0.loc.2] at e; cases e) e1, e2⟩
    · by_cases q : z = y
      · subst q; rw [if_pos rfl]; exact r2
      · rw [if_neg q, r1 z q]
        have := hm z hz hz0
        rw [putA_lookup, if_neg q] at this
        exact this.grow g
    · obtain ⟨c, u, e1, ⟨o, ho, hd⟩, e3⟩ := S₁.frame.cells z hz
      have q : z ≠ y := fun q => by subst q; rcases hz with q | q <;> rw [hl] at q <;> cases q
      refine ⟨c, u, e1, ⟨o, kk c o (E0.apart _ (mem_of_lookup e1)) ho, hd⟩, ?_⟩
      rw [putA_lookup, if_neg q] at e3
      rw [r1 z q]; exact e3.grow g
    · obtain ⟨u, o, ho, hd⟩ := S₁.frame.there z hz
      exact ⟨u, o, kk _ o (E0.apart _ hz) ho, hd⟩
    · obtain ⟨q1, q2, q3, q4, q5⟩ := S₁.store b c e
      exact ⟨q1.keep (fun o e => kk b o q4 e) g, q2, q3, q4, q5⟩
  have fin : Q () { s₁ with heap := h' } := by
    cases v with
    | none => exact key (delA y ρ) (fun z q => by rw [delA_lookup, if_neg q]) (by rw [delA_lookup, if_pos rfl]; trivial)
    | some u => exact key (putA y (.val u) ρ) (fun z q => by rw [putA_lookup, if_neg q]) (by rw [putA_lookup, if_pos rfl]; simp [RelO, Rel])
  exact wpAny_pure (wpAny_point fin)
end
end Mine
set_option maxRecDepth 100000
namespace Mine
open PySem PyProof.Rows

variable {G : PG}
section
variable {env : Env} {n : Nat}
theorem snd_raise {x m : Str} {np cpos pos p1 : Pos} {k : Nat} (hd : (x == ("__debug__" : Str)) = false) (hn : x ≠ "__name__") (hk : env.kindOf x = some .globalImplicit) :
    SndS G n env (.Raise (some (.Call (.Name x np) [.Constant (.str m) k p1] [] cpos)) none pos) (ts G n (.raise x m)) := by
  intro B H A ρ σ s Φ Ψ C F S p
  refine byP fun P₀ hP₀ => ?_
  obtain ⟨Ca, hmg, hn10, hex, p⟩ := p
  refine hP₀ ?_
  have hh := hand_none C hn10
  refine byP fun P₀ hP₀ => ?_
  obtain ⟨bm, N, nm, q, bs, hdct, sn, sub, ab, col, dd, k0, k1, k2, k3, k5, mN, hC, hN, hni, T⟩ := (hex _ C.T).obj
  refine hP₀ ?_
  have hl : SndL G n env [.Constant (.str m) k p1] (trs G n [.cst (.str m)]) := .cons snd_str rfl .nil
  have hb : bmVE.contains (.type "BaseException") = true := by decide +kernel
  refine wpAny_Raise_call_subU (C := Ca) (nm := nm) (q := q) (N := N) (bs := bs) (bm := bm) (hdct := hdct) (sn := sn) (sub := sub) (ab := ab) (col := col) (dd := dd) (k0 := k0) (k1 := k1) (k2 := k2) (k3 := k3) (k5 := k5) (mN := mN) PySem.F.excBase_ValueError (by decide +kernel) PySem.F.excBase_ValueError (T.hasType hb) hh (plain_args hl) hni ?_
  refine Go.after' (go_glob (Ψ := Ψ) (Φ := fun a σ' => a = .ref Ca ∧ σ' = σ) C S hk hn np hd (by unfold globV; rw [hmg]; exact ⟨rfl, rfl⟩)) fun fv s₁ a σ₁ ra S₁ st₁ q => ?_
  obtain ⟨rfl, rfl⟩ := q
  simp only [Rel] at ra; subst ra
  refine ⟨rfl, evalArgs_ok hl (wpAny_mono (snd_seq (pos := cpos) (Ψ := fun _ _ => False) (Φ := fun as σ₂ => as = [.str m] ∧ σ₂ = σ₁) hl C S₁ ⟨rfl, rfl⟩) (fun vs s₂ q₂ => ?_) fun e s' q₂ => ?_)⟩
  · refine byP fun P₀ hP₀ => ?_
    obtain ⟨as, σ₂, rs, S₂, st₂, rfl, rfl⟩ := q₂
    refine hP₀ ?_
    have hz : vs.length = 1 := rs.length
    refine ⟨rfl, by show vs.length ≤ sizeLine; rw [hz]; unfold sizeLine; omega, S₂.keep _ _ hC, hN.keeps S₂.keep, T.keeps S₂.keep, fun h' e M => ?_⟩
    refine byP fun P₀ hP₀ => ?_
    obtain ⟨t, ht, _, _⟩ := M.there
    refine hP₀ ?_
    exact ⟨e, .ref Ca, ρ, σ₂, rfl, ⟨mine_none S₂ M.new, ⟨Ca, rfl⟩, _, _, ht, ⟨rfl, rfl⟩, rfl, ⟨by show 5 < 6; (first | with_reducible assumption | with_reducible exact Nat.lt_of_lt_of_le (by assumption) (by decide) | omega), rfl⟩, .inl rfl⟩, S₂.same (s' := { s₂ with heap := h' }) M.keeps, (st₁.trans st₂).trans (.keeps M.keeps), p⟩
  · refine byP fun P₀ hP₀ => ?_
    obtain ⟨_, _, _, _, _, _, _, _, _, z⟩ := q₂
    refine hP₀ ?_
    exact z.elim
theorem snd_try {body hb : List Stmt} {b₀ : Stmt} {x y : Str} {np hpos pos : Pos} {bd hd : List Sm} (hbd : SndB G n env body (tss G n bd)) (hhd : SndB G 9 env (b₀ :: hb) (tss G 9 hd)) (xd : (x == ("__debug__" : Str)) = false) (xn : x ≠ "__name__") (xk : env.kindOf x = some .globalImplicit)
    (yk : env.kindOf y = some .local) (y0 : y ≠ ".0") : SndS G n env (.Try body [.ExceptHandler (some (.Name x np)) (some y) (b₀ :: hb) hpos] [] [] pos) (ts G n (.try_ bd x y hd)) := by
  intro B H A ρ σ s Φ Ψ C F S p
  obtain ⟨h10, p⟩ := p
  show wpAny G.M A (exec (.Try body [.ExceptHandler (some (.Name x np)) (some y) (b₀ :: hb) hpos] [] [] pos) env) _ _ s
  rw [arm_exec_Try]
  refine wpAny_bind (wpAny_standAt (wpAny_tryStmt_except (wpAny_mono (hbd C F S p) (fun f s₁ q => ?_) fun e s₁ q => ?_)))
  · refine byP fun P₀ hP₀ => ?_
    obtain ⟨fl, ρ', σ', rf, S', st, p'⟩ := q
    refine hP₀ ?_
    cases fl with
    | next =>
      obtain rfl : f = .next := rf
      exact wpAny_pure ⟨.next, ρ', σ', rfl, S', st, p'⟩
    | brk => obtain rfl : f = .brk := rf; exact ⟨.brk, ρ', σ', rfl, S', st, p'⟩
    | cont => obtain rfl : f = .cont := rf; exact ⟨.cont, ρ', σ', rfl, S', st, p'⟩
    | ret a =>
      refine byP fun P₀ hP₀ => ?_
      obtain ⟨v, rfl, rv⟩ := rf
      refine hP₀ ?_
      exact ⟨.ret a, ρ', σ', ⟨v, rfl, rv⟩, S', st, p'⟩
  · refine byP fun P₀ hP₀ => ?_
    obtain ⟨ea, cls, ρ₁, σ₁, rfl, fly, S₁, st₁, Ca, hmg, hex, hall⟩ := q
    refine hP₀ ?_
    refine note_frame C.A F S₁ fly fun s₂ S₂ f₂ st₂ => ?_
    refine set_flight S₂ f₂ fun s₃ S₃ f₃ st₃ => ?_
    refine byP fun P₀ hP₀ => ?_
    obtain ⟨new, ⟨D, rfl⟩, oe, vs, he, hc, hdv, hsz, T, h1, newT, hTe, oT, ts', hT, hTc, hTd, hTs⟩ := id f₃
    refine hP₀ ?_
    have aE := fields_apart S₃ he hdv
    have aT := fields_apart S₃ hT hTd
    have e1 : ea ≠ env.locals := aE.1
    -- what is hidden while the class is looked up: the exception and its traceback
    have newT' : Mine1 B (hideE H ea oe) σ₁ T := ⟨newT.base, by rw [hidE_ne hTe]; exact newT.hid, newT.sto⟩
    have SA := (S₃.hidE new he hdv).hidE newT' hT hTd
    have AH : AOk B (hideE H ea oe) env 9 (A.mark (some (.ref ea))) := C.A.handler new.hid h10 hdv hsz
    have C2 : Cx G B (hideE (hideE H ea oe) T oT) (A.mark (some (.ref ea))) env 9 := ⟨C.T, (C.E.hidE aE.1 aE.2).hidE aT.1 aT.2, AH.hidE2 newT'.hid⟩
    refine wpAny_handleBy_cons (codeAny_handlers_test (wpAny_mono (go_glob (Ψ := fun _ _ _ => False) (Φ := fun a σ' => a = .ref Ca ∧ σ' = σ₁) C2 SA xk xn np xd (by unfold globV; rw [hmg]; exact ⟨rfl, rfl⟩)) (fun c s₄ q => ?_) fun e s' q => ?_)) (by intro q; cases q)
    rotate_left
    · refine byP fun P₀ hP₀ => ?_
      obtain ⟨_, _, _, _, _, _, _, _, z⟩ := q
      refine hP₀ ?_
      exact z.elim
    refine byP fun P₀ hP₀ => ?_
    obtain ⟨a, σ₄, ra, S₄, st₄, rfl, rfl⟩ := q
    refine hP₀ ?_
    simp only [Rel] at ra; subst ra
    have hT₄ : s₄.heap.get? T = some oT := hid_at S₄ hTd
    have S₄' := S₄.unhidE newT'.hid
    have he₄ : s₄.heap.get? ea = some oe := hid_at S₄' hdv
    have S₄'' := S₄'.unhidE new.hid
    have st₄' : Step H s₃ s₄ := (st₄.unhidE hT hTd).unhidE he hdv
    refine W.exm_one (inK_at C2 S₄) (inst_exn he₄ hc.1 hc.2 hdv).type hex _ _ _ s₄ (fun _ _ e => e) ?_
    show codeAny _ _ _ _ s₄
    refine codeAny_handlers_suite_as ?_
    have f₄ : FliesT B H σ₄ s₄.heap ea (.ref D) := ⟨new, ⟨D, rfl⟩, oe, vs, he₄, hc, hdv, hsz, T, h1, newT, hTe, oT, ts', hT₄, hTc, hTd, hTs⟩
    refine set_flight S₄'' f₄ fun s₅ S₅ f₅ st₅ => ?_
    refine byP fun P₀ hP₀ => ?_
    obtain ⟨_, _, oe5, vs5, he5, hc5, hd5, hsz5, _⟩ := id f₅
    refine hP₀ ?_
    have SB := S₅.hidE new he5 hd5
    have FB : FrameOk B (hideE H ea oe5) env := F.hidE aE.1 aE.2
    have AB : AOk B (hideE H ea oe5) env 9 (A.mark (some (.ref ea))) := C.A.handler new.hid h10 hd5 hsz5
    refine store_ok (a := .exn ea (.ref D)) FB (.inl yk) SB ?_ fun s₆ S₆ st₆ => ?_
    · simp only [Rel]
      exact ⟨trivial, D, oe5, vs5, rfl, he5, hc5, hd5⟩
    refine wpAny_mono (hhd ⟨C.T, FB.toEnvOk, AB⟩ FB S₆ (hall ea)) (fun f s₇ q => ?_) fun x s₇ q => ?_
    · refine byP fun P₀ hP₀ => ?_
      obtain ⟨fl, ρ₂, σ₂, rf, S₇, st₇, p₇⟩ := q
      refine hP₀ ?_
      have S₇' := S₇.unhidE new.hid
      have st₆' : Step H s₅ s₆ := st₆.unhidE he5 hd5
      have st₇' : Step H s₆ s₇ := st₇.unhidE (hid_at S₆ hd5) hd5
      refine name_gone F yk y0 S₇' fun s₈ ρ₃ S₈ r₃ st₈ => ?_
      have rf' : RelF H s₈.heap fl f := by
        cases fl with
        | next => exact rf
        | brk => exact rf
        | cont => exact rf
        | ret a =>
          refine byP fun P₀ hP₀ => ?_
          obtain ⟨v, e, rv⟩ := rf
          refine hP₀ ?_
          exact ⟨v, e, (Rel.dom (fun a items _ z => hidE_none new.hid z) rv).grow st₈.grow⟩
      exact ⟨fl, ρ₃, σ₂, rf', S₈, ((((((st₁.trans st₂).trans st₃).trans st₄').trans st₅).trans st₆').trans st₇').trans st₈, p₇ ρ₃ r₃⟩
    · refine byP fun P₀ hP₀ => ?_
      obtain ⟨_, _, _, _, _, _, _, _, z⟩ := q
      refine hP₀ ?_
      exact z.elim
end
end Mine
set_option maxRecDepth 100000
namespace Mine
open PySem PyProof.Rows

variable {G : PG}
section
variable {B : Heap} {H : Hid} {A : Around} {env : Env} {n : Nat} {ρ : Loc} {σ : Sto} {s s₁ : Shared} {Q : Unit → Shared → Prop} {E : Value → Shared → Prop}
/-- a list's item is stored: the list as it stands then -/
theorem set_list {prog : Program} {w : World} {l : Addr} {items : Array Value} {m : Nat} {k : Int} {t : Tok} {v : Value} (ho : s.heap.get? l = some ⟨.type "list", none, .seq items m, #[]⟩) (h0 : 0 ≤ k) (hfit : k < 2 ^ 63) (hn : k < items.size)
    (hQ : Q () { s with heap := s.heap.update l (Obj.mapSeq (·.setIfInBounds k.toNat v)) }) : wpAny (model prog w) A (setItem (.ref l) (.int k t) v) Q E s := by
  have hl : s.heap.IsList l items := isList_of ho
  unfold setItem
  try with_reducible refine wpAny_holding ?_
  first | refine wpAny_bind (wpAny_pure ?_) | skip
  refine wpAny_bind (wpAny_sequenceKey hl.typeIs (by decide) ?_)
  refine wpAny_bind (wpAny_callSpecial?_slot (name := Str.ofString "__setitem__") hl.typeIs PySem.slot_list_setitem
    (wpAny_call_entry PySem.slot_list_setitem hl.typeIs PySem.entry_list_setitem ?_ (PySem.args_list_setitem _ _ _)))
  show wpAny _ _ (Builtin.List.listSubscript? (.int k t) >>= _) _ _ s
  refine wpAny_bind (wpAny_listSubscript_int (fitsIndex_of h0 hfit) ?_)
  clear hfit
  obtain ⟨j, rfl⟩ := Int.eq_ofNat_of_zero_le h0
  have hj : j < items.size := by omega
  have hx' : items[j]? = some items[j] := Array.getElem?_eq_getElem hj
  show wpAny _ _ ((seqItemAt l j >>= fun r => pure (r.map (j, ·))) >>= _) _ _ s
  refine wpAny_bind (wpAny_bind (wpAny_seqItemAt ho rfl (wpAny_pure ?_)))
  rw [hx']
  show wpAny _ _ (setSeqItemAt l j v >>= _) _ _ s
  refine wpAny_bind (wpAny_setSeqItemAt ho rfl ?_)
  first
    | exact wpAny_bind (wpAny_pure (wpAny_pure ⟨.none, rfl, wpAny_pure hQ⟩))
    | exact wpAny_pure ⟨.none, rfl, wpAny_pure hQ⟩
theorem sitem_list_ok {l : Addr} {vs : List AV} {a : AV} {v : Value} {k : Int} {t : Tok} (S : St G B H env ρ σ s) (hq : σ l = some (.list vs)) (ra : Rel H s.heap a v) (h0 : 0 ≤ k) (h1 : k < vs.length) (h2 : k < 2 ^ 62)
    (h : ∀ s', St G B H env ρ (upd σ l (.list (vs.set k.toNat a))) s' → Step H s s' → Q () s') : wpAny G.M A (setItem (.ref l) (.int k t) v) Q E s := by
  obtain ⟨items, m, ho, rl⟩ := S.listAt (lstOf_list hq)
  have hz : items.size = vs.length := by rw [← Array.length_toList, rl.length]
  refine set_list ho h0 (by first | decide | (with_reducible first | exact lv hn | exact lv1 hn | exact lv2 hn | exact Int.natCast_nonneg _) | omega) (by first | decide | (with_reducible first | exact lv hn | exact lv1 hn | exact lv2 hn | exact Int.natCast_nonneg _) | omega) ?_
  have hd : (Obj.mapSeq (·.setIfInBounds k.toNat v) ⟨.type "list", none, .seq items m, #[]⟩) = ⟨.type "list", none, .seq (items.setIfInBounds k.toNat v) (if (items.setIfInBounds k.toNat v).size == items.size then m else m + 1), #[]⟩ := rfl
  have hg := Heap.get?_update_self (h := s.heap) (Obj.mapSeq (·.setIfInBounds k.toNat v)) ho (by rw [hd]; rfl)
  rw [hd] at hg
  obtain ⟨S', st⟩ := S.putList (s' := { s with heap := s.heap.update l (Obj.mapSeq (·.setIfInBounds k.toNat v)) }) (vs' := vs.set k.toNat a) hq (fun b o nb e => by rw [Heap.get?_update_other _ _ (Ne.symm nb)]; exact e) hg
    (fun g => by simpa using (rl.grow g).set k.toNat (ra.grow g)) rfl rfl
  exact h _ S' st

/-! ### dicts -/
theorem sitem_dictI_ok {l : Addr} {kvs : List (Int × AV)} {a : AV} {v : Value} {k : Int} {t : Tok} (S : St G B H env ρ σ s) (hq : σ l = some (.dictI kvs)) (ra : Rel H s.heap a v) (hz : kvs.length < sizeLine)
    (h : ∀ s', St G B H env ρ (upd σ l (.dictI (putI k a kvs))) s' → Step H s s' → Q () s') : wpAny G.M A (setItem (.ref l) (.int k t) v) Q E s := by
  obtain ⟨vs, D, e, r⟩ := (S.store l _ hq).1
  have nd : (vs.map (·.1)).Nodup := by obtain ⟨_, _, _, _, _, _, _, _, q⟩ := D; exact q
  refine wpAny_setItem_pairs (knd := intKind G.prog G.w) (intKind_is G.prog G.w k t) D (fun h' D' hs' => ?_) (by have := congrArg List.length e; simp at this; omega)
  have kk : ∀ b o, b ≠ l → s.heap.get? b = some o → h'.get? b = some o := fun b o nb e => hs'.extBut b o nb e
  have g : Grow H s.heap h' := by
    obtain ⟨o', ho', ht, hr⟩ := (S.store l _ hq).1.there
    exact .of_keepBut kk ht fun o'' vs e => by rw [ho'] at e; cases e; exact hr vs
  obtain ⟨i1, i2⟩ := put_stored (k := k) (ra.grow g) nd e (r.grow g)
  obtain ⟨S', _⟩ := S.put (s' := { s with heap := h', toks := s.toks + 1 }) (c := .dictI (putI k a kvs)) hq rfl kk ⟨_, D', i1, i2⟩
  exact h _ S' ⟨g, rfl, rfl⟩
theorem sitem_dictS_ok {l : Addr} {kvs : List (Str × AV)} {a : AV} {v : Value} {k : Str} {t : Tok} (S : St G B H env ρ σ s) (hq : σ l = some (.dictS kvs)) (ra : Rel H s.heap a v) (hz : kvs.length < sizeLine)
    (h : ∀ s', St G B H env ρ (upd σ l (.dictS (putI k a kvs))) s' → Step H s s' → Q () s') : wpAny G.M A (setItem (.ref l) (.str k t) v) Q E s := by
  obtain ⟨vs, D, e, r⟩ := (S.store l _ hq).1
  have nd : (vs.map (·.1)).Nodup := by obtain ⟨_, _, _, _, _, _, _, _, q⟩ := D; exact q
  refine wpAny_setItem_pairs (knd := strKind G.prog G.w) (strKind_is G.prog G.w k t) D (fun h' D' hs' => ?_) (by have := congrArg List.length e; simp at this; omega)
  have kk : ∀ b o, b ≠ l → s.heap.get? b = some o → h'.get? b = some o := fun b o nb e => hs'.extBut b o nb e
  have g : Grow H s.heap h' := by
    obtain ⟨o', ho', ht, hr⟩ := (S.store l _ hq).1.there
    exact .of_keepBut kk ht fun o'' vs e => by rw [ho'] at e; cases e; exact hr vs
  obtain ⟨i1, i2⟩ := put_stored (k := k) (ra.grow g) nd e (r.grow g)
  obtain ⟨S', _⟩ := S.put (s' := { s with heap := h', toks := s.toks + 1 }) (c := .dictS (putI k a kvs)) hq rfl kk ⟨_, D', i1, i2⟩
  exact h _ S' ⟨g, rfl, rfl⟩

theorem swaps_sub {e o i : Expr} {pt : Pos} {line : Nat} : swapsWith e (some (.Subscript o i pt)) line env = pure false := by cases e <;> rfl
theorem snd_sitem {o i value : Expr} {pt pos : Pos} {a b c : Ex} (h : Snd G n env value (tr G n c)) (ho : Snd G n env o (tr G n a)) (hi : Snd G n env i (tr G n b)) : SndS G n env (.Assign [.Subscript o i pt] value pos) (ts G n (.sitem a b c)) := by
  intro B H A ρ σ s Φ Ψ C F S p
  refine wpAny_Assign_Subscript (Go.stmt (h.v C S p) fun v s₁ c σ₁ rc S₁ st₁ p₁ => Go.stmt2 st₁ (ho.v C S₁ p₁) fun ov s₂ d σ₂ rd S₂ st₂ st₂' p₂ => Go.stmt2 st₂' (hi.v C S₂ p₂) fun iv s₃ e σ₃ re S₃ st₃ st₃' p₃ => ?_) swaps_sub
  have rc' := (rc.grow st₂.grow).grow st₃.grow
  unfold sitemV at p₃
  split at p₃
  · rename_i r
    simp only [Rel] at rd; subst rd
    split at p₃
    · rename_i vs hq
      split at p₃
      · rename_i k
        simp only [Rel] at re; obtain ⟨t, rfl⟩ := re
        obtain ⟨k0, k1, k2, p₃⟩ := p₃
        exact sitem_list_ok S₃ hq rc' k0 k1 k2 fun s' S' st' => ⟨.next, _, _, rfl, S', st₃'.trans st', p₃⟩
      · exact p₃.elim
    · rename_i kvs hq
      split at p₃
      · rename_i k
        simp only [Rel] at re; obtain ⟨t, rfl⟩ := re
        exact sitem_dictI_ok S₃ hq rc' p₃.1 fun s' S' st' => ⟨.next, _, _, rfl, S', st₃'.trans st', p₃.2⟩
      · exact p₃.elim
    · rename_i kvs hq
      split at p₃
      · rename_i k
        simp only [Rel] at re; obtain ⟨t, rfl⟩ := re
        exact sitem_dictS_ok S₃ hq rc' p₃.1 fun s' S' st' => ⟨.next, _, _, rfl, S', st₃'.trans st', p₃.2⟩
      · exact p₃.elim
    · exact p₃.elim
  · exact p₃.elim
end
end Mine
set_option maxRecDepth 100000
namespace Mine
open PySem PyProof.Rows

noncomputable def isLocB (sc : Scope) (x : Str) : Bool := sc.names.lookup x == some .local || sc.names.lookup x == some .cell
theorem isLocB_of {sc : Scope} {x : Str} (h : isLocB sc x = true) : isLoc sc x := by
  unfold isLocB at h
  simpa [isLoc] using h

noncomputable def cL (f : Stmt → Option Sm) : List Stmt → Option (List Sm)
  | [] => some []
  | s :: r => opt2 (· :: ·) (f s) (cL f r)

/-- a name bound to a comprehension -/
noncomputable def asgC (sc : Scope) (x : Str) (px : Pos) (elt : Expr) (cs : Scope) (vpos : Pos) : List Comprehension → Option Sm
  | [g] => match genE g with
    | some (y, iter, ifs) => if isLocB sc x && (swapB sc x px cs vpos) && compOk sc cs y && notSet iter then
        (opt2 (fun (f : List Ex → Ex) c => f c) (opt2 (fun a b c => Ex.comp a y b c) (cE 60 (relabelS cs sc) false elt) (cE 60 sc true iter)) (listE (cE 60 (relabelS cs sc) false) ifs)).map (.asg x)
      else if isLocB sc x && !(swapB sc x px cs vpos) then (cE 60 sc true (.ListComp elt [g] cs vpos)).map (.asg x) else none
    | none => none
  | _ => none
noncomputable def asgN (sc : Scope) (x : Str) (px : Pos) : Expr → Option Sm
  | .ListComp elt gens cs vpos => asgC sc x px elt cs vpos gens
  | value => if isLocB sc x && notComp value then (cE 60 sc true value).map (.asg x) else none
noncomputable def asgS (sc : Scope) (value : Expr) : Expr → Option Sm
  | .Name x px => asgN sc x px value
  | .Attribute o x _ => opt2 (fun a b => .sattr b x a) (cE 60 sc true value) (cE 60 sc true o)
  | .Subscript o i _ => opt2 (fun (g : Ex → Sm) c => g c) (opt2 (fun a b c => Sm.sitem b c a) (cE 60 sc true value) (cE 60 sc true o)) (cE 60 sc true i)
  | _ => none
noncomputable def forS (sc : Scope) (iter : Expr) (body : Option (List Sm)) : Expr → Option Sm
  | .Name x _ => if notSet iter && isLocB sc x then opt2 (.for_ x) (cE 60 sc true iter) body else none
  | _ => none
abbrev RaiseIs (sc : Scope) (c e : Option Expr) (a : Sm) : Prop := ∃ x np m k p1 cpos, e = some (.Call (.Name x np) [.Constant (.str m) k p1] [] cpos) ∧ c = none ∧ okStr x = true ∧ sc.names.lookup x = some .globalImplicit ∧ a = .raise x m
theorem raise_p {sc : Scope} {c : Option Expr} {x m : Str} (h : (c.isNone && okStr x && (sc.names.lookup x == some .globalImplicit)) = true) : c = none ∧ okStr x = true ∧ sc.names.lookup x = some .globalImplicit ∧ Sm.raise x m = .raise x m := by
  simp only [Bool.and_eq_true, Option.isNone_iff_eq_none, beq_iff_eq] at h
  exact ⟨h.1.1, h.1.2, h.2, rfl⟩
noncomputable def raiseD (sc : Scope) (c : Option Expr) : (e : Option Expr) → Option { a : Sm // RaiseIs sc c e a }
  | some (.Call (.Name x np) [.Constant (.str m) k p1] [] cpos) => if h : (c.isNone && okStr x && (sc.names.lookup x == some .globalImplicit)) = true then some ⟨.raise x m, x, np, m, k, p1, cpos, rfl, raise_p h⟩ else none
  | _ => none
noncomputable def raiseS (sc : Scope) (c e : Option Expr) : Option Sm := (raiseD sc c e).map Subtype.val
theorem raiseS_of {sc : Scope} {c e : Option Expr} {a : Sm} (h : raiseS sc c e = some a) : RaiseIs sc c e a := val_of (o := raiseD sc c e) h
abbrev TryIs (sc : Scope) (f : List Stmt → Option (List Sm)) (body : List Stmt) (hs : List ExceptHandler) (a : Sm) : Prop := ∃ x np y b₀ hb hpos bd hd, hs = [.ExceptHandler (some (.Name x np)) (some y) (b₀ :: hb) hpos] ∧ okStr x = true ∧ sc.names.lookup x = some .globalImplicit ∧ sc.names.lookup y = some .local ∧ y ≠ ".0" ∧ f body = some bd ∧ f (b₀ :: hb) = some hd ∧ a = .try_ bd x y hd
theorem try_p {sc : Scope} {x y : Str} {A : Prop} (h : (okStr x && (sc.names.lookup x == some .globalImplicit) && (sc.names.lookup y == some .local) && (y != ".0")) = true) (k : A) : okStr x = true ∧ sc.names.lookup x = some .globalImplicit ∧ sc.names.lookup y = some .local ∧ y ≠ ".0" ∧ A := by
  simp only [Bool.and_eq_true, beq_iff_eq, bne_iff_ne] at h
  exact ⟨h.1.1.1, h.1.1.2, h.1.2, h.2, k⟩
noncomputable def tryD (sc : Scope) (f : List Stmt → Option (List Sm)) (body : List Stmt) : (hs : List ExceptHandler) → Option { a : Sm // TryIs sc f body hs a }
  | [.ExceptHandler (some (.Name x np)) (some y) (b₀ :: hb) hpos] => if h : (okStr x && (sc.names.lookup x == some .globalImplicit) && (sc.names.lookup y == some .local) && (y != ".0")) = true then
      match h1 : f body, h2 : f (b₀ :: hb) with
      | some bd, some hd => some ⟨.try_ bd x y hd, x, np, y, b₀, hb, hpos, bd, hd, rfl, try_p h ⟨h1, h2, rfl⟩⟩
      | _, _ => none
    else none
  | _ => none
noncomputable def tryS (sc : Scope) (f : List Stmt → Option (List Sm)) (body : List Stmt) (hs : List ExceptHandler) : Option Sm := (tryD sc f body hs).map Subtype.val
theorem tryS_of {sc : Scope} {f : List Stmt → Option (List Sm)} {body : List Stmt} {hs : List ExceptHandler} {a : Sm} (h : tryS sc f body hs = some a) : TryIs sc f body hs a := val_of (o := tryD sc f body hs) h
noncomputable def cS : Nat → Scope → Stmt → Option Sm
  | 0, _, _ => none
  | k + 1, sc, st => match st with
    | .Assign ts value _ => match ts with
      | [t] => asgS sc value t
      | _ => none
    | .Expr value _ => if notComp value then (cE 60 sc true value).map .expr else none
    | .If test t f _ => opt2 (fun (g : List Sm → Sm) c => g c) (opt2 (fun a b c => Sm.ite a b c) (cE 60 sc true test) (cL (cS k sc) t)) (cL (cS k sc) f)
    | .For t iter body orelse _ => if orelse.isEmpty then forS sc iter (cL (cS k sc) body) t else none
    | .While test body orelse _ => if orelse.isEmpty then opt2 .while_ (cE 60 sc true test) (cL (cS k sc) body) else none
    | .Return v _ => match v with
      | some e => (cE 60 sc true e).map fun a => .ret (some a)
      | none => some (.ret none)
    | .Raise e c _ => raiseS sc c e
    | .Try body hs orelse final _ => if orelse.isEmpty && final.isEmpty then tryS sc (cL (cS k sc)) body hs else none
    | _ => none

section
variable {G : PG} {n : Nat} {env : Env}
theorem cL_ok {f : Stmt → Option Sm} (h : ∀ s a, f s = some a → SndS G n env s (ts G n a)) : ∀ {l : List Stmt} {as : List Sm}, cL f l = some as → SndB G n env l (tss G n as)
  | [], as, e => by cases e; exact snd_nil
  | x :: r, as, e => by
    obtain ⟨a, b, e1, e2, rfl⟩ := opt2_some e
    exact snd_cons (h _ _ e1) (cL_ok h e2)

theorem asgN_ok (hk : env.scope.kind = .function) (hf : env.frame = some env.locals ∧ env.cells.Pairwise fun x y => x.2 ≠ y.2) {x : Str} {px pos : Pos} {value : Expr} {a : Sm} (h : asgN env.scope x px value = some a) : SndS G n env (.Assign [.Name x px] value pos) (ts G n a) := by
  have so : ScOk env.scope true env := ⟨rfl, fun _ => hf⟩
  have ee : ∀ {e a}, cE 60 env.scope true e = some a → Snd G n env e (tr G n a) := fun q => cE_ok 60 so q
  unfold asgN at h
  split at h
  · unfold asgC at h
    split at h
    · split at h
      · rename_i hg
        obtain ⟨_, rfl⟩ := genE_of hg
        split at h
        · rename_i hm
          simp only [Bool.and_eq_true] at hm
          obtain ⟨e0, h0, rfl⟩ := Option.map_eq_some_iff.mp h
          obtain ⟨f, z, h1, h3, rfl⟩ := opt2_some h0
          obtain ⟨x, y, h4, h5, rfl⟩ := opt2_some h1
          intro B H A ρ σ s Φ Ψ C F S p
          exact asg_comp_ok (by rw [swaps_comp hk, hm.1.1.2]) (compOk_of hm.1.2) hm.2 (isLocB_of hm.1.1.1) F (ee h5) (fun cenv q => cE_ok 60 ⟨q, fun z => by cases z⟩ h4) (fun cenv q => listE_ok (fun e a w => cE_ok 60 ⟨q, fun z => by cases z⟩ w) h3) C S p
        · split at h
          · rename_i hm
            simp only [Bool.and_eq_true] at hm
            obtain ⟨e0, h0, rfl⟩ := Option.map_eq_some_iff.mp h
            have h2 := hm.2
            rw [Bool.not_eq_true'] at h2
            intro B H A ρ σ s Φ Ψ C F S p
            exact snd_asg (by rw [swaps_comp hk, h2]) (isLocB_of hm.1) (ee h0) C F S p
          · cases h
      · cases h
    · cases h
  · split at h
    · rename_i hm
      simp only [Bool.and_eq_true] at hm
      obtain ⟨e0, h0, rfl⟩ := Option.map_eq_some_iff.mp h
      intro B H A ρ σ s Φ Ψ C F S p
      exact snd_asg (swaps_notComp hm.2) (isLocB_of hm.1) (ee h0) C F S p
    · cases h
theorem cS_ok (hk : env.scope.kind = .function) (hf : env.frame = some env.locals ∧ env.cells.Pairwise fun x y => x.2 ≠ y.2) : ∀ (k n : Nat) {s : Stmt} {a : Sm}, cS k env.scope s = some a → SndS G n env s (ts G n a)
  | 0, _, _, _, h => by cases h
  | k + 1, n, s, a, h => by
    have ih : ∀ s a, cS k env.scope s = some a → SndS G n env s (ts G n a) := fun s a q => cS_ok hk hf k n q
    have so : ScOk env.scope true env := ⟨rfl, fun _ => hf⟩
    have ee : ∀ {e a}, cE 60 env.scope true e = some a → Snd G n env e (tr G n a) := fun q => cE_ok 60 so q
    cases s with
    | Assign ts value p =>
      cases ts with
      | nil => cases h
      | cons t r =>
        cases r with
        | cons _ _ => cases h
        | nil =>
          replace h : asgS env.scope value t = some a := h
          cases t with
          | Name x px => exact asgN_ok hk hf h
          | Attribute o x q =>
            obtain ⟨x, y, h1, h2, rfl⟩ := opt2_some (show opt2 (fun a b => Sm.sattr b x a) (cE 60 env.scope true value) (cE 60 env.scope true o) = some a from h)
            exact snd_sattr (ee h1) (ee h2)
          | Subscript o i q =>
            obtain ⟨f, z, h1, h3, rfl⟩ := opt2_some (show opt2 (fun (g : Ex → Sm) c => g c) (opt2 (fun a b c => Sm.sitem b c a) (cE 60 env.scope true value) (cE 60 env.scope true o)) (cE 60 env.scope true i) = some a from h)
            obtain ⟨x, y, h4, h5, rfl⟩ := opt2_some h1
            exact snd_sitem (ee h4) (ee h5) (ee h3)
          | _ => cases h
    | Expr value p =>
      replace h : (if notComp value then (cE 60 env.scope true value).map Sm.expr else none) = some a := h
      split at h
      · rename_i hm
        obtain ⟨e0, h0, rfl⟩ := Option.map_eq_some_iff.mp h
        exact snd_expr hk hm (ee h0)
      · cases h
    | If test t f p =>
      obtain ⟨f, z, h1, h3, rfl⟩ := opt2_some (show opt2 (fun (g : List Sm → Sm) c => g c) (opt2 (fun a b c => Sm.ite a b c) (cE 60 env.scope true test) (cL (cS k env.scope) t)) (cL (cS k env.scope) f) = some a from h)
      obtain ⟨x, y, h4, h5, rfl⟩ := opt2_some h1
      exact snd_ite (ee h4) (cL_ok ih h5) (cL_ok ih h3)
    | For t iter body orelse p =>
      replace h : (if orelse.isEmpty then forS env.scope iter (cL (cS k env.scope) body) t else none) = some a := h
      split at h
      · rename_i ho
        obtain rfl : orelse = [] := List.isEmpty_iff.mp ho
        cases t with
        | Name x px =>
          replace h : (if notSet iter && isLocB env.scope x then opt2 (Sm.for_ x) (cE 60 env.scope true iter) (cL (cS k env.scope) body) else none) = some a := h
          split at h
          · rename_i hm
            simp only [Bool.and_eq_true] at hm
            obtain ⟨x, y, h1, h2, rfl⟩ := opt2_some h
            exact snd_for hm.1 (isLocB_of hm.2) (ee h1) (cL_ok ih h2)
          · cases h
        | _ => cases h
      · cases h
    | While test body orelse p =>
      replace h : (if orelse.isEmpty then opt2 Sm.while_ (cE 60 env.scope true test) (cL (cS k env.scope) body) else none) = some a := h
      split at h
      · rename_i ho
        obtain rfl : orelse = [] := List.isEmpty_iff.mp ho
        obtain ⟨x, y, h1, h2, rfl⟩ := opt2_some h
        exact snd_while (ee h1) (cL_ok ih h2)
      · cases h
    | Return v p =>
      cases v with
      | none => cases h; exact snd_ret0
      | some e =>
        obtain ⟨e0, h0, rfl⟩ := Option.map_eq_some_iff.mp (show (cE 60 env.scope true e).map (fun a => Sm.ret (some a)) = some a from h)
        exact snd_ret (ee h0)
    | Raise e c p =>
      obtain ⟨x, np, m, k', p1, cpos, rfl, rfl, h1, h2, rfl⟩ := raiseS_of (show raiseS env.scope c e = some a from h)
      obtain ⟨o1, o2, o3, o4⟩ := okStr_of h1
      exact snd_raise o1 o4 h2
    | Try body hs orelse final p =>
      replace h : (if orelse.isEmpty && final.isEmpty then tryS env.scope (cL (cS k env.scope)) body hs else none) = some a := h
      split at h
      · rename_i ho
        simp only [Bool.and_eq_true, List.isEmpty_iff] at ho
        obtain ⟨rfl, rfl⟩ := ho
        obtain ⟨x, np, y, b₀, hb, hpos, bd, hd, rfl, h1, h2, h3, h4, h5, h6, rfl⟩ := tryS_of h
        obtain ⟨o1, o2, o3, o4⟩ := okStr_of h1
        exact snd_try (cL_ok ih h5) (cL_ok (fun s a q => cS_ok hk hf k 9 q) h6) o1 o4 h2 h3 h4
      · cases h
    | _ => cases h

/-- a def: its body's term answers for its calls -/
theorem wc_fn {f : Addr} {fd : FuncData} {body : List Stmt} {code : List Sm} {args : List AV} {σ : Sto} {Φ : PE} {Ψ : PY} (D : IsDef G f fd body) (hc : cL (cS 60 fd.scope) body = some code) (hl : args.length = fd.params.args.length)
    (h : tss G n code ((fd.params.args.map (·.arg)).zip args) σ (fun fl _ σ' => Φ fl.val σ') (fun c _ σ' => Ψ c σ')) : WC G (n + 1) (.ref f) args σ Φ Ψ := by
  refine wc_def D hl fun env he B H A s T F A' S => ?_
  have hk : env.scope.kind = .function := by rw [he]; exact D.kind
  rw [← he] at hc
  exact cL_ok (fun s a q => cS_ok hk ⟨F.fr, F.nodup⟩ 60 _ q) hc ⟨T, F.toEnvOk, A'⟩ F S h
end
end Mine
set_option maxRecDepth 100000
namespace Mine
open PySem PyProof.Rows

/-- what a top has left, by its heap -/
noncomputable def topPG (prog : Program) (w : World) (h₁ : Heap) (mg mb : Str → Option Value) (K : List (Addr × Obj)) (hK : W.Frag.In K h₁) (bi : ∀ x : Str, x ≠ "__name__" → mb x = bootBuiltins x) (nob : ∀ x ∈ bnames, mg x = none)
    (hg : h₁.Ns mainGlobals mg) (hb : h₁.Ns builtinsNs mb) (hlim : h₁.NoLimit) : PG where
  prog := prog
  w := w
  T := fun h => h₁.StaysIn h
  mg := mg
  mb := mb
  K := K
  inK := fun t a o e => t a o (hK a o e)
  bi := bi
  nob := nob
  keeps := fun t k b o e => k b o (t b o e)
  hg := fun t => hg.keeps t
  hb := fun t => hb.keeps t
  hlim := fun t => hlim.keeps t

theorem cells_nodup : ∀ (names : List (Str × NameKind)) (n : Nat) (acc : List (Str × Addr)), (names.map (·.1)).Nodup → (acc.map (·.1)).Nodup → (∀ x ∈ acc.map (·.1), x ∉ names.map (·.1)) → ((cellsFrom n names acc).map (·.1)).Nodup
  | [], _, _, _, h, _ => h
  | (y, k) :: r, n, acc, h1, h2, h3 => by
    obtain ⟨g1, g2⟩ := List.nodup_cons.mp h1
    unfold cellsFrom
    split
    · refine cells_nodup r _ _ g2 (List.nodup_cons.mpr ⟨fun z => h3 y z (.head _), h2⟩) fun x hx => ?_
      rcases List.mem_cons.mp hx with rfl | hx
      · exact g1
      · exact fun z => h3 x hx (.tail _ z)
    · exact cells_nodup r _ _ g2 h2 fun x hx z => h3 x hx (.tail _ z)

/-- a plain def by its parameters and scope -/
noncomputable def defOk (params : Arguments) (sc : Scope) : Bool :=
  params.posonlyargs.isEmpty && params.vararg.isNone && params.kwonlyargs.isEmpty && params.kwarg.isNone && decide ((params.args.map (·.arg)).Nodup) && !sc.isCoroutine && !sc.isGenerator && (sc.kind == .function)
    && params.args.all (fun x => isLocB sc x.arg) && sc.names.all (fun y => y.2 != .free) && decide ((sc.names.map (·.1)).Nodup)
theorem isDef_doc {G : PG} {a : Addr} {o : Obj} {name : Str} {params : Arguments} {body : List Stmt} {sc : Scope} {pm code doc : Value} {h₁ : Heap} (hT : ∀ {B : Heap}, G.T B → h₁.StaysIn B)
    (ho : h₁.get? a = some o) (hd : o.data = .func (Calls.docDef name params body sc pm code doc)) (hc : h₁.CodeRec code name) (hok : defOk params sc = true) : IsDef G a (Calls.docDef name params body sc pm code doc) body := by
  unfold defOk at hok
  simp only [Bool.and_eq_true, List.isEmpty_iff, Option.isNone_iff_eq_none, decide_eq_true_eq, Bool.not_eq_true', beq_iff_eq, List.all_eq_true, bne_iff_ne] at hok
  obtain ⟨⟨⟨⟨⟨⟨⟨⟨⟨⟨h1, h2⟩, h3⟩, h4⟩, h5⟩, h6⟩, h7⟩, h8⟩, h9⟩, h10⟩, h11⟩ := hok
  exact { at_ := fun t => ⟨o, hT t _ _ ho, hd⟩, code := fun t => hc.keeps (hT t), body := rfl, params := ⟨h1, h2, h3, h4, h5⟩, dflt := rfl, clo := rfl, glob := rfl, bltn := rfl, co := h6, gen := h7, kind := h8
          pk := fun x hx => isLocB_of (h9 x hx), nofree := fun x e => h10 _ (mem_of_lookup e) rfl, nodup := fun n => cells_nodup _ _ _ h11 List.nodup_nil (fun x hx => nomatch hx) }

theorem relL_ints {H : Hid} {h : Heap} {vs : List Value} {ns : List Int} (x : IntsAre vs ns) : RelL H h (ns.map .int) vs := by
  induction x with
  | nil => exact .nil
  | cons n t _ ih => exact .cons (by simp [Rel]) ih

/-- the law is called from the top -/
theorem top_call {G : PG} {fa l : Addr} {fd : FuncData} {body : List Stmt} {code : List Sm} {s : Shared} {ns : List Int} {x : Str} {items : Array Value} {m : Nat} (hT : G.T s.heap) (D : IsDef G fa fd body) (hc : cL (cS 60 fd.scope) body = some code) (hp : fd.params.args.map (·.arg) = [x])
    (root : ∃ o, s.heap.get? mainGlobals = some o) (hl : s.heap.get? l = some ⟨.type "list", none, .seq items m, #[]⟩) (hi : IntsAre items.toList ns)
    (h : tss G 40 code [(x, .ref l)] (upd (fun _ => none) l (.rlist (ns.map .int))) (fun fl _ _ => fl.val = .bool true) (fun _ _ _ => False)) :
    wpAny G.M callerA (call (.ref fa) [.ref l]) (fun v s' => v = .bool true ∧ s.heap.StaysIn s'.heap ∧ s'.gens = s.gens ∧ s'.os = s.os) (fun _ _ => False) s := by
  have hp1 : fd.params.args.length = 1 := by have := congrArg List.length hp; simpa using this
  obtain ⟨o, ho, hd⟩ := D.at_ hT
  refine wpAny_call (codeAny_call_cells (by decide +kernel) ho hd (G.hlim hT) (D.code hT) D.body (bind_plain D.params D.dflt (by simp [hp1])) D.clo (fun y hy => ?_) (fun s₁ q => ?_) D.co D.gen D.kind)
  · have hx' : y.1 ∈ fd.params.args.map (·.arg) := (List.of_mem_zip (show (y.1, y.2) ∈ _ from hy)).1
    obtain ⟨p, hp, hp'⟩ := List.mem_map.mp hx'
    rw [← hp']
    rcases D.pk p hp with q | q
    · exact .inl q
    · exact .inr ⟨q, cellsFrom_some' _ _ _ (.inl q)⟩
  · have k : ∀ b o, s.heap.get? b = some o → s₁.heap.get? b = some o := q.toInCall.keep
    have lt : ∀ b o, s.heap.get? b = some o → @LT.lt Nat instLTNat b s.heap.objs.size := fun b o e => Heap.lt_size e
    have hL : ∀ c, c ∈ (callEnvC fd s.heap.objs.size fa).cells → s.heap.objs.size < c.2 := fun c hc => q.above c.1 c.2 hc
    have hbig : ∀ a : Addr, s.heap.objs.size ≤ a → s.heap.get? a = none := fun a ha => none_of_not_some fun o e => Nat.lt_irrefl _ (Nat.lt_of_lt_of_le (lt a o e) ha)
    have F : FrameOk s.heap (fun _ => none) (callEnvC fd s.heap.objs.size fa) :=
      { kind := D.kind, glob := D.glob, bltn := D.bltn, loc := ⟨hbig _ (Nat.le_refl _), rfl⟩, apart := fun y hy => Nat.ne_of_gt (hL y hy), own := fun y hy => ⟨hbig _ (Nat.le_of_lt (hL y hy)), rfl⟩, fr := rfl, nodup := q.apart }
    have S : St G s.heap (fun _ => none) (callEnvC fd s.heap.objs.size fa) [(x, .ref l)] (upd (fun _ => none) l (.rlist (ns.map .int))) s₁ := by
      rw [hp] at q
      have nd : (([x].zip [Value.ref l]).map (·.1)).Nodup := by simp
      have r₁ : RelL (fun _ => none) s₁.heap [AV.ref l] [Value.ref l] := .one (by simp [Rel])
      refine ⟨k, fun a o e => (by cases e), ⟨⟨_, q.toInCall.ns, fun y hy _ => ?_⟩, fun y hy => ?_, fun c hc => ⟨_, q.cell c.1 c.2 (lookup_of_mem_nodup' (D.nodup _) hc)⟩⟩, fun a c e => ?_, root, fun a c e w => ?_⟩
      · rw [bindL_lookup _ _ _ y nd hy, Option.or_none]
        exact relO_zip (ns := [x]) y r₁
      · have hc : (callEnvC fd s.heap.objs.size fa).kindOf y = some .cell := hy.elim id fun q => absurd q (D.nofree y)
        have hs := cellsFrom_some' (x := y) fd.scope.names (s.heap.objs.size + 1) [] (.inl hc)
        obtain ⟨c, hc'⟩ := Option.isSome_iff_exists.mp hs
        refine ⟨c, _, hc', q.cell y c hc', ?_⟩
        rw [bindC_lookup _ _ _ y nd (by rw [hc]; decide), Option.or_none]
        exact relO_zip (ns := [x]) y r₁
      · by_cases z : a = l
        · subst z
          rw [upd_same] at e; cases e
          refine ⟨⟨items, m, k _ _ hl, ?_⟩, fun w => (by cases w), rfl, ?_, fun y hy w => ?_⟩
          · exact relL_ints hi
          · exact Nat.ne_of_lt (lt _ _ hl)
          · have h1 := hL y hy
            have h2 := lt _ _ hl
            rw [w] at h1
            exact Nat.lt_irrefl _ (Nat.lt_trans h1 h2)
        · rw [upd_ne z] at e; cases e
      · by_cases z : a = l
        · subst z
          rw [upd_same] at e; cases e; cases w
        · rw [upd_ne z] at e; cases e
    have hA : AOk s.heap (fun _ => none) (callEnvC fd s.heap.objs.size fa) 40 (callerA.deeper (callEnvC fd s.heap.objs.size fa)) := by
      refine ⟨?_, ?_, .inl rfl, callEnvC fd s.heap.objs.size fa, [], Around.frames_deeper rfl, fun e he => (by cases he), fun _ => rfl, fun q => absurd rfl q⟩
      · show callerA.depth + 1 + 4 * 40 ≤ 900
        decide +kernel
      · show callerA.units + 3 + 40 * 40 ≤ 9000
        decide +kernel
    have C : Cx G s.heap (fun _ => none) (callerA.deeper (callEnvC fd s.heap.objs.size fa)) (callEnvC fd s.heap.objs.size fa) 40 := ⟨hT, F.toEnvOk, hA⟩
    refine wpAny_mono (cL_ok (fun s a q => cS_ok D.kind ⟨F.fr, F.nodup⟩ 60 _ q) hc C F S h) (fun f s' q' => ?_) fun e s' q' => ?_
    · obtain ⟨fl, ρ', σ', rf, S', st, p⟩ := q'
      obtain ⟨h', tk, e1⟩ := q.toInCall.same
      refine ⟨?_, S'.keep, st.gens.trans (by rw [e1]), st.os.trans (by rw [e1])⟩
      cases fl with
      | ret a =>
        obtain ⟨v, rfl, ra⟩ := rf
        simp only [Fl.val] at p; subst p
        simpa [Rel] using ra
      | next => simp [Fl.val] at p
      | brk => simp [Fl.val] at p
      | cont => simp [Fl.val] at p
    · obtain ⟨_, _, _, _, _, _, _, _, z⟩ := q'; exact z.elim
end Mine
set_option maxRecDepth 100000
namespace Mine
open PySem PyProof.Rows

variable {G : PG}
section
variable {B : Heap} {H : Hid} {A : Around} {env : Env} {n : Nat} {ρ : Loc} {σ : Sto} {s s₁ : Shared} {Φ : PE} {Ψ : PY}
theorem AOk.under {m : Nat} {c : Code} (x : AOk B H env (m + 1) A) (h1 : c.weight ≤ 4) (h2 : c.cUnits ≤ 40) (h3 : c.envs = []) : AOk B H env m (A.under c) := by
  refine ⟨?_, ?_, ?_, ?_⟩
  · have := x.depth; show A.depth + c.weight + 4 * m ≤ 900; omega
  · have := x.units; show A.units + c.cUnits + 40 * m ≤ 9000; omega
  · rcases x.hand with q | ⟨q, r⟩
    · exact .inl q
    · exact .inr ⟨(by first | decide | (with_reducible first | exact lv hn | exact lv1 hn | exact lv2 hn | exact Int.natCast_nonneg _) | omega), r⟩
  · have : (A.under c).frames = A.frames := by show pushEnvs c.envs A.frames = _; rw [h3]; rfl
    rw [this]; exact x.frames
/-- a class of ours is called: a new object, then its __init__ -/
theorem cc_make {C fI : Addr} {args : List AV} (hm : W.makesIn G.K C = true) (hi : W.findIn G.K (.ref C) "__init__" = some (some (.ref fI))) (hf : W.typeIn G.K (.ref fI) = some (.type "function"))
    (h : ∀ x d : Addr, σ x = none → σ d = none → d ≠ x → CC G n (.ref fI) (.ref x :: args) (upd (upd σ d (.ns [])) x (.inst C d)) (fun v σ' => v = .none ∧ Φ (.ref x) σ') Ψ) : CC G (n + 1) (.ref C) args σ Φ Ψ := by
  intro B H A env ρ s vs fv hT hE hA S r rf
  simp only [Rel] at rf; subst rf
  obtain ⟨hh, g, d, t, os⟩ := s
  have X : W.Frag.In G.K hh := fun a o e => S.keep a o (G.inK hT a o e)
  refine W.make_core (W.makes_of X hm) (W.looks_findIn X hi) (fun self => W.bind_fn X self hf) (.inl rfl) ?_
  have k1 : ∀ b o, hh.get? b = some o → (hh.push W.emptyDict).get? b = some o := fun b o e => Heap.get?_push_of_some _ e
  have S1 : St G B H env ρ (upd σ hh.objs.size (.ns [])) ⟨hh.push W.emptyDict, g, d, t, os⟩ := S.new k1 (Nat.le_refl _) (c := .ns []) ⟨#[], 0, Heap.get?_push_size _ rfl, trivial⟩
  have k2 : ∀ b o, (hh.push W.emptyDict).get? b = some o → ((hh.push W.emptyDict).push (W.instObj C hh.objs.size)).get? b = some o := fun b o e => Heap.get?_push_of_some _ e
  have hsz : (hh.push W.emptyDict).objs.size = hh.objs.size + 1 := Heap.size_push _ _
  have S2 : St G B H env ρ (upd (upd σ hh.objs.size (.ns [])) (hh.objs.size + 1) (.inst C hh.objs.size)) ⟨(hh.push W.emptyDict).push (W.instObj C hh.objs.size), g, d, t, os⟩ :=
    S1.new k2 (by rw [hsz]; exact Nat.le_refl _) (c := .inst C hh.objs.size) (by
      show Heap.get? _ _ = _
      rw [← hsz]
      exact Heap.get?_push_size _ rfl)
  have kk := fun b o e => k2 b o (k1 b o e)
  have st : Step H ⟨hh, g, d, t, os⟩ ⟨(hh.push W.emptyDict).push (W.instObj C hh.objs.size), g, d, t, os⟩ := .keeps kk
  refine codeAny_mono (h (hh.objs.size + 1) hh.objs.size (S.fresh (Nat.le_succ _)) (S.fresh (Nat.le_refl _)) (fun e => absurd (show hh.objs.size = hh.objs.size + 1 from e) (by first | decide | (with_reducible first | exact lv hn | exact lv1 hn | exact lv2 hn | exact Int.natCast_nonneg _) | omega)) B H _ env ρ _ (.ref (hh.objs.size + 1) :: vs) (.ref fI) hT hE (hA.under (Nat.le_trans (Nat.le_of_eq (show (Code.builtin "type.__call__" ⟨.ref C :: vs, []⟩).weight = 1 by kernel_rfl)) (by first | decide | (with_reducible first | exact lv hn | exact lv1 hn | exact lv2 hn | exact Int.natCast_nonneg _) | omega)) (Nat.le_trans (Nat.le_of_eq (show (Code.builtin "type.__call__" ⟨.ref C :: vs, []⟩).cUnits = 1 by kernel_rfl)) (by first | decide | (with_reducible first | exact lv hn | exact lv1 hn | exact lv2 hn | exact Int.natCast_nonneg _) | omega)) rfl) S2 (.cons (by simp [Rel]) (r.grow st.grow)) (by simp [Rel])) fun r s' z => ?_
  rcases r with e | (v | _ | _ | _)
  · exact QX.step st z
  · exact z.elim
  · exact z.elim
  · exact z.elim
  · obtain ⟨a, σ', ra, S', st', rfl, p⟩ := z
    simp only [Rel] at ra
    exact ⟨ra, .ref _, σ', by simp [Rel], S', st.trans st', p⟩
theorem cc_fn {f : Addr} {fd : FuncData} {body : List Stmt} {code : List Sm} {args : List AV} (D : IsDef G f fd body) (hc : cL (cS 60 fd.scope) body = some code) (hl : args.length = fd.params.args.length)
    (h : tss G n code ((fd.params.args.map (·.arg)).zip args) σ (fun fl _ σ' => Φ fl.val σ') (fun c _ σ' => Ψ c σ')) : CC G (n + 1) (.ref f) args σ Φ Ψ := by
  refine cc_def D hl fun env he B H A s T F A' S => ?_
  have hk : env.scope.kind = .function := by rw [he]; exact D.kind
  rw [← he] at hc
  exact cL_ok (fun s a q => cS_ok hk ⟨F.fr, F.nodup⟩ 60 _ q) hc ⟨T, F.toEnvOk, A'⟩ F S h
end
end Mine
set_option maxRecDepth 100000
namespace Mine
open PySem PyProof.Rows

theorem ofString_inj {a b : String} (h : Str.ofString a = Str.ofString b) : a = b := by
  rw [Str.ofString_eq_toList, Str.ofString_eq_toList] at h
  injection h with h
  have h : (a.toList.map Char.toNat) = (b.toList.map Char.toNat) := by simpa using h
  have key : ∀ (l m : List Char), l.map Char.toNat = m.map Char.toNat → l = m := by
    intro l
    induction l with
    | nil => intro m e; cases m with
      | nil => rfl
      | cons c m => simp at e
    | cons c l ih => intro m e; cases m with
      | nil => simp at e
      | cons d m =>
        simp only [List.map_cons, List.cons.injEq] at e
        rw [Char.toNat_inj.mp e.1, ih m e.2]
  exact String.toList_inj.mp (key _ _ h)
theorem strE (a b : String) : (Str.ofString a == Str.ofString b) = (a == b) := by
  by_cases q : a = b
  · subst q; simp
  · have : Str.ofString a ≠ Str.ofString b := fun e => q (ofString_inj e)
    rw [beq_eq_false_iff_ne.mpr this, beq_eq_false_iff_ne.mpr q]
theorem strQ (a b : String) : (Str.ofString a = Str.ofString b) = (a = b) := propext ⟨ofString_inj, fun e => e ▸ rfl⟩

theorem idx_nat {α : Type} {vs : List α} {k : Int} {v : α} (h0 : 0 ≤ k) (h : vs[k.toNat]? = some v) : idx vs k = some v := by
  unfold idx seqIndex?
  have hlt := (List.getElem?_eq_some_iff.mp h).1
  have h1 : ¬ k < 0 := by omega
  have h2 : k < vs.length := by omega
  simp only [h1, if_false, h0, h2, and_self, if_true, Option.bind_some]
  exact h
theorem idx0 {α : Type} (a : α) (r : List α) : idx (a :: r) 0 = some a := idx_nat (by first | decide | (with_reducible first | exact lv hn | exact lv1 hn | exact lv2 hn | exact Int.natCast_nonneg _) | omega) rfl
theorem idx1 {α : Type} (a b : α) (r : List α) : idx (a :: b :: r) 1 = some b := idx_nat (by first | decide | (with_reducible first | exact lv hn | exact lv1 hn | exact lv2 hn | exact Int.natCast_nonneg _) | omega) rfl
theorem idx2 {α : Type} (a b c : α) (r : List α) : idx (a :: b :: c :: r) 2 = some c := idx_nat (by first | decide | (with_reducible first | exact lv hn | exact lv1 hn | exact lv2 hn | exact Int.natCast_nonneg _) | omega) rfl

/-- σ' goes on from σ -/
noncomputable def Ext (σ σ' : Sto) : Prop := ∀ a c, σ a = some c → σ' a = some c
theorem Ext.new {σ : Sto} {a : Addr} {c : Cell} (h : σ a = none) : Ext σ (upd σ a c) := fun b d e => by
  rw [upd_ne]; exact e
  intro q; subst q; rw [h] at e; cases e
theorem Ext.lst {σ σ' : Sto} (x : Ext σ σ') {a : Addr} {vs : List AV} (h : lstOf σ a = some vs) : lstOf σ' a = some vs := by
  unfold lstOf at h ⊢
  split at h
  · rename_i q; rw [x _ _ q]; exact h
  · rename_i q; rw [x _ _ q]; exact h
  · cases h
theorem lst_new (σ : Sto) (a : Addr) (vs : List AV) : lstOf (upd σ a (.list vs)) a = some vs := by unfold lstOf; rw [upd_same]

end Mine
set_option maxRecDepth 100000
namespace Mine
open PySem PyProof.Rows

/-- a def of the row -/
structure Fn1 (G : PG) (name : Str) (params : List Str) (code : List Sm) (f : Addr) : Prop where
  mg : G.mg name = some (.ref f)
  keep : KeepOk G f
  def_ : ∃ fd body, IsDef G f fd body ∧ cL (cS 60 fd.scope) body = some code ∧ fd.params.args.map (·.arg) = params

theorem lk_eq {x : Str} {a : AV} {ρ : Loc} : (putA x a ρ).lookup x = some a := by simp [putA_lookup]
theorem lk_ne {x y : Str} {a : AV} {ρ : Loc} {v : Option AV} (h : y ≠ x) (e : ρ.lookup y = v) : (putA x a ρ).lookup y = v := by rw [putA_lookup, if_neg h]; exact e
section
variable {G : PG} {n : Nat} {σ : Sto} {Φ : PE} {Ψ : PY}
theorem Fn1.wc {name : Str} {params : List Str} {code : List Sm} {f : Addr} {args : List AV} (F : Fn1 G name params code f) (hl : args.length = params.length)
    (h : tss G n code (params.zip args) σ (fun fl _ σ' => Φ fl.val σ') (fun c _ σ' => Ψ c σ')) : WC G (n + 1) (.ref f) args σ Φ Ψ := by
  obtain ⟨fd, body, D, hc, hp⟩ := F.def_
  refine wc_fn D hc ?_ (by rw [hp]; exact h)
  rw [hl, ← hp, List.length_map]
theorem Fn1.call {name : Str} {params : List Str} {code : List Sm} {f : Addr} {es : List Ex} {ρ : Loc} (F : Fn1 G name params code f) (h : seqV (trs G n es) ρ σ (fun as σ₁ => WC G n (.ref f) as σ₁ Φ Ψ) Ψ) : (tr G n (.call name es)).v ρ σ Φ Ψ := by
  exact ⟨f, F.mg, F.keep, h⟩

theorem globB {x : Str} {v : Value} {Φ : AV → Prop} (hx : x ∈ bnames) (hb : bootBuiltins x = some v) : globV G x Φ = Φ (.val v) := by
  unfold globV
  rw [G.nob x hx]
  simp [hb]
theorem glob_int {Φ : AV → Prop} : globV G "int" Φ = Φ (.val (.type "int")) := globB (by decide) (by decide +kernel)
theorem glob_bool {Φ : AV → Prop} : globV G "bool" Φ = Φ (.val (.type "bool")) := globB (by decide) (by decide +kernel)
theorem glob_tuple {Φ : AV → Prop} : globV G "tuple" Φ = Φ (.val (.type "tuple")) := globB (by decide) (by decide +kernel)
theorem glob_str {Φ : AV → Prop} : globV G "str" Φ = Φ (.val (.type "str")) := globB (by decide) (by decide +kernel)
theorem glob_list {Φ : AV → Prop} : globV G "list" Φ = Φ (.val (.type "list")) := globB (by decide) (by decide +kernel)

/-- isinstance by kinds -/
theorem bi_isi {a : AV} {T : String} {t : Value} {b : Bool} (h1 : kindV σ a = some t) (h2 : W.kitOne G.K t (.type T) = some b) (p : Φ (.bool b) σ) (h3 : a.exnK G.K := by trivial) : biV G n "isinstance" [a, .val (.type T)] σ Φ := by
  unfold biV
  rw [if_neg (by rw [strQ]; decide), if_pos rfl]
  exact Exists.intro T (Exists.intro t (Exists.intro b ⟨rfl, h1, h2, h3, p⟩))

end
end Mine
set_option maxRecDepth 100000
namespace Mine
open PySem PyProof.Rows

section
variable {G : PG} {n : Nat} {ρ : Loc} {σ : Sto} {Φ : PE} {Ψ : PY} {ΦB : Bool → Sto → Prop} {ΦI : Src → Sto → Prop} {x y f : Str} {a b c : Ex} {as bs : List Ex} {op o2 : Operator} {co cp : CmpOp} {v : AV}
theorem tv_nm : (tr G n (.nm x)).v ρ σ Φ Ψ = (match ρ.lookup x with | some a => Φ a σ | none => False) := rfl
theorem tv_cst : (tr G n (.cst v)).v ρ σ Φ Ψ = Φ v σ := rfl
theorem tv_bin : (tr G n (.bin op a b)).v ρ σ Φ Ψ = (tr G n a).v ρ σ (fun a σ₁ => (tr G n b).v ρ σ₁ (fun b σ₂ => binV op a b σ₂ Φ) Ψ) Ψ := rfl
theorem tv_cmp : (tr G n (.cmp co a b)).v ρ σ Φ Ψ = (tr G n a).v ρ σ (fun a σ₁ => (tr G n b).v ρ σ₁ (fun b σ₂ => cmpV G co a b σ₂ fun q => Φ (.bool q) σ₂) Ψ) Ψ := rfl
theorem tv_bi : (tr G n (.bi f as)).v ρ σ Φ Ψ = seqV (trs G n as) ρ σ (fun as σ₁ => biV G n f as σ₁ Φ) Ψ := rfl
theorem tv_meth : (tr G n (.meth a x as)).v ρ σ Φ Ψ = (tr G n a).v ρ σ (fun a σ₁ => methV G n a x σ₁ (fun k => seqV (trs G n as) ρ σ₁ k Ψ) Φ Ψ) Ψ := rfl
theorem tv_list : (tr G n (.list as)).v ρ σ Φ Ψ = seqV (trs G n as) ρ σ (fun as σ₁ => newList σ₁ as Φ) Ψ := rfl
theorem tv_comp : (tr G n (.comp a x b as)).v ρ σ Φ Ψ = compV (tr G n a) x (tr G n b) (trs G n as) ρ σ Φ Ψ := rfl
theorem tv_call {fa : Addr} {ps : List Str} {code : List Sm} (F : Fn1 G f ps code fa) : seqV (trs G n as) ρ σ (fun as σ₁ => WC G n (.ref fa) as σ₁ Φ Ψ) Ψ → (tr G n (.call f as)).v ρ σ Φ Ψ := fun h => F.call h
theorem sq_nil {Φ : List AV → Sto → Prop} : seqV (trs G n []) ρ σ Φ Ψ = Φ [] σ := rfl
theorem sq_cons {Φ : List AV → Sto → Prop} : seqV (trs G n (a :: as)) ρ σ Φ Ψ = (tr G n a).v ρ σ (fun v σ₁ => seqV (trs G n as) ρ σ₁ (fun vs σ₂ => Φ (v :: vs) σ₂) Ψ) Ψ := rfl
/-! tests -/
abbrev TestOf (T : Tr) : Prop := ∀ ρ σ Φ Ψ, T.t ρ σ Φ Ψ = T.v ρ σ (fun a σ₁ => ∃ b, truthV σ₁ a = some b ∧ Φ b σ₁) Ψ
theorem tt_nm : (tr G n (.nm x)).t ρ σ ΦB Ψ = (tr G n (.nm x)).v ρ σ (fun a σ₁ => ∃ b, truthV σ₁ a = some b ∧ ΦB b σ₁) Ψ := rfl
theorem tt_cmp : (tr G n (.cmp co a b)).t ρ σ ΦB Ψ = (tr G n a).v ρ σ (fun a σ₁ => (tr G n b).v ρ σ₁ (fun b σ₂ => cmpV G co a b σ₂ fun q => ∃ z, truthV σ₂ (.bool q) = some z ∧ ΦB z σ₂) Ψ) Ψ := rfl
theorem tt_call {fa : Addr} {ps : List Str} {code : List Sm} (F : Fn1 G f ps code fa) : seqV (trs G n as) ρ σ (fun as σ₁ => WC G n (.ref fa) as σ₁ (fun a σ₁ => ∃ b, truthV σ₁ a = some b ∧ ΦB b σ₁) Ψ) Ψ → (tr G n (.call f as)).t ρ σ ΦB Ψ := fun h => by
  exact ⟨fa, F.mg, F.keep, h⟩
theorem any_cons : anyT (trs G n (a :: as)) ρ σ ΦB Ψ = (tr G n a).t ρ σ (fun b σ₁ => if b = true then ΦB true σ₁ else anyT (trs G n as) ρ σ₁ ΦB Ψ) Ψ := rfl
/-! iterations -/
theorem ti_nm {l : Addr} (h : ρ.lookup x = some (.ref l)) (p : ΦI (.lst l) σ) : (tr G n (.nm x)).i ρ σ ΦI Ψ := by
  show (match ρ.lookup x with | some a => _ | none => False)
  rw [h]; exact p
theorem ti_range : (tr G n (.bi "range" as)).i ρ σ ΦI Ψ = seqV (trs G n as) ρ σ (fun as σ₁ => 10 ≤ n ∧ rangeV as fun vs => ΦI (.vals vs) σ₁) Ψ := by
  show biI G n "range" _ ρ σ ΦI Ψ = _
  unfold biI; rw [if_pos rfl]

end
end Mine
set_option maxRecDepth 100000
namespace Mine
open PySem PyProof.Rows

theorem mapO_map {α : Type} {f : AV → Option PyData} (g : α → AV) (e : α → PyData) (l : List α) : (∀ x ∈ l, f (g x) = some (e x)) → mapO f (l.map g) = some (l.map e) := by
  induction l with
  | nil => exact fun _ => rfl
  | cons a r ih =>
    intro h
    show (f (g a)).bind (fun b => (mapO f (r.map g)).map (b :: ·)) = _
    rw [h a (.head _), Option.bind_some, ih fun x hx => h x (.tail _ hx)]; rfl
theorem canAll {α : Type} (e : α → PyData) : ∀ (l : List α), (∀ x ∈ l, (e x).canLay0 = true) → PyData.canLayAll0 (l.map e) = true
  | [], _ => rfl
  | a :: r, h => by
    simp only [List.map_cons, PyData.canLayAll0, h a (.head _), canAll e r fun x hx => h x (.tail _ hx), Bool.and_self]
theorem mapO_depth {f : AV → Option PyData} {k : Nat} (h : ∀ a d, f a = some d → d.depth ≤ k) (l : List AV) : ∀ ds : List PyData, mapO f l = some ds → PyData.depthAll ds ≤ k := by
  induction l with
  | nil => exact fun ds e => by cases e; exact Nat.zero_le _
  | cons a r ih =>
    intro ds e
    obtain ⟨b, bs, h1, h2, rfl⟩ := mapO_cons e
    have := h _ _ h1
    have := ih bs h2
    simp only [PyData.depthAll]; omega
theorem datum_depth {σ : Sto} : ∀ (k : Nat) (a : AV) (d : PyData), datum σ k a = some d → d.depth ≤ k
  | 0, a, d, e => by cases a <;> simp [datum] at e
  | k + 1, a, d, e => by
    have ih := datum_depth (σ := σ) k
    cases a with
    | none => simp [datum] at e; subst e; simp [PyData.depth]
    | bool b => simp [datum] at e; subst e; simp [PyData.depth]
    | int b => simp [datum] at e; subst e; simp [PyData.depth]
    | str b => simp [datum] at e; subst e; simp [PyData.depth]
    | tup vs =>
      simp only [datum, Option.map_eq_some_iff] at e
      obtain ⟨ds, h, rfl⟩ := e
      have := mapO_depth ih vs ds h
      simp only [PyData.depth]; omega
    | ref a =>
      simp only [datum] at e
      split at e
      · simp only [Option.map_eq_some_iff] at e
        obtain ⟨ds, h, rfl⟩ := e
        have := mapO_depth ih _ ds h
        simp only [PyData.depth]; omega
      · cases e
    | val _ => simp [datum] at e
    | exn _ _ => simp [datum] at e
theorem shaped_of {σ : Sto} {a : AV} {d : PyData} (h : datum σ 6 a = some d) (c : d.canLay0 = true) : SeqAt.shaped d = true := by
  have := datum_depth 6 a d h
  unfold SeqAt.shaped
  rw [c, Bool.true_and, decide_eq_true_eq]; omega
/-- a list's datum -/
theorem datum_lst {σ : Sto} {a : Addr} {vs : List AV} {ds : List PyData} {k : Nat} (h : lstOf σ a = some vs) (e : mapO (datum σ k) vs = some ds) : datum σ (k + 1) (.ref a) = some (.list ds) := by
  simp only [datum, h, e, Option.map_some]
/-- two lists of the same items -/
theorem eq_lst {σ : Sto} {a b : Addr} {vs : List AV} {ds : List PyData} {Φ : Bool → Prop} (ha : lstOf σ a = some vs) (hb : lstOf σ b = some vs) (e : mapO (datum σ 5) vs = some ds) (c : PyData.canLayAll0 ds = true) (p : Φ true) : eqV σ (.ref a) (.ref b) Φ := by
  have h1 := datum_lst ha e
  have h2 := datum_lst hb e
  have hc : (PyData.list ds).canLay0 = true := c
  exact eqV_ref ⟨_, _, h1, h2, shaped_of h1 hc, shaped_of h2 hc, by rw [SeqAt.eqv_refl _ hc]; exact p⟩
/-- two things of the same datum -/
theorem eq_same {σ : Sto} {a b : AV} {d : PyData} {Φ : Bool → Prop} (h1 : datum σ 6 a = some d) (h2 : datum σ 6 b = some d) (c : d.canLay0 = true) (p : Φ true) : ∃ da db, datum σ 6 a = some da ∧ datum σ 6 b = some db ∧ SeqAt.shaped da = true ∧ SeqAt.shaped db = true ∧ Φ (PyData.eqv da db) :=
  ⟨d, d, h1, h2, shaped_of h1 c, shaped_of h2 c, by rw [SeqAt.eqv_refl _ c]; exact p⟩
theorem eq_data {σ : Sto} {a b : AV} {d e : PyData} {q : Bool} {Φ : Bool → Prop} (h1 : datum σ 6 a = some d) (h2 : datum σ 6 b = some e) (c : d.canLay0 = true) (c2 : e.canLay0 = true) (z : PyData.eqv d e = q) (p : Φ q) : ∃ da db, datum σ 6 a = some da ∧ datum σ 6 b = some db ∧ SeqAt.shaped da = true ∧ SeqAt.shaped db = true ∧ Φ (PyData.eqv da db) :=
  ⟨d, e, h1, h2, shaped_of h1 c, shaped_of h2 c2, by rw [z]; exact p⟩
theorem eq_refs {σ : Sto} {a b : Addr} {d e : PyData} {q : Bool} {Φ : Bool → Prop} (h1 : datum σ 6 (.ref a) = some d) (h2 : datum σ 6 (.ref b) = some e) (c : d.canLay0 = true) (c2 : e.canLay0 = true) (z : PyData.eqv d e = q) (p : Φ q) : eqV σ (.ref a) (.ref b) Φ := by
  exact eqV_ref (eq_data h1 h2 c c2 z p)
end Mine
set_option maxRecDepth 100000
namespace Mine
open PySem PyProof.Rows

/-- what stands behind a statement in its block -/
noncomputable def aft (G : PG) (n : Nat) (r : List Sm) (Φ : PS) (Ψ : PX) : PS := fun fl ρ σ => match fl with
  | .next => tss G n r ρ σ Φ Ψ
  | .brk => Φ .brk ρ σ
  | .cont => Φ .cont ρ σ
  | .ret a => Φ (.ret a) ρ σ
section
variable {G : PG} {n : Nat} {ρ : Loc} {σ : Sto} {Φ : PS} {Ψ : PX} {x : Str} {e o i c it : Ex} {r t f body : List Sm} {xs : List Str} {a : AV}
theorem bl_asg : tss G n (.asg x e :: r) ρ σ Φ Ψ = (tr G n e).v ρ σ (fun a σ₁ => tss G n r (putA x a ρ) σ₁ Φ Ψ) (fun c σ₁ => Ψ c ρ σ₁) := rfl
theorem bl_expr : tss G n (.expr e :: r) ρ σ Φ Ψ = (tr G n e).v ρ σ (fun _ σ₁ => tss G n r ρ σ₁ Φ Ψ) (fun c σ₁ => Ψ c ρ σ₁) := rfl
theorem bl_sattr : tss G n (.sattr o x e :: r) ρ σ Φ Ψ = (tr G n e).v ρ σ (fun a σ₁ => (tr G n o).v ρ σ₁ (fun b σ₂ => sattrV G b x a σ₂ fun σ₃ => tss G n r ρ σ₃ Φ Ψ) (fun c σ₁ => Ψ c ρ σ₁)) (fun c σ₁ => Ψ c ρ σ₁) := rfl
theorem bl_sitem : tss G n (.sitem o i e :: r) ρ σ Φ Ψ = (tr G n e).v ρ σ (fun a σ₁ => (tr G n o).v ρ σ₁ (fun b σ₂ => (tr G n i).v ρ σ₂ (fun k σ₃ => sitemV b k a σ₃ fun σ₄ => tss G n r ρ σ₄ Φ Ψ) (fun c σ₁ => Ψ c ρ σ₁)) (fun c σ₁ => Ψ c ρ σ₁)) (fun c σ₁ => Ψ c ρ σ₁) := rfl
theorem bl_ret : tss G n (.ret (some e) :: r) ρ σ Φ Ψ = (tr G n e).v ρ σ (fun a σ₁ => Φ (.ret a) ρ σ₁) (fun c σ₁ => Ψ c ρ σ₁) := rfl
theorem bl_ite : tss G n (.ite c t f :: r) ρ σ Φ Ψ = (tr G n c).t ρ σ (fun b σ₁ => if b = true then tss G n t ρ σ₁ (aft G n r Φ Ψ) Ψ else tss G n f ρ σ₁ (aft G n r Φ Ψ) Ψ) (fun c σ₁ => Ψ c ρ σ₁) := rfl
theorem bl_for : tss G n (.for_ x it body :: r) ρ σ Φ Ψ = (tr G n it).i ρ σ (fun src σ₁ => src.pair = false ∧ loopV src (bind1 x) (tss G n body) ρ σ₁ (aft G n r Φ Ψ) Ψ) (fun c σ₁ => Ψ c ρ σ₁) := rfl
abbrev Rz (P : Prop) : Prop := P
theorem Rz.to {P Q : Prop} (h : Rz P) (f : P → Q) : Rz Q := f h
theorem do_raise {m : Str} {C : Addr} (h1 : G.mg x = some (.ref C)) (h2 : 10 ≤ n) (h3 : ExcOk G x C) (h : Rz (Ψ (.ref C) ρ σ)) : tss G n (.raise x m :: r) ρ σ Φ Ψ := ⟨C, h1, h2, h3, h⟩
theorem bl_try {y : Str} {bd hd : List Sm} : tss G n (.try_ bd x y hd :: r) ρ σ Φ Ψ = (10 ≤ n ∧ tss G n bd ρ σ (aft G n r Φ Ψ) (fun c ρ₁ σ₁ => ∃ C, G.mg x = some (.ref C) ∧ W.exmOne G.K c (.ref C) = some true ∧
      ∀ e, tss G 9 hd (putA y (.exn e c) ρ₁) σ₁ (fun fl ρ₂ σ₂ => ∀ ρ₃ : Loc, (∀ z, z ≠ y → ρ₃.lookup z = ρ₂.lookup z) → aft G n r Φ Ψ fl ρ₃ σ₂) (fun _ _ _ => False))) := rfl
theorem bl_while : tss G n (.while_ c body :: r) ρ σ Φ Ψ = whileV (tr G n c) (tss G n body) ρ σ (aft G n r Φ Ψ) Ψ := rfl
end
section
variable {G : PG} {n : Nat} {ρ : Loc} {σ : Sto} {Φ : PE} {Ψ : PY} {ΦB : Bool → Sto → Prop} {ΦP : Bool → Prop} {i j : Int} {p q : Bool} {s t : Str} {vs us : List AV} {l r : Addr}
theorem bn_add : binV .Add (.int i) (.int j) σ Φ = Φ (.int (i + j)) σ := rfl
theorem bn_mulS {k : Int} (h0 : 0 ≤ k) (h1 : k ≤ 100) (h2 : s.length ≤ 100) (p : Φ (.str (Txt.mul s k)) σ) : binV .Mult (.str s) (.int k) σ Φ := Or.inr ⟨s, k, rfl, rfl, h0, h1, h2, p⟩
theorem bn_mul (p : i.natAbs < 2 ^ 63 ∧ Φ (.int (i * j)) σ) : binV .Mult (.int i) (.int j) σ Φ := Or.inl p
theorem bn_lst (h : lstOf σ l = some vs) (g : lstOf σ r = some us) : binV .Add (.ref l) (.ref r) σ Φ = newList σ (vs ++ us) Φ := by
  simp only [binV, addV, h, g]
theorem cm_lt : cmpV G .Lt (.int i) (.int j) σ ΦP = ΦP (decide (i < j)) := rfl
theorem cm_le : cmpV G .LtE (.int i) (.int j) σ ΦP = ΦP (decide (i ≤ j)) := rfl
theorem cm_eqi : cmpV G .Eq (.int i) (.int j) σ ΦP = ΦP (i == j) := rfl
theorem cm_ne {a b : AV} : cmpV G .NotEq a b σ ΦP = eqV σ a b fun r => ΦP (!r) := rfl
theorem cm_eq {a b : AV} : cmpV G .Eq a b σ ΦP = eqV σ a b ΦP := rfl
theorem cm_nei : cmpV G .NotEq (.int i) (.int j) σ ΦP = ΦP (!(i == j)) := rfl
theorem cm_eqs : cmpV G .Eq (.str s) (.str t) σ ΦP = ΦP (s == t) := rfl
theorem cm_nes : cmpV G .NotEq (.str s) (.str t) σ ΦP = ΦP (!(s == t)) := rfl
theorem sb_tup {v : AV} (h0 : -(2 ^ 62) ≤ i) (h1 : i < 2 ^ 62) (h : idx vs i = some v) (g : Φ v σ) : subV (.tup vs) (.int i) σ Φ := ⟨v, h0, h1, h, g⟩
theorem sb_lst {v : AV} (hl : lstOf σ l = some vs) (h0 : -(2 ^ 62) ≤ i) (h1 : i < 2 ^ 62) (h : idx vs i = some v) (g : Φ v σ) : subV (.ref l) (.int i) σ Φ := by
  simp only [subV, hl]; exact ⟨v, h0, h1, h, g⟩
/-- a choice out of a display: whatever is chosen -/
theorem sb_any {P : AV → Prop} (hl : lstOf σ l = some vs) (h0 : 0 ≤ i) (h1 : i < vs.length) (h2 : vs.length ≤ 1000) (hp : ∀ v ∈ vs, P v) (g : ∀ v, P v → Φ v σ) : subV (.ref l) (.int i) σ Φ := by
  have hl' : i.toNat < vs.length := by omega
  exact sb_lst hl (by first | decide | (with_reducible first | exact lv hn | exact lv1 hn | exact lv2 hn | exact Int.natCast_nonneg _) | omega) (by first | decide | (with_reducible first | exact lv hn | exact lv1 hn | exact lv2 hn | exact Int.natCast_nonneg _) | omega) (idx_nat h0 (List.getElem?_eq_getElem hl')) (g _ (hp _ (List.getElem_mem hl')))
theorem new_lst (hz : vs.length ≤ sizeLine) (g : ∀ a, σ a = none → Ext σ (upd σ a (.list vs)) → Φ (.ref a) (upd σ a (.list vs))) : newList σ vs Φ := ⟨hz, fun a ha => g a ha (Ext.new ha)⟩
/-- a comprehension over values -/
noncomputable def CompOk (G : PG) (n : Nat) (a : Ex) (x : Str) (as : List Ex) (ρ : Loc) (vs : List AV) (σ : Sto) (Φ : PE) : Prop :=
  (Src.vals vs).pair = false ∧ ∃ ws, (Src.vals vs).items σ = some ws ∧ ∃ I : List AV → List AV → Sto → Prop, I ws [] σ ∧ (∀ rest acc σ₂, I rest acc σ₂ → (Src.vals vs).items σ₂ = some ws) ∧
      (∀ v rest acc σ₂, I (v :: rest) acc σ₂ → acc.length < sizeLine ∧ allT (trs G n as) (putA x v ρ) σ₂ (fun b σ₃ => if b = true then (tr G n a).v (putA x v ρ) σ₃ (fun a σ₄ => I rest (acc ++ [a]) σ₄) (fun _ _ => False) else I rest acc σ₃) (fun _ _ => False)) ∧
      (∀ acc σ₂, I [] acc σ₂ → ∀ a, σ₂ a = none → Φ (.ref a) (upd σ₂ a (.list acc)))
theorem tv_compR {a : Ex} {x : Str} {as es : List Ex} : (tr G n (.comp a x (.bi "range" es) as)).v ρ σ Φ Ψ = seqV (trs G n es) ρ σ (fun us σ₁ => 10 ≤ n ∧ rangeV us fun vs => CompOk G n a x as ρ vs σ₁ Φ) Ψ := by
  rw [tv_comp]
  unfold compV
  rw [ti_range]
  rfl
theorem fmod_in (c : Int) {m : Int} (hm : 0 < m) : 0 ≤ Int.fmod c m ∧ Int.fmod c m < m := ⟨Int.fmod_nonneg_of_pos c hm, Int.fmod_lt_of_pos c hm⟩
theorem app_lst {x : Addr} {ev : (List AV → Sto → Prop) → Prop} (h : σ x = some (.list vs)) (k : ev (fun as σ₁ => match σ₁ x with | some (.list vs) => listM "append" x vs as σ₁ Φ | _ => False)) : methV G n (.ref x) "append" σ ev Φ Ψ := by
  unfold methV
  simp only [h]
  exact ⟨by simp, k⟩
theorem lm_app {x : Addr} {a : AV} (hz : vs.length < sizeLine) (g : Φ .none (upd σ x (.list (vs ++ [a])))) : listM "append" x vs [a] σ Φ := by
  unfold listM
  rw [if_pos rfl]
  exact ⟨hz, g⟩
end
end Mine
set_option maxRecDepth 100000
namespace Mine
open PySem PyProof.Rows

/-- a def of the row by the top -/
theorem fn1_top {p : Program} {loose : List Str} {mean : ExcName → Option Value} {mg mb : Str → Option Value} {h₁ : Heap} {G : PG} (T : Top p loose mean mg mb h₁) (hmg : G.mg = mg) (hT : ∀ {B : Heap}, G.T B → h₁.StaysIn B)
    (name : Str) (params : List Str) (code : List Sm)
    (hd : ((recsOf p).find? fun d => d.name == name).map (fun d => (defOk d.params d.scope, cL (cS 60 d.scope) d.body, d.params.args.map (·.arg))) = some (true, some code, params)) : ∃ f, Fn1 G name params code f := by
  obtain ⟨d, hf, he⟩ := Option.map_eq_some_iff.mp hd
  have hm := List.mem_of_find?_eq_some hf
  have hn : d.name = name := by simpa using List.find?_some hf
  simp only [Prod.mk.injEq] at he
  obtain ⟨h1, h2, h3⟩ := he
  obtain ⟨a, o, pm, cd, doc, g1, g2, g3, g4⟩ := T.fn d hm
  exact ⟨a, by rw [hmg, ← hn]; exact g1, .inr fun B t => ⟨o, _, hT t _ _ g2, g3⟩, _, _, isDef_doc hT g2 g3 g4 h1, h2, h3⟩
/-- the code of a def, by its name -/
noncomputable def DefIs (p : Program) (name : Str) (params : List Str) (code : List Sm) : Prop :=
  ((recsOf p).find? fun d => d.name == name).map (fun d => (defOk d.params d.scope, cL (cS 60 d.scope) d.body, d.params.args.map (·.arg))) = some (true, some code, params)
/-- the law is called from the top, and it is true -/
theorem top_law {p : Program} {loose : List Str} {mean : ExcName → Option Value} {mg mb : Str → Option Value} {G : PG} {s : Shared} {fa l : Addr} {ns : List Int} {vs : List Value} {x : Str} {code : List Sm}
    (T : Top p loose mean mg mb s.heap) (hmg : G.mg = mg) (hT : ∀ {B : Heap}, G.T B → s.heap.StaysIn B) (hT0 : G.T s.heap) (hd : DefIs p "law" [x] code) (hfa : mg "law" = some (.ref fa))
    (root : ∃ o, s.heap.get? mainGlobals = some o) (hl : s.heap.get? l = some { cls := .type "list", data := .seq vs.toArray }) (hi : IntsAre vs ns)
    (h : tss G 40 code [(x, .ref l)] (upd (fun _ => none) l (.rlist (ns.map .int))) (fun fl _ _ => fl.val = .bool true) (fun _ _ _ => False)) :
    wpAny G.M callerA (call (.ref fa) [.ref l]) (fun v s' => v = .bool true ∧ s.heap.StaysIn s'.heap ∧ s'.gens = s.gens ∧ s'.os = s.os) (fun _ _ => False) s := by
  obtain ⟨f, F⟩ := fn1_top T hmg hT _ _ _ hd
  have e : f = fa := by
    have := F.mg
    rw [hmg, hfa] at this
    cases this; rfl
  subst e
  obtain ⟨fd, body, D, hc, hp⟩ := F.def_
  exact top_call hT0 D hc hp root hl (by simpa using hi) h
noncomputable def noB (p : Program) (loose : List Str) : Bool := bnames.all fun x => !startupNames.contains x && !loose.contains x && !((recsOf p).map (·.name)).contains x && !((litsOf p).map (·.1)).contains x && !((clssOf p loose).map (·.name)).contains x
theorem nob_of {p : Program} {loose : List Str} {mean : ExcName → Option Value} {mg mb : Str → Option Value} {h : Heap} (T : Top p loose mean mg mb h) (e : noB p loose = true) : ∀ x ∈ bnames, mg x = none := by
  intro x hx
  have := List.all_eq_true.mp e x hx
  simp only [Bool.and_eq_true, Bool.not_eq_true', List.contains_eq_mem, decide_eq_false_iff_not] at this
  exact T.free x this.1.1.1.1 this.1.1.1.2 this.1.1.2 this.1.2 this.2
/-- the fixed part of a row -/
noncomputable def topG {p : Program} {loose : List Str} {mean : ExcName → Option Value} {mg mb : Str → Option Value} {h : Heap} (T : Top p loose mean mg mb h) (prog : Program) (w : World) (K : List (Addr × Obj)) (hK : W.Frag.In K h) (e : noB p loose = true) : PG :=
  topPG prog w h mg mb K hK T.builtins (nob_of T e) T.g T.b T.nolimit
theorem law_end {p : Program} {loose : List Str} {mean mean' : ExcName → Option Value} {mg mb : Str → Option Value} {s : Shared} (T : Top p loose mean mg mb s.heap) {prog : Program} {w : World} {K : List (Addr × Obj)} {hK : W.Frag.In K s.heap} {e : noB p loose = true} {fa l : Addr} {ns : List Int} {vs : List Value} {x : Str} {code : List Sm}
    {c : W.ClaimW} {cl : Str → Option Addr} {args : List W.WData} (hg : s.gens = #[]) (hr : ∀ cls, c.raises args cls = false) (hp : c.post args (.bool true) args = true)
    (hd : DefIs p "law" [x] code) (hfa : mg "law" = some (.ref fa)) (hl : s.heap.IsList l vs.toArray) (hw : W.Well w.params s.heap (.ref l) (W.ofPy (.list (ns.map .int)))) (hi : IntsAre vs ns)
    (h : tss (topG T prog w K hK e) 40 code [(x, .ref l)] (upd (fun _ => none) l (.rlist (ns.map .int))) (fun fl _ _ => fl.val = .bool true) (fun _ _ _ => False)) :
    wpAny (model prog w) callerA (call (.ref fa) [.ref l]) (fun v s' => W.GoodWG c cl mean' args s (.ok (.ret v)) s') (fun e s' => W.GoodWG c cl mean' args s (.error e) s') s := by
  cases hw with
  | list ho _ =>
    rename_i us _
    have e : us = vs := by
      obtain ⟨o, h1, h2, n, h3⟩ := hl
      rw [ho] at h1
      cases h1
      simp at h3
      exact h3.1
    subst e
    refine wpAny_mono (top_law (G := topG T prog w K hK e) T rfl (fun t => t) (fun _ _ q => q) hd hfa (let ⟨o, _, _, q, _⟩ := T.g; ⟨o, q⟩) ho hi h) ?_ fun _ _ z => z.elim
    rintro v s' ⟨rfl, k, g, o⟩
    exact W.GoodW.toG ⟨.inl ⟨_, _, [], rfl, hr, W.ReadsW.bool true, hp, fun _ => ⟨List.nodup_nil, fun _ hm => (nomatch hm)⟩⟩, k, o, g.trans hg⟩
theorem const_int {p : Program} {loose : List Str} {mean : ExcName → Option Value} {mg mb : Str → Option Value} {h : Heap} (T : Top p loose mean mg mb h) {x : Str} {i : Int} (e : valOf p x = some (.int i)) : ∃ t, mg x = some (.int i t) := by
  obtain ⟨v, e, r⟩ := T.const x _ e
  have := r h
  cases this
  exact ⟨_, e⟩
end Mine
set_option maxRecDepth 100000
set_option linter.unusedSimpArgs false
set_option linter.unusedVariables false
namespace Mine
open PySem PyProof.Rows

section
variable {G : PG} {n : Nat} {ρ : Loc} {σ : Sto} {Φ : PE} {Ψ : PY} {ΦI : Src → Sto → Prop} {ΦP : Bool → Prop} {x y : Str} {i : Int}
theorem bi_list {l : Addr} {vs : List AV} (h : lstOf σ l = some vs) (hz : vs.length ≤ sizeLine) (p : ∀ a, σ a = none → Ext σ (upd σ a (.list vs)) → Φ (.ref a) (upd σ a (.list vs))) : biV G n "list" [.ref l] σ Φ := by
  unfold biV
  rw [if_neg (by rw [strQ]; decide), if_neg (by rw [strQ]; decide), if_pos rfl]
  exact onLst_mk h ⟨hz, fun a ha => p a ha (Ext.new ha)⟩
theorem bi_len {l : Addr} {vs : List AV} (h : lstOf σ l = some vs) (hz : vs.length < 2 ^ 62) (p : Φ (.int vs.length) σ) : biV G n "len" [.ref l] σ Φ := by
  unfold biV
  rw [if_pos rfl]
  exact onLst_mk h ⟨hz, p⟩
theorem bi_lenT {vs : List AV} (hz : vs.length < 2 ^ 62) (p : Φ (.int vs.length) σ) : biV G n "len" [.tup vs] σ Φ := by
  unfold biV
  rw [if_pos rfl]
  exact And.intro hz p
theorem bi_max2 {j : Int} (hn : 10 ≤ n) (p : Φ (.int (max i j)) σ) : biV G n "max" [.int i, .int j] σ Φ := by
  unfold biV
  rw [if_neg (by rw [strQ]; decide), if_neg (by rw [strQ]; decide), if_neg (by rw [strQ]; decide), if_pos rfl]
  exact Or.inr (And.intro hn p)
theorem bi_maxT {l : Addr} {p : Int × Int} {ps : List (Int × Int)} (hn : 10 ≤ n) (h : lstOf σ l = some ((p :: ps).map fun p => .tup [.int p.1, .int p.2])) (k : Φ (.tup [.int (ps.foldl step1 p).1, .int (ps.foldl step1 p).2]) σ) : biV G n "max" [.ref l] σ Φ := by
  unfold biV
  rw [if_neg (by rw [strQ]; decide), if_neg (by rw [strQ]; decide), if_neg (by rw [strQ]; decide), if_pos rfl]
  exact Or.inl (Or.inr (onLst_mk h ⟨hn, p, ps, rfl, k⟩))
theorem bi_min2 {j : Int} (hn : 10 ≤ n) (p : Φ (.int (min i j)) σ) : biV G n "min" [.int i, .int j] σ Φ := by
  unfold biV
  rw [if_neg (by rw [strQ]; decide), if_neg (by rw [strQ]; decide), if_neg (by rw [strQ]; decide), if_neg (by rw [strQ]; decide), if_pos rfl]
  exact And.intro hn p
theorem bi_intB {b : Bool} (p : Φ (.int (if b then 1 else 0)) σ) : biV G n "int" [.bool b] σ Φ := by
  unfold biV
  rw [if_neg (by rw [strQ]; decide), if_neg (by rw [strQ]; decide), if_neg (by rw [strQ]; decide), if_neg (by rw [strQ]; decide), if_neg (by rw [strQ]; decide), if_neg (by rw [strQ]; decide), if_pos rfl]
  exact p
theorem bi_str (h : i.natAbs.log2 < 1920) (p : Φ (.str (Str.ofString (toString i))) σ) : biV G n "str" [.int i] σ Φ := by
  unfold biV
  rw [if_neg (by rw [strQ]; decide), if_neg (by rw [strQ]; decide), if_neg (by rw [strQ]; decide), if_neg (by rw [strQ]; decide), if_neg (by rw [strQ]; decide), if_neg (by rw [strQ]; decide), if_neg (by rw [strQ]; decide), if_pos rfl]
  exact Exists.intro i (And.intro rfl (And.intro h p))
theorem sb_str (h0 : 0 ≤ i) (h1 : i < x.length) (h2 : i < 2 ^ 62) (p : Φ (.str (Txt.item x i)) σ) : subV (.str x) (.int i) σ Φ := ⟨h0, h1, h2, p⟩
theorem cm_isnone {a : AV} (h : a.novalue = true) : cmpV G .Is a .none σ ΦP = ΦP a.isNone := by
  show (a.novalue = true ∧ ΦP a.isNone) = _
  rw [h]; simp
theorem cm_isnotnone {a : AV} (h : a.novalue = true) : cmpV G .IsNot a .none σ ΦP = ΦP (!a.isNone) := by
  show (a.novalue = true ∧ ΦP (!a.isNone)) = _
  rw [h]; simp
theorem glob_val {z : Str} {v : Value} {ΦA : AV → Prop} (h : G.mg z = some v) : globV G z ΦA = ΦA (avOf v) := by unfold globV; rw [h]
end

theorem range_in {a b c : Int} {v : AV} (hc : 0 < c) (h : v ∈ rangeL a b c) : ∃ i : Int, v = .int i ∧ a ≤ i ∧ i < b := by
  unfold rangeL at h
  obtain ⟨i, hi, rfl⟩ := List.mem_map.mp h
  have hi := List.mem_range.mp hi
  refine ⟨_, rfl, ?_, ?_⟩
  · have : (0 : Int) ≤ (i : Int) * c := Int.mul_nonneg (by first | decide | (with_reducible first | exact lv hn | exact lv1 hn | exact lv2 hn | exact Int.natCast_nonneg _) | omega) (by first | decide | (with_reducible first | exact lv hn | exact lv1 hn | exact lv2 hn | exact Int.natCast_nonneg _) | omega)
    omega
  · unfold Builtin.Range.rangeSize at hi
    rw [if_pos hc] at hi
    split at hi
    · have h1 : (i : Int) ≤ (b - a - 1) / c := by omega
      have h2 : (i : Int) * c ≤ (b - a - 1) / c * c := Int.mul_le_mul_of_nonneg_right h1 (by first | decide | (with_reducible first | exact lv hn | exact lv1 hn | exact lv2 hn | exact Int.natCast_nonneg _) | omega)
      have h3 : (b - a - 1) / c * c ≤ b - a - 1 := Int.ediv_mul_le _ (by first | decide | (with_reducible first | exact lv hn | exact lv1 hn | exact lv2 hn | exact Int.natCast_nonneg _) | omega)
      omega
    · simp at hi
theorem range_len {a b c : Int} : (rangeL a b c).length = (Builtin.Range.rangeSize a b c).toNat := by simp [rangeL]
end Mine
set_option maxRecDepth 100000
set_option linter.unusedSimpArgs false
set_option linter.unusedVariables false
namespace Mine
open PySem PyProof.Rows

/-- a method of a class of ours -/
structure Mt (G : PG) (C : Addr) (m : Str) (params : List Str) (code : List Sm) (f : Addr) : Prop where
  get : W.plainGet G.K C m = true
  find : W.findIn G.K (.ref C) m = some (some (.ref f))
  fn : W.isFn G.K (.ref f) = true
  keep : W.keepIn G.K (.ref f) = true
  def_ : ∃ fd body, IsDef G f fd body ∧ cL (cS 60 fd.scope) body = some code ∧ fd.params.args.map (·.arg) = params
/-- a class of ours: its attributes are the instance's own -/
structure Cls (G : PG) (C : Addr) (as : List Str) : Prop where
  pg : W.plainGet G.K C "" = true
  hd : W.hasDictIn G.K C = true
  no : ∀ a ∈ as, W.findIn G.K (.ref C) a = some none
  sa : W.findIn G.K (.ref C) "__setattr__" = some (some (.builtin "object.__setattr__"))
  po : W.plainOver G.K C = true
/-- a class by its name, and its __init__ -/
structure Mk (G : PG) (name : Str) (C : Addr) (params : List Str) (code : List Sm) : Prop where
  mg : G.mg name = some (.ref C)
  keep : W.keepIn G.K (.ref C) = true
  makes : W.makesIn G.K C = true
  init : ∃ f, W.findIn G.K (.ref C) "__init__" = some (some (.ref f)) ∧ W.typeIn G.K (.ref f) = some (.type "function") ∧ ∃ fd body, IsDef G f fd body ∧ cL (cS 60 fd.scope) body = some code ∧ fd.params.args.map (·.arg) = params

section
variable {G : PG} {n : Nat} {ρ : Loc} {σ : Sto} {Φ : PE} {Ψ : PY} {C x d f : Addr} {m : Str} {ps : List Str} {code : List Sm} {as : List Str} {l : List (Str × AV)} {a : Str} {v : AV}
theorem Mt.wc {args : List AV} (F : Mt G C m ps code f) (hl : args.length = ps.length)
    (h : tss G n code (ps.zip args) σ (fun fl _ σ' => Φ fl.val σ') (fun c _ σ' => Ψ c σ')) : WC G (n + 1) (.ref f) args σ Φ Ψ := by
  obtain ⟨fd, body, D, hc, hp⟩ := F.def_
  refine wc_fn D hc ?_ (by rw [hp]; exact h)
  rw [hl, ← hp, List.length_map]
theorem mt_call {ev : (List AV → Sto → Prop) → Prop} (M : Mt G C m ps code f) (hx : σ x = some (.inst C d)) (hd : σ d = some (.ns l)) (hl : l.lookup m = none) (k : ev (fun as σ₁ => WC G n (.ref f) (.ref x :: as) σ₁ Φ Ψ)) : methV G n (.ref x) m σ ev Φ Ψ := by
  unfold methV
  simp only [hx, hd]
  exact ⟨f, hl, M.get, M.find, M.fn, M.keep, k⟩
theorem Mk.wc {name : Str} {args : List AV} (F : Mk G name C ps code) (hl : args.length + 1 = ps.length)
    (h : ∀ x d : Addr, σ x = none → σ d = none → d ≠ x → tss G n code (ps.zip (.ref x :: args)) (upd (upd σ d (.ns [])) x (.inst C d)) (fun fl _ σ' => fl.val = .none ∧ Φ (.ref x) σ') (fun c _ σ' => Ψ c σ')) : WC G (n + 2) (.ref C) args σ Φ Ψ := by
  obtain ⟨f, hi, hf, fd, body, D, hc, hp⟩ := F.init
  refine (cc_make F.makes hi hf fun x d hx hd hne => cc_fn D hc ?_ (by rw [hp]; exact h x d hx hd hne)).wc
  rw [List.length_cons, hl, ← hp, List.length_map]
theorem mk_call {name : Str} {es : List Ex} (F : Mk G name C ps code) (h : seqV (trs G n es) ρ σ (fun as σ₁ => WC G n (.ref C) as σ₁ Φ Ψ) Ψ) : (tr G n (.call name es)).v ρ σ Φ Ψ := ⟨C, F.mg, .inl F.keep, h⟩
theorem at_get (A : Cls G C as) (hx : σ x = some (.inst C d)) (hd : σ d = some (.ns l)) (ha : a ∈ as) (hl : l.lookup a = some v) (hv : v.novalue = true) (p : Φ v σ) : attrV G (.ref x) a σ Φ := by
  unfold attrV
  simp only [hx, hd]
  exact ⟨v, hl, hv, ⟨A.pg, A.hd, A.no a ha⟩, p⟩
theorem at_set {Φ : Sto → Prop} (A : Cls G C as) (hx : σ x = some (.inst C d)) (hd : σ d = some (.ns l)) (ha : a ∈ as) (hz : l.length < 1000) (p : Φ (upd σ d (.ns (putA a v l)))) : sattrV G (.ref x) a v σ Φ := by
  unfold sattrV
  simp only [hx, hd]
  exact ⟨hz, A.sa, A.po, by unfold W.takerIn; rw [A.no a ha]; rfl, A.hd, p⟩
theorem si_list {vs : List AV} {k : Int} {Φ : Sto → Prop} (hx : σ x = some (.list vs)) (h0 : 0 ≤ k) (h1 : k < vs.length) (h2 : k < 2 ^ 62) (p : Φ (upd σ x (.list (vs.set k.toNat v)))) : sitemV (.ref x) (.int k) v σ Φ := by
  unfold sitemV
  simp only [hx]
  exact ⟨h0, h1, h2, p⟩
theorem si_dictI {kvs : List (Int × AV)} {k : Int} {Φ : Sto → Prop} (hx : σ x = some (.dictI kvs)) (hz : kvs.length < sizeLine) (p : Φ (upd σ x (.dictI (putI k v kvs)))) : sitemV (.ref x) (.int k) v σ Φ := by
  unfold sitemV
  simp only [hx]
  exact ⟨hz, p⟩
theorem si_dictS {kvs : List (Str × AV)} {k : Str} {Φ : Sto → Prop} (hx : σ x = some (.dictS kvs)) (hz : kvs.length < sizeLine) (p : Φ (upd σ x (.dictS (putI k v kvs)))) : sitemV (.ref x) (.str k) v σ Φ := by
  unfold sitemV
  simp only [hx]
  exact ⟨hz, p⟩
theorem in_dictI {kvs : List (Int × AV)} {k : Int} {ΦP : Bool → Prop} (hx : σ x = some (.dictI kvs)) (p : ΦP (kvs.any fun kv => kv.1 == k)) : inV G σ (.int k) (.ref x) ΦP := by
  have : lstOf σ x = none := by unfold lstOf; rw [hx]
  simp only [inV, this, hx]
  exact ⟨k, rfl, p⟩
theorem sb_dictI {kvs : List (Int × AV)} {k : Int} (hx : σ x = some (.dictI kvs)) (hl : kvs.lookup k = some v) (p : Φ v σ) : subV (.ref x) (.int k) σ Φ := by
  have : lstOf σ x = none := by unfold lstOf; rw [hx]
  simp only [subV, this, hx]
  exact ⟨v, hl, p⟩
theorem sb_dictS {kvs : List (Str × AV)} {k : Str} (hx : σ x = some (.dictS kvs)) (hl : kvs.lookup k = some v) (p : Φ v σ) : subV (.ref x) (.str k) σ Φ := by
  simp only [subV, hx]
  exact ⟨v, hl, p⟩
theorem tv_dict0 : (tr G n (.dict [] [])).v ρ σ Φ Ψ = ∀ a, σ a = none → Φ (.ref a) (upd σ a (.dictI [])) := by
  first
    | (show (([] : List Tr) = [] ∧ ∀ a, σ a = none → Φ (.ref a) (upd σ a (.dictI []))) = _; simp; done)
    | (show (([] : List Ex) = [] ∧ ([] : List Ex) = [] ∧ ∀ a, σ a = none → Φ (.ref a) (upd σ a (.dictI []))) = _; simp; done)
theorem lm_clear {vs : List AV} (hz : vs.length ≤ sizeLine) (g : Φ .none (upd σ x (.list []))) : listM "clear" x vs [] σ Φ := by
  unfold listM
  rw [if_neg (by rw [strQ]; decide), if_neg (by rw [strQ]; decide), if_pos rfl]
  exact ⟨hz, g⟩
theorem lm_pop {vs : List AV} {k : Int} (h0 : 0 ≤ k) (h1 : k < vs.length) (h2 : k < 2 ^ 62) (hz : vs.length ≤ sizeLine) (hv : vs[k.toNat]? = some v) (g : Φ v (upd σ x (.list (vs.eraseIdx k.toNat)))) : listM "pop" x vs [.int k] σ Φ := by
  unfold listM
  rw [if_neg (by rw [strQ]; decide), if_pos rfl]
  exact ⟨v, h0, h1, h2, hz, hv, g⟩
theorem mm_lst {vs : List AV} {ev : (List AV → Sto → Prop) → Prop} (h : σ x = some (.list vs)) (hm : m = "append" ∨ m = "pop" ∨ m = "clear") (k : ev (fun as σ₁ => match σ₁ x with | some (.list vs) => listM m x vs as σ₁ Φ | _ => False)) : methV G n (.ref x) m σ ev Φ Ψ := by
  unfold methV
  simp only [h]
  exact ⟨hm, k⟩
end

/-! ### loops by the turn's number -/
theorem drop_cons {α : Type} {l r : List α} {v : α} {i : Nat} (h : v :: r = l.drop i) : l[i]? = some v ∧ r = l.drop (i + 1) := by
  have h1 : (l.drop i)[0]? = some v := by rw [← h]; rfl
  have h2 : (l.drop i).drop 1 = r := by rw [← h]; rfl
  rw [List.getElem?_drop] at h1
  rw [List.drop_drop] at h2
  exact ⟨by simpa using h1, h2.symm⟩
theorem loop_ix {src : Src} {vs : List AV} {bind : AV → Loc → Option Loc} {bodyT : TS} {ρ : Loc} {σ : Sto} {Φ : PS} {Ψ : PX} (I : Nat → Loc → Sto → Prop) (i0 : I 0 ρ σ) (iv : ∀ i ρ₂ σ₂, I i ρ₂ σ₂ → src.items σ₂ = some vs)
    (turn : ∀ (i : Nat) (v : AV) (J : Loc → Sto → Prop) ρ₂ σ₂, i < vs.length → vs[i]? = some v → I i ρ₂ σ₂ → (∀ ρ₄ σ₄, I (i + 1) ρ₄ σ₄ → J ρ₄ σ₄) → ∃ ρ₃, bind v ρ₂ = some ρ₃ ∧ bodyT ρ₃ σ₂ (fun fl ρ₄ σ₄ => match fl with | .next => J ρ₄ σ₄ | .cont => J ρ₄ σ₄ | .brk => Φ .next ρ₄ σ₄ | .ret a => Φ (.ret a) ρ₄ σ₄) Ψ)
    (fin : ∀ ρ₂ σ₂, I vs.length ρ₂ σ₂ → Φ .next ρ₂ σ₂) : loopV src bind bodyT ρ σ Φ Ψ := by
  refine ⟨vs, iv _ _ _ i0, fun rest ρ₂ σ₂ => ∃ i, i ≤ vs.length ∧ rest = vs.drop i ∧ I i ρ₂ σ₂, ⟨0, (by first | decide | (with_reducible first | exact lv hn | exact lv1 hn | exact lv2 hn | exact Int.natCast_nonneg _) | omega), rfl, i0⟩, ?_, ?_, ?_⟩
  · rintro rest ρ₂ σ₂ ⟨i, _, _, h⟩; exact iv i _ _ h
  · rintro v rest ρ₂ σ₂ ⟨i, hi, e, h⟩
    obtain ⟨hv, hr⟩ := drop_cons e
    have hi' := (List.getElem?_eq_some_iff.mp hv).1
    exact turn i v _ ρ₂ σ₂ hi' hv h fun ρ₄ σ₄ h' => ⟨i + 1, hi', hr, h'⟩
  · rintro ρ₂ σ₂ ⟨i, hi, e, h⟩
    have : vs.length ≤ i := by
      have := congrArg List.length e
      simp at this; omega
    obtain rfl : i = vs.length := by omega
    exact fin _ _ h
theorem comp_ix {src : Src} {vs : List AV} {eT : Tr} {x : Str} {iT : List Tr} {ρ : Loc} {σ : Sto} {Φ : PE} (hp : src.pair = false) (hz : vs.length < sizeLine) (I : Nat → List AV → Sto → Prop) (i0 : I 0 [] σ) (iv : ∀ i acc σ₂, I i acc σ₂ → src.items σ₂ = some vs ∧ acc.length ≤ i)
    (turn : ∀ (i : Nat) (v : AV) (J : AV → Sto → Prop) (J' : Sto → Prop) acc σ₂, i < vs.length → vs[i]? = some v → I i acc σ₂ → (∀ a σ₄, I (i + 1) (acc ++ [a]) σ₄ → J a σ₄) → (∀ σ₄, I (i + 1) acc σ₄ → J' σ₄) → allT iT (putA x v ρ) σ₂ (fun b σ₃ => if b = true then eT.v (putA x v ρ) σ₃ (fun a σ₄ => J a σ₄) (fun _ _ => False) else J' σ₃) (fun _ _ => False))
    (fin : ∀ acc σ₂, I vs.length acc σ₂ → ∀ a, σ₂ a = none → Φ (.ref a) (upd σ₂ a (.list acc))) :
    src.pair = false ∧ ∃ vs, src.items σ = some vs ∧ ∃ I : List AV → List AV → Sto → Prop, I vs [] σ ∧ (∀ rest acc σ₂, I rest acc σ₂ → src.items σ₂ = some vs) ∧
      (∀ v rest acc σ₂, I (v :: rest) acc σ₂ → acc.length < sizeLine ∧ allT iT (putA x v ρ) σ₂ (fun b σ₃ => if b = true then eT.v (putA x v ρ) σ₃ (fun a σ₄ => I rest (acc ++ [a]) σ₄) (fun _ _ => False) else I rest acc σ₃) (fun _ _ => False)) ∧
      (∀ acc σ₂, I [] acc σ₂ → ∀ a, σ₂ a = none → Φ (.ref a) (upd σ₂ a (.list acc))) := by
  refine ⟨hp, vs, (iv _ _ _ i0).1, fun rest acc σ₂ => ∃ i, i ≤ vs.length ∧ rest = vs.drop i ∧ I i acc σ₂, ⟨0, (by first | decide | (with_reducible first | exact lv hn | exact lv1 hn | exact lv2 hn | exact Int.natCast_nonneg _) | omega), rfl, i0⟩, ?_, ?_, ?_⟩
  · rintro rest acc σ₂ ⟨i, _, _, h⟩; exact (iv i _ _ h).1
  · rintro v rest acc σ₂ ⟨i, hi, e, h⟩
    obtain ⟨hv, hr⟩ := drop_cons e
    have hi' := (List.getElem?_eq_some_iff.mp hv).1
    have := (iv i _ _ h).2
    exact ⟨(by first | decide | (with_reducible first | exact lv hn | exact lv1 hn | exact lv2 hn | exact Int.natCast_nonneg _) | omega), turn i v _ _ acc σ₂ hi' hv h (fun a σ₄ h' => ⟨i + 1, hi', hr, h'⟩) fun σ₄ h' => ⟨i + 1, hi', hr, h'⟩⟩
  · rintro acc σ₂ ⟨i, hi, e, h⟩
    have : vs.length ≤ i := by
      have := congrArg List.length e
      simp at this; omega
    obtain rfl : i = vs.length := by omega
    exact fin _ _ h
theorem CompOk.ix {G : PG} {n : Nat} {e : Ex} {x : Str} {as : List Ex} {ρ : Loc} {vs : List AV} {σ : Sto} {Φ : PE} (hz : vs.length < sizeLine) (I : Nat → List AV → Sto → Prop) (i0 : I 0 [] σ) (iv : ∀ i acc σ₂, I i acc σ₂ → acc.length ≤ i)
    (turn : ∀ (i : Nat) (v : AV) (J : AV → Sto → Prop) (J' : Sto → Prop) acc σ₂, i < vs.length → vs[i]? = some v → I i acc σ₂ → (∀ a σ₄, I (i + 1) (acc ++ [a]) σ₄ → J a σ₄) → (∀ σ₄, I (i + 1) acc σ₄ → J' σ₄) → allT (trs G n as) (putA x v ρ) σ₂ (fun b σ₃ => if b = true then (tr G n e).v (putA x v ρ) σ₃ (fun a σ₄ => J a σ₄) (fun _ _ => False) else J' σ₃) (fun _ _ => False))
    (fin : ∀ acc σ₂, I vs.length acc σ₂ → ∀ a, σ₂ a = none → Φ (.ref a) (upd σ₂ a (.list acc))) : CompOk G n e x as ρ vs σ Φ :=
  comp_ix (src := .vals vs) rfl hz I i0 (fun i acc σ₂ h => ⟨rfl, iv i acc σ₂ h⟩) turn fin
theorem range0 (N : Nat) : rangeL 0 N 1 = (List.range N).map fun (i : Nat) => AV.int i := by
  have e : (Builtin.Range.rangeSize 0 N 1).toNat = N := by
    unfold Builtin.Range.rangeSize
    rw [if_pos (by first | decide | (with_reducible first | exact lv hn | exact lv1 hn | exact lv2 hn | exact Int.natCast_nonneg _) | omega)]
    split <;> omega
  unfold rangeL
  rw [e]
  simp
/-- a loop over range(N) -/
theorem loop_n {N : Nat} {x : Str} {bodyT : TS} {ρ : Loc} {σ : Sto} {Φ : PS} {Ψ : PX} (I : Nat → Loc → Sto → Prop) (i0 : I 0 ρ σ)
    (turn : ∀ (i : Nat) (J : Loc → Sto → Prop) ρ₂ σ₂, i < N → I i ρ₂ σ₂ → (∀ ρ₄ σ₄, I (i + 1) ρ₄ σ₄ → J ρ₄ σ₄) → bodyT (putA x (.int i) ρ₂) σ₂ (fun fl ρ₄ σ₄ => match fl with | .next => J ρ₄ σ₄ | .cont => J ρ₄ σ₄ | .brk => Φ .next ρ₄ σ₄ | .ret a => Φ (.ret a) ρ₄ σ₄) Ψ)
    (fin : ∀ ρ₂ σ₂, I N ρ₂ σ₂ → Φ .next ρ₂ σ₂) : (Src.vals (rangeL 0 N 1)).pair = false ∧ loopV (.vals (rangeL 0 N 1)) (bind1 x) bodyT ρ σ Φ Ψ := by
  rw [range0]
  refine ⟨rfl, loop_ix (vs := (List.range N).map fun (i : Nat) => AV.int i) I i0 (fun _ _ _ _ => rfl) (fun i v J ρ₂ σ₂ hi hv h k => ?_) fun ρ₂ σ₂ h => fin ρ₂ σ₂ (by simpa using h)⟩
  simp at hi
  simp [List.getElem?_range hi] at hv
  subst hv
  exact ⟨_, rfl, turn i J ρ₂ σ₂ hi h k⟩
/-! ### who owns what -/
abbrev Tag := Nat × Nat
abbrev Own := Addr → Tag
structure Chg (T : Tag → Prop) (o : Own) (σ : Sto) (o' : Own) (σ' : Sto) : Prop where
  tag : ∀ a c, σ a = some c → o' a = o a
  there : ∀ a c, σ a = some c → ∃ c', σ' a = some c'
  keep : ∀ a c, σ a = some c → ¬ T (o a) → σ' a = some c
structure At (o : Own) (σ : Sto) (t : Tag) (a : Addr) (c : Cell) : Prop where
  at_ : σ a = some c
  tag : o a = t
noncomputable def setO (o : Own) (a : Addr) (t : Tag) : Own := fun b => if b = a then t else o b
section
variable {T T' : Tag → Prop} {o o' o'' : Own} {σ σ' σ'' : Sto} {t u : Tag} {a b : Addr} {c d : Cell}
theorem Chg.refl : Chg T o σ o σ := ⟨fun _ _ _ => rfl, fun _ c e => ⟨c, e⟩, fun _ _ e _ => e⟩
theorem Chg.trans (x : Chg T o σ o' σ') (y : Chg T o' σ' o'' σ'') : Chg T o σ o'' σ'' := by
  refine ⟨fun a c e => ?_, fun a c e => ?_, fun a c e n => ?_⟩
  · obtain ⟨c', e'⟩ := x.there a c e
    exact (y.tag a c' e').trans (x.tag a c e)
  · obtain ⟨c', e'⟩ := x.there a c e
    exact y.there a c' e'
  · exact y.keep a c (x.keep a c e n) (by rw [x.tag a c e]; exact n)
theorem Chg.mono (x : Chg T o σ o' σ') (h : ∀ t, T t → T' t) : Chg T' o σ o' σ' := ⟨x.tag, x.there, fun a c e n => x.keep a c e fun z => n (h _ z)⟩
theorem Chg.ext (x : Ext σ σ') : Chg T o σ o σ' := ⟨fun _ _ _ => rfl, fun a c e => ⟨c, x a c e⟩, fun a c e _ => x a c e⟩
theorem Chg.new (h : σ a = none) : Chg T o σ (setO o a t) (upd σ a c) := by
  have ne : ∀ b d, σ b = some d → b ≠ a := fun b d e z => by rw [z, h] at e; cases e
  refine ⟨fun b d e => ?_, fun b d e => ⟨d, ?_⟩, fun b d e _ => ?_⟩
  · unfold setO; rw [if_neg (ne b d e)]
  · rw [upd_ne (ne b d e)]; exact e
  · rw [upd_ne (ne b d e)]; exact e
theorem Chg.put (x : At o σ t a d) (h : T t) : Chg T o σ o (upd σ a c) := by
  refine ⟨fun _ _ _ => rfl, fun b e h' => ?_, fun b e h' n => ?_⟩
  · by_cases q : b = a
    · exact ⟨c, by rw [q, upd_same]⟩
    · exact ⟨e, by rw [upd_ne q]; exact h'⟩
  · rw [upd_ne]; exact h'
    intro q; subst q; rw [x.tag] at n; exact n h
theorem At.chg (x : At o σ t a c) (h : Chg T o σ o' σ') (n : ¬ T t) : At o' σ' t a c := ⟨h.keep a c x.at_ (by rw [x.tag]; exact n), (h.tag a c x.at_).trans x.tag⟩
theorem At.new : At (setO o a t) (upd σ a c) t a c := ⟨upd_same _ _ _, by simp [setO]⟩
theorem At.put (x : At o σ t a d) : At o (upd σ a c) t a c := ⟨upd_same _ _ _, x.tag⟩
theorem At.upd (x : At o σ t a c) (h : a ≠ b) : At o (Mine.upd σ b d) t a c := ⟨by rw [upd_ne h]; exact x.at_, x.tag⟩
theorem At.fresh (x : At o σ t a c) (h : σ b = none) : At (setO o b u) (Mine.upd σ b d) t a c := by
  have ne : a ≠ b := fun z => by have := x.at_; rw [z, h] at this; cases this
  exact ⟨by rw [upd_ne ne]; exact x.at_, by unfold setO; rw [if_neg ne]; exact x.tag⟩
theorem At.ext (x : At o σ t a c) (h : Ext σ σ') : At o σ' t a c := ⟨h _ _ x.at_, x.tag⟩
theorem At.lst {vs : List AV} (x : At o σ t a (.list vs)) : lstOf σ a = some vs := lstOf_list x.at_
theorem At.ne_kind (x : At o σ t a c) (y : At o σ u b d) (h : c ≠ d) : a ≠ b := fun e => h (by have := x.at_; rw [e, y.at_] at this; exact (Option.some.inj this).symm)
theorem new_own {Φ : PE} {vs : List AV} (t : Tag) (hz : vs.length ≤ sizeLine) (h : ∀ a o' σ', Chg (fun _ => False) o σ o' σ' → At o' σ' t a (.list vs) → Φ (.ref a) σ') : newList σ vs Φ :=
  new_lst hz fun a ha _ => h a _ _ (.new (t := t) ha) .new
end
end Mine
set_option maxRecDepth 100000
set_option linter.unusedSimpArgs false
set_option linter.unusedVariables false
namespace Mine
open PySem PyProof.Rows

/-! ### what a term is, where it changes nothing -/
noncomputable def Ev (G : PG) (n : Nat) (ρ : Loc) (σ : Sto) (e : Ex) (v : AV) : Prop := ∀ Φ Ψ, Φ v σ → (tr G n e).v ρ σ Φ Ψ
noncomputable def Es (G : PG) (n : Nat) (ρ : Loc) (σ : Sto) (es : List Ex) (vs : List AV) : Prop := ∀ Φ Ψ, Φ vs σ → seqV (trs G n es) ρ σ Φ Ψ
noncomputable def Et (G : PG) (n : Nat) (ρ : Loc) (σ : Sto) (e : Ex) (b : Bool) : Prop := ∀ Φ Ψ, Φ b σ → (tr G n e).t ρ σ Φ Ψ
noncomputable def Ea (G : PG) (n : Nat) (ρ : Loc) (σ : Sto) (es : List Ex) (b : Bool) : Prop := ∀ Φ Ψ, Φ b σ → allT (trs G n es) ρ σ Φ Ψ
noncomputable def Eo (G : PG) (n : Nat) (ρ : Loc) (σ : Sto) (es : List Ex) (b : Bool) : Prop := ∀ Φ Ψ, Φ b σ → anyT (trs G n es) ρ σ Φ Ψ
noncomputable def SubIs (σ : Sto) (a k v : AV) : Prop := ∀ Φ : PE, Φ v σ → subV a k σ Φ
noncomputable def AttrIs (G : PG) (σ : Sto) (o : AV) (x : Str) (v : AV) : Prop := ∀ Φ : PE, Φ v σ → attrV G o x σ Φ
noncomputable def CmpIs (G : PG) (σ : Sto) (op : CmpOp) (a b : AV) (q : Bool) : Prop := ∀ Φ : Bool → Prop, Φ q → cmpV G op a b σ Φ
noncomputable def BiIs (G : PG) (n : Nat) (σ : Sto) (f : Str) (as : List AV) (v : AV) : Prop := ∀ Φ : PE, Φ v σ → biV G n f as σ Φ
noncomputable def BinIs (σ : Sto) (op : Operator) (a b v : AV) : Prop := ∀ Φ : PE, Φ v σ → binV op a b σ Φ
noncomputable def GlIs (G : PG) (x : Str) (v : AV) : Prop := ∀ Φ : AV → Prop, Φ v → globV G x Φ
noncomputable def CallIs (G : PG) (n : Nat) (f : Addr) (as : List AV) (σ : Sto) (v : AV) : Prop := ∀ Φ Ψ, Φ v σ → WC G n (.ref f) as σ Φ Ψ
section
variable {G : PG} {n : Nat} {ρ : Loc} {σ : Sto} {x f : Str} {a b c : Ex} {as bs : List Ex} {op : Operator} {co cp : CmpOp} {u v w : AV} {us vs : List AV} {q : Bool} {l : Addr}
theorem ev_nm (h : ρ.lookup x = some v) : Ev G n ρ σ (.nm x) v := fun Φ Ψ p => by rw [tv_nm, h]; exact p
theorem ev_cst : Ev G n ρ σ (.cst v) v := fun _ _ p => p
theorem ev_gl (h : GlIs G x v) : Ev G n ρ σ (.gl x) v := fun Φ _ p => h (fun a => Φ a σ) p
theorem ev_bin (ha : Ev G n ρ σ a u) (hb : Ev G n ρ σ b w) (h : BinIs σ op u w v) : Ev G n ρ σ (.bin op a b) v := fun Φ Ψ p => ha _ Ψ (hb _ Ψ (h Φ p))
theorem ev_cmp (ha : Ev G n ρ σ a u) (hb : Ev G n ρ σ b w) (h : CmpIs G σ co u w q) : Ev G n ρ σ (.cmp co a b) (.bool q) := fun Φ Ψ p => ha _ Ψ (hb _ Ψ (h _ p))
theorem ev_cmp2T {o1 o2 : CmpOp} {c : Ex} {z : AV} (ha : Ev G n ρ σ a u) (hb : Ev G n ρ σ b w) (hc : Ev G n ρ σ c z) (h : CmpIs G σ o1 u w true) (h' : CmpIs G σ o2 w z q) : Ev G n ρ σ (.cmp2 o1 o2 a b c) (.bool q) := fun Φ Ψ p => ha _ Ψ (hb _ Ψ (h _ (hc _ Ψ (h' _ p))))
theorem ev_cmp2F {o1 o2 : CmpOp} {c : Ex} (ha : Ev G n ρ σ a u) (hb : Ev G n ρ σ b w) (h : CmpIs G σ o1 u w false) : Ev G n ρ σ (.cmp2 o1 o2 a b c) (.bool false) := fun Φ Ψ p => ha _ Ψ (hb _ Ψ (h _ p))
theorem ev_sub (ha : Ev G n ρ σ a u) (hb : Ev G n ρ σ b w) (h : SubIs σ u w v) : Ev G n ρ σ (.sub a b) v := fun Φ Ψ p => ha _ Ψ (hb _ Ψ (h Φ p))
theorem ev_attr (ha : Ev G n ρ σ a u) (h : AttrIs G σ u x v) : Ev G n ρ σ (.attr a x) v := fun Φ Ψ p => ha _ Ψ (h Φ p)
theorem ev_bi (hs : Es G n ρ σ as us) (h : BiIs G n σ f us v) : Ev G n ρ σ (.bi f as) v := fun Φ Ψ p => hs _ Ψ (h Φ p)
theorem ev_tup (hs : Es G n ρ σ as us) (hz : us.length ≤ sizeLine) : Ev G n ρ σ (.tup as) (.tup us) := fun Φ Ψ p => hs _ Ψ ⟨hz, p⟩
theorem ev_call {g : Addr} {ps : List Str} {code : List Sm} (F : Fn1 G f ps code g) (hs : Es G n ρ σ as us) (h : CallIs G n g us σ v) : Ev G n ρ σ (.call f as) v := fun Φ Ψ p => tv_call F (hs _ Ψ (h Φ Ψ p))
theorem es_nil : Es G n ρ σ [] [] := fun _ _ p => p
theorem es_cons (h : Ev G n ρ σ a v) (hs : Es G n ρ σ as vs) : Es G n ρ σ (a :: as) (v :: vs) := fun Φ Ψ p => h _ Ψ (hs _ Ψ p)
theorem ev_and1 (h : Ev G n ρ σ a v) : Ev G n ρ σ (.and_ [a]) v := h
theorem ev_andT (h : Ev G n ρ σ a (.bool true)) (p : Ev G n ρ σ (.and_ (b :: as)) v) : Ev G n ρ σ (.and_ (a :: b :: as)) v := fun Φ Ψ k => h _ Ψ ⟨true, rfl, p Φ Ψ k⟩
theorem ev_or1 (h : Ev G n ρ σ a v) : Ev G n ρ σ (.or_ [a]) v := h
theorem ev_orT (h : Ev G n ρ σ a (.bool true)) : Ev G n ρ σ (.or_ (a :: b :: as)) (.bool true) := fun Φ Ψ k => h _ Ψ ⟨true, rfl, k⟩
theorem ev_orF (h : Ev G n ρ σ a (.bool false)) (p : Ev G n ρ σ (.or_ (b :: as)) v) : Ev G n ρ σ (.or_ (a :: b :: as)) v := fun Φ Ψ k => h _ Ψ ⟨false, rfl, p Φ Ψ k⟩
/-! tests -/
theorem et_cmp (ha : Ev G n ρ σ a u) (hb : Ev G n ρ σ b w) (h : CmpIs G σ co u w q) : Et G n ρ σ (.cmp co a b) q := fun Φ Ψ p => ha _ Ψ (hb _ Ψ (h _ ⟨q, rfl, p⟩))
theorem et_sub (h : Ev G n ρ σ (.sub a b) (.bool q)) : Et G n ρ σ (.sub a b) q := fun Φ Ψ p => h _ Ψ ⟨q, rfl, p⟩
theorem et_bi (h : Ev G n ρ σ (.bi f as) (.bool q)) : Et G n ρ σ (.bi f as) q := fun Φ Ψ p => h _ Ψ ⟨q, rfl, p⟩
theorem et_call (h : Ev G n ρ σ (.call f as) (.bool q)) : Et G n ρ σ (.call f as) q := fun Φ Ψ p => h _ Ψ ⟨q, rfl, p⟩
theorem et_nm (h : ρ.lookup x = some (.bool q)) : Et G n ρ σ (.nm x) q := fun Φ Ψ p => by rw [tt_nm, tv_nm, h]; exact ⟨q, rfl, p⟩
theorem et_notT (h : Et G n ρ σ a false) : Et G n ρ σ (.not_ a) true := fun Φ Ψ p => h _ Ψ p
theorem et_notF (h : Et G n ρ σ a true) : Et G n ρ σ (.not_ a) false := fun Φ Ψ p => h _ Ψ p
theorem ev_notT (h : Ev G n ρ σ a (.bool false)) : Ev G n ρ σ (.not_ a) (.bool true) := fun Φ Ψ k => h _ Ψ ⟨false, rfl, k⟩
theorem et_and (h : Ea G n ρ σ as q) : Et G n ρ σ (.and_ as) q := h
theorem et_or (h : Eo G n ρ σ as q) : Et G n ρ σ (.or_ as) q := h
theorem ea_nil : Ea G n ρ σ [] true := fun _ _ p => p
theorem ea_T (h : Et G n ρ σ a true) (p : Ea G n ρ σ as q) : Ea G n ρ σ (a :: as) q := fun Φ Ψ k => h _ Ψ (p Φ Ψ k)
theorem ea_F (h : Et G n ρ σ a false) : Ea G n ρ σ (a :: as) false := fun Φ Ψ k => h _ Ψ k
theorem eo_nil : Eo G n ρ σ [] false := fun _ _ p => p
theorem eo_F (h : Et G n ρ σ a false) (p : Eo G n ρ σ as q) : Eo G n ρ σ (a :: as) q := fun Φ Ψ k => h _ Ψ (p Φ Ψ k)
theorem eo_T (h : Et G n ρ σ a true) : Eo G n ρ σ (a :: as) true := fun Φ Ψ k => h _ Ψ k
/-! what is known of values -/
variable {i j : Int} {s t : Str} {p : Bool}
theorem d_add : BinIs σ .Add (.int i) (.int j) (.int (i + j)) := fun _ p => p
theorem d_minus : BinIs σ .Sub (.int i) (.int j) (.int (i - j)) := fun _ p => p
theorem d_mod (h : j ≠ 0) : BinIs σ .Mod (.int i) (.int j) (.int (Int.fmod i j)) := fun _ p => ⟨h, p⟩
theorem d_lt : CmpIs G σ .Lt (.int i) (.int j) (decide (i < j)) := fun _ p => p
theorem d_gt : CmpIs G σ .Gt (.int i) (.int j) (decide (i > j)) := fun _ p => p
theorem d_ltT (h : i < j) : CmpIs G σ .Lt (.int i) (.int j) true := fun Φ p => by rw [cm_lt, decide_eq_true h]; exact p
theorem d_ltF (h : ¬ i < j) : CmpIs G σ .Lt (.int i) (.int j) false := fun Φ p => by rw [cm_lt, decide_eq_false h]; exact p
theorem d_leT (h : i ≤ j) : CmpIs G σ .LtE (.int i) (.int j) true := fun Φ p => by rw [cm_le, decide_eq_true h]; exact p
theorem d_leF (h : ¬ i ≤ j) : CmpIs G σ .LtE (.int i) (.int j) false := fun Φ p => by rw [cm_le, decide_eq_false h]; exact p
theorem d_nesF : CmpIs G σ .NotEq (.str s) (.str s) false := fun Φ p => by rw [cm_nes, beq_self_eq_true]; exact p
theorem d_eqi : CmpIs G σ .Eq (.int i) (.int j) (i == j) := fun _ p => p
theorem d_eqT (h : i = j) : CmpIs G σ .Eq (.int i) (.int j) true := fun Φ p => by rw [cm_eqi, h, beq_self_eq_true]; exact p
theorem d_eqF (h : i ≠ j) : CmpIs G σ .Eq (.int i) (.int j) false := fun Φ p => by rw [cm_eqi, beq_eq_false_iff_ne.mpr h]; exact p
theorem d_neF (h : i = j) : CmpIs G σ .NotEq (.int i) (.int j) false := fun Φ p => by rw [cm_nei, h, beq_self_eq_true]; exact p
theorem d_neT (h : i ≠ j) : CmpIs G σ .NotEq (.int i) (.int j) true := fun Φ p => by rw [cm_nei, beq_eq_false_iff_ne.mpr h]; exact p
theorem d_eqsT : CmpIs G σ .Eq (.str s) (.str s) true := fun Φ p => by rw [cm_eqs, beq_self_eq_true]; exact p
theorem d_eqsF (h : s ≠ t) : CmpIs G σ .Eq (.str s) (.str t) false := fun Φ p => by rw [cm_eqs, beq_eq_false_iff_ne.mpr h]; exact p
theorem d_none (h : v.novalue = true) : CmpIs G σ .Is v .none v.isNone := fun Φ p => by rw [cm_isnone h]; exact p
theorem d_some (h : v.novalue = true) : CmpIs G σ .IsNot v .none (!v.isNone) := fun Φ p => by rw [cm_isnotnone h]; exact p
theorem d_lst (hl : lstOf σ l = some vs) (h0 : -(2 ^ 62) ≤ i) (h1 : i < 2 ^ 62) (h : idx vs i = some v) : SubIs σ (.ref l) (.int i) v := fun Φ p => sb_lst hl h0 h1 h p
theorem d_at {k : Int} (hl : lstOf σ l = some vs) (hz : vs.length < 1000000) (h0 : 0 ≤ k) (h : vs[k.toNat]? = some v) : SubIs σ (.ref l) (.int k) v := fun Φ p => by
  have := (List.getElem?_eq_some_iff.mp h).1
  exact sb_lst hl (by first | decide | (with_reducible first | exact lv hn | exact lv1 hn | exact lv2 hn | exact Int.natCast_nonneg _) | omega) (by first | decide | (with_reducible first | exact lv hn | exact lv1 hn | exact lv2 hn | exact Int.natCast_nonneg _) | omega) (idx_nat h0 h) p
theorem d_get {k : Nat} (hl : lstOf σ l = some vs) (hz : vs.length < 1000000) (h : vs[k]? = some v) : SubIs σ (.ref l) (.int k) v := fun Φ p => by
  have := (List.getElem?_eq_some_iff.mp h).1
  exact sb_lst hl (by first | decide | (with_reducible first | exact lv hn | exact lv1 hn | exact lv2 hn | exact Int.natCast_nonneg _) | omega) (by first | decide | (with_reducible first | exact lv hn | exact lv1 hn | exact lv2 hn | exact Int.natCast_nonneg _) | omega) (idx_nat (by first | decide | (with_reducible first | exact lv hn | exact lv1 hn | exact lv2 hn | exact Int.natCast_nonneg _) | omega) (by rw [Int.toNat_natCast]; exact h)) p
theorem d_0 : SubIs σ (.tup (v :: vs)) (.int 0) v := fun Φ p => sb_tup (by decide) (by decide) (idx0 _ _) p
theorem d_1 : SubIs σ (.tup (u :: v :: vs)) (.int 1) v := fun Φ p => sb_tup (by decide) (by decide) (idx1 _ _ _) p
theorem d_2 : SubIs σ (.tup (u :: w :: v :: vs)) (.int 2) v := fun Φ p => sb_tup (by decide) (by decide) (idx2 _ _ _ _) p
theorem d_3 {u₁ : AV} : SubIs σ (.tup (u :: w :: u₁ :: v :: vs)) (.int 3) v := fun Φ p => sb_tup (by decide) (by decide) (idx_nat (by decide) rfl) p
theorem d_4 {u₁ u₂ : AV} : SubIs σ (.tup (u :: w :: u₁ :: u₂ :: v :: vs)) (.int 4) v := fun Φ p => sb_tup (by decide) (by decide) (idx_nat (by decide) rfl) p
theorem d_lenM {α : Type} {g : α → AV} {ks : List α} (h : lstOf σ l = some (ks.map g)) (hz : ks.length < 1000000) : BiIs G n σ "len" [.ref l] (.int ks.length) := fun Φ p => bi_len h (by rw [List.length_map]; exact Nat.lt_trans hz (by decide)) (by rw [List.length_map]; exact p)
theorem d_lenT (hz : vs.length < 1000000) : BiIs G n σ "len" [.tup vs] (.int vs.length) := fun Φ p => bi_lenT (Nat.lt_trans hz (by decide)) p
theorem d_isi {T : String} {t : Value} (h1 : kindV σ v = some t) (h2 : W.kitOne G.K t (.type T) = some q) (h3 : v.exnK G.K := by trivial) : BiIs G n σ "isinstance" [v, .val (.type T)] (.bool q) := fun Φ p => bi_isi h1 h2 p h3
theorem d_int : GlIs G "int" (.val (.type "int")) := fun Φ p => by rw [glob_int]; exact p
theorem d_bool : GlIs G "bool" (.val (.type "bool")) := fun Φ p => by rw [glob_bool]; exact p
theorem d_tuple : GlIs G "tuple" (.val (.type "tuple")) := fun Φ p => by rw [glob_tuple]; exact p
theorem d_str : GlIs G "str" (.val (.type "str")) := fun Φ p => by rw [glob_str]; exact p
theorem d_attr {C y d : Addr} {ns : List (Str × AV)} {ks : List Str} (A : Cls G C ks) (hx : σ y = some (.inst C d)) (hd : σ d = some (.ns ns)) (ha : x ∈ ks) (hl : ns.lookup x = some v) (hv : v.novalue = true) : AttrIs G σ (.ref y) x v := fun Φ p => at_get A hx hd ha hl hv p
end
section
variable {G : PG} {n : Nat} {ρ : Loc} {σ : Sto} {Φ : PS} {Ψ : PX} {x : Str} {e o i c it a : Ex} {as : List Ex} {r t f body : List Sm} {u v w : AV} {vs : List AV} {q : Bool}
theorem g_asg (h : Ev G n ρ σ e v) (p : tss G n r (putA x v ρ) σ Φ Ψ) : tss G n (.asg x e :: r) ρ σ Φ Ψ := h _ _ p
theorem g_ret (h : Ev G n ρ σ e v) (p : Φ (.ret v) ρ σ) : tss G n (.ret (some e) :: r) ρ σ Φ Ψ := h _ _ p
theorem g_iteT (h : Et G n ρ σ c true) (p : tss G n t ρ σ (aft G n r Φ Ψ) Ψ) : tss G n (.ite c t f :: r) ρ σ Φ Ψ := h _ _ p
theorem g_iteF (h : Et G n ρ σ c false) (p : tss G n f ρ σ (aft G n r Φ Ψ) Ψ) : tss G n (.ite c t f :: r) ρ σ Φ Ψ := h _ _ p
theorem g_if0 (h : Et G n ρ σ c false) (p : tss G n r ρ σ Φ Ψ) : tss G n (.ite c t [] :: r) ρ σ Φ Ψ := h _ _ p
/-- if c: return e -/
theorem g_ifR (h : Et G n ρ σ c true) (he : Ev G n ρ σ e v) (p : Φ (.ret v) ρ σ) : tss G n (.ite c [.ret (some e)] f :: r) ρ σ Φ Ψ := h _ _ (he _ _ p)
theorem g_ret0 (p : Φ (.ret .none) ρ σ) : tss G n (.ret none :: r) ρ σ Φ Ψ := p
theorem g_nil (p : Φ .next ρ σ) : tss G n [] ρ σ Φ Ψ := p
theorem g_sattr (he : Ev G n ρ σ e v) (ho : Ev G n ρ σ o u) (p : sattrV G u x v σ fun σ₃ => tss G n r ρ σ₃ Φ Ψ) : tss G n (.sattr o x e :: r) ρ σ Φ Ψ := he _ _ (ho _ _ p)
theorem g_sitem (he : Ev G n ρ σ e v) (ho : Ev G n ρ σ o u) (hi : Ev G n ρ σ i w) (p : sitemV u w v σ fun σ₃ => tss G n r ρ σ₃ Φ Ψ) : tss G n (.sitem o i e :: r) ρ σ Φ Ψ := he _ _ (ho _ _ (hi _ _ p))
/-- if a == [] -/
theorem g_iteN (ha : Ev G n ρ σ a u) (h : ∀ b σ₁, Ext σ σ₁ → lstOf σ₁ b = some [] → ∃ q, CmpIs G σ₁ .Eq u (.ref b) q ∧ if q = true then tss G n t ρ σ₁ (aft G n r Φ Ψ) Ψ else tss G n f ρ σ₁ (aft G n r Φ Ψ) Ψ) : tss G n (.ite (.cmp .Eq a (.list [])) t f :: r) ρ σ Φ Ψ := by
  rw [bl_ite, tt_cmp]
  refine ha _ _ ?_
  simp only [tv_list, sq_nil]
  exact new_lst (Nat.zero_le _) fun b _ x => (h b _ x (lst_new _ _ _)).elim fun q z => z.1 _ ⟨q, rfl, z.2⟩
/-- for x in range(N) -/
theorem g_forN {N : Nat} (hn : 10 ≤ n) (h : Ev G n ρ σ a (.int N)) (hz : N < 1000000) (I : Nat → Loc → Sto → Prop) (i0 : I 0 ρ σ)
    (turn : ∀ (i : Nat) (K : PS) ρ₂ σ₂, i < N → I i ρ₂ σ₂ → (∀ ρ₄ σ₄, I (i + 1) ρ₄ σ₄ → K .next ρ₄ σ₄) → (∀ v ρ₄ σ₄, Φ (.ret v) ρ₄ σ₄ → K (.ret v) ρ₄ σ₄) → tss G n body (putA x (.int i) ρ₂) σ₂ K Ψ)
    (fin : ∀ ρ₂ σ₂, I N ρ₂ σ₂ → tss G n r ρ₂ σ₂ Φ Ψ) : tss G n (.for_ x (.bi "range" [a]) body :: r) ρ σ Φ Ψ := by
  rw [bl_for, ti_range]
  refine h _ _ ⟨hn, (by first | decide | (with_reducible first | exact lv hn | exact lv1 hn | exact lv2 hn | exact Int.natCast_nonneg _) | omega), (by first | decide | (with_reducible first | exact lv hn | exact lv1 hn | exact lv2 hn | exact Int.natCast_nonneg _ | assumption) | omega), loop_n I i0 (fun i J ρ₂ σ₂ hi hI k => turn i _ ρ₂ σ₂ hi hI k fun v ρ₄ σ₄ p => p) fin⟩
/-- the same, where the store stays -/
theorem g_forS {N : Nat} (hn : 10 ≤ n) (h : Ev G n ρ σ a (.int N)) (hz : N < 1000000) (I : Nat → Loc → Prop) (i0 : I 0 ρ)
    (turn : ∀ (i : Nat) (K : PS) ρ₂, i < N → I i ρ₂ → (∀ ρ₄, I (i + 1) ρ₄ → K .next ρ₄ σ) → (∀ v ρ₄ σ₄, Φ (.ret v) ρ₄ σ₄ → K (.ret v) ρ₄ σ₄) → tss G n body (putA x (.int i) ρ₂) σ K Ψ)
    (fin : ∀ ρ₂, I N ρ₂ → tss G n r ρ₂ σ Φ Ψ) : tss G n (.for_ x (.bi "range" [a]) body :: r) ρ σ Φ Ψ :=
  g_forN hn h hz (fun i ρ₂ σ₂ => σ₂ = σ ∧ I i ρ₂) ⟨rfl, i0⟩ (fun i K ρ₂ σ₂ hi hI k kr => by rw [hI.1]; exact turn i K ρ₂ hi hI.2 (fun ρ₄ z => k ρ₄ σ ⟨rfl, z⟩) kr) fun ρ₂ σ₂ hI => by rw [hI.1]; exact fin ρ₂ hI.2
/-- for x in a list -/
theorem g_forL {l : Addr} {y : Str} (h : ρ.lookup y = some (.ref l)) (hl : lstOf σ l = some vs) (I : Nat → Loc → Prop) (i0 : I 0 ρ)
    (turn : ∀ (i : Nat) (v : AV) (K : PS) ρ₂, vs[i]? = some v → I i ρ₂ → (∀ ρ₄, I (i + 1) ρ₄ → K .next ρ₄ σ) → (∀ v ρ₄ σ₄, Φ (.ret v) ρ₄ σ₄ → K (.ret v) ρ₄ σ₄) → tss G n body (putA x v ρ₂) σ K Ψ)
    (fin : ∀ ρ₂, I vs.length ρ₂ → tss G n r ρ₂ σ Φ Ψ) : tss G n (.for_ x (.nm y) body :: r) ρ σ Φ Ψ := by
  rw [bl_for]
  refine ti_nm h ⟨rfl, loop_ix (vs := vs) (fun i ρ₂ σ₂ => σ₂ = σ ∧ I i ρ₂) ⟨rfl, i0⟩ (fun i ρ₂ σ₂ hI => by rw [hI.1]; exact hl) (fun i v J ρ₂ σ₂ hi hv hI k => ⟨_, rfl, ?_⟩) fun ρ₂ σ₂ hI => by rw [hI.1]; exact fin ρ₂ hI.2⟩
  rw [hI.1]
  exact turn i v _ ρ₂ hv hI.2 (fun ρ₄ h' => k ρ₄ σ ⟨rfl, h'⟩) fun v ρ₄ σ₄ p => p
end
/-! ### a function's body -/
section
variable {G : PG} {n : Nat} {σ : Sto} {Φ : PE} {Ψ : PY} {f C : Addr} {m : Str} {ps : List Str} {code : List Sm} {args : List AV}
/-- a body's walk: the frame, what stands behind it -/
noncomputable def Body (G : PG) (n : Nat) (code : List Sm) (ps : List Str) (args : List AV) (σ : Sto) (Φ : PE) (Ψ : PY) : Prop := ∀ (ρ : Loc) (K : PS) (X : PX), (∀ x v, (ps.zip args).lookup x = some v → ρ.lookup x = some v) → (∀ v ρ' σ', Φ v σ' → K (.ret v) ρ' σ') → (∀ ρ' σ', Φ .none σ' → K .next ρ' σ') → (∀ c ρ' σ', Ψ c σ' → X c ρ' σ') → tss G n code ρ σ K X
theorem Fn1.bd (F : Fn1 G m ps code f) (hl : args.length = ps.length) (h : Body G n code ps args σ Φ Ψ) : WC G (n + 1) (.ref f) args σ Φ Ψ :=
  F.wc hl (h _ _ _ (fun _ _ e => e) (fun _ _ _ p => p) (fun _ _ p => p) fun _ _ _ p => p)
theorem Mt.bd (F : Mt G C m ps code f) (hl : args.length = ps.length) (h : Body G n code ps args σ Φ Ψ) : WC G (n + 1) (.ref f) args σ Φ Ψ :=
  F.wc hl (h _ _ _ (fun _ _ e => e) (fun _ _ _ p => p) (fun _ _ p => p) fun _ _ _ p => p)
end
section
variable {G : PG} {n : Nat} {ρ : Loc} {σ σ' : Sto} {Φ : PE} {Ψ : PY} {T : Tag → Prop} {o o' : Own} {t u : Tag} {a b x d C : Addr} {c e : Cell} {l : List (Str × AV)} {as : List Str} {k : Str} {v : AV}
theorem Chg.over (h : Chg T o σ o' σ') (z : σ a = none) : Chg T o σ o' (upd σ' a c) := by
  have ne : ∀ b d, σ b = some d → b ≠ a := fun b d e q => by rw [q, z] at e; cases e
  exact ⟨h.tag, fun b d e => (h.there b d e).elim fun f g => ⟨f, by rw [upd_ne (ne b d e)]; exact g⟩, fun b d e m => by rw [upd_ne (ne b d e)]; exact h.keep b d e m⟩
theorem Chg.none (h : Chg T o σ o' σ') (z : σ' a = .none) : σ a = .none := by
  cases q : σ a with
  | none => rfl
  | some c => exact (h.there a c q).elim fun c' e => by rw [z] at e; cases e
theorem At.off (x : At o σ t a c) (h : σ b = none) : a ≠ b := fun z => by have := x.at_; rw [z, h] at this; cases this
/-- an attribute is set -/
theorem set_at {Φ : Sto → Prop} (A : Cls G C as) (X : At o σ t x (.inst C d)) (D : At o σ u d (.ns l)) (ha : k ∈ as) (hz : l.length < 1000)
    (p : ∀ σ', (∀ f b w, At o σ f b w → b ≠ d → At o σ' f b w) → (∀ T o₀ σ₀, Chg T o₀ σ₀ o σ → σ₀ d = none → Chg T o₀ σ₀ o σ') → (∀ T : Tag → Prop, T u → Chg T o σ o σ') → At o σ' u d (.ns (putA k v l)) → Φ σ') : sattrV G (.ref x) k v σ Φ :=
  at_set A X.at_ D.at_ ha hz (p _ (fun _ _ _ h ne => h.upd ne) (fun _ _ _ h z => h.over z) (fun _ h => .put D h) D.put)
/-- a list is made, and an attribute set to it -/
theorem g_setL {ob : Ex} {w : AV} {r : List Sm} {Φ : PS} {Ψ : PX} (t : Tag) (ho : ∀ σ', Ev G n ρ σ' ob w) (p : ∀ a o' σ', σ a = none → Chg (fun _ => False) o σ o' σ' → At o' σ' t a (.list []) → sattrV G w k (.ref a) σ' fun σ₃ => tss G n r ρ σ₃ Φ Ψ) : tss G n (.sattr ob k (.list []) :: r) ρ σ Φ Ψ := by
  rw [bl_sattr, tv_list, sq_nil]
  exact new_lst (Nat.zero_le _) fun a ha _ => ho _ _ _ (p a _ _ ha (.new (t := t) ha) .new)
/-- the same, of self -/
theorem set_new {t' : Tag} {nm : Str} {r : List Sm} {Φ : PS} {Ψ : PX} (A : Cls G C as) (X : At o σ t x (.inst C d)) (D : At o σ t d (.ns l)) (l1 : ρ.lookup (Str.ofString "self") = some (.ref x)) (ha : nm ∈ as) (hz : l.length < 1000)
    (p : ∀ a o' σ', At o' σ' t x (.inst C d) → At o' σ' t d (.ns (putA nm (.ref a) l)) → At o' σ' t' a (.list []) → Chg (· = t) o σ o' σ' → (∀ T o₀ σ₀, Chg T o₀ σ₀ o σ → σ₀ d = none → Chg T o₀ σ₀ o' σ') → tss G n r ρ σ' Φ Ψ) : tss G n (.sattr (.nm "self") nm (.list []) :: r) ρ σ Φ Ψ :=
  g_setL t' (fun _ => ev_nm l1) fun a o₁ σ₁ _ c R => set_at A (X.chg c id) (D.chg c id) ha hz fun σ₂ e c2 c3 D2 => p a o₁ σ₂ (e _ _ _ (X.chg c id) (X.ne_kind D (by simp))) D2 (e _ _ _ R (R.ne_kind (D.chg c id) (by simp))) ((c.mono fun _ z => z.elim).trans (c3 _ rfl)) fun T o₀ σ₀ h z => c2 T o₀ σ₀ (h.trans (c.mono fun _ z => z.elim)) z
theorem g_setD {ob : Ex} {w : AV} {r : List Sm} {Φ : PS} {Ψ : PX} (t : Tag) (ho : ∀ σ', Ev G n ρ σ' ob w) (p : ∀ a o' σ', Chg (fun _ => False) o σ o' σ' → At o' σ' t a (.dictI []) → sattrV G w k (.ref a) σ' fun σ₃ => tss G n r ρ σ₃ Φ Ψ) : tss G n (.sattr ob k (.dict [] []) :: r) ρ σ Φ Ψ := by
  rw [bl_sattr, tv_dict0]
  exact fun a ha => ho _ _ _ (p a _ _ (.new (t := t) ha) .new)
/-- a thing is put at a list's end -/
theorem g_app {a e : Ex} {vs : List AV} {r : List Sm} {Φ : PS} {Ψ : PX} (ha : Ev G n ρ σ a (.ref x)) (hx : σ x = some (.list vs)) (he : Ev G n ρ σ e v) (hz : vs.length < sizeLine) (p : tss G n r ρ (upd σ x (.list (vs ++ [v]))) Φ Ψ) : tss G n (.expr (.meth a "append" [e]) :: r) ρ σ Φ Ψ := by
  rw [bl_expr, tv_meth]
  refine ha _ _ (app_lst hx ?_)
  rw [sq_cons]
  refine he _ _ ?_
  rw [sq_nil, hx]
  exact lm_app hz p
/-- a list of one thing is put at a list's end -/
theorem g_appL {a e : Ex} {vs : List AV} {r : List Sm} {Φ : PS} {Ψ : PX} (ha : Ev G n ρ σ a (.ref x)) (hx : σ x = some (.list vs)) (he : ∀ P : PE, (∀ v σ₁, (∀ b, σ₁ b = none → ∃ us, upd σ₁ b (.list [v]) x = some (.list us) ∧ us.length < sizeLine ∧ tss G n r ρ (upd (upd σ₁ b (.list [v])) x (.list (us ++ [.ref b]))) Φ Ψ) → P v σ₁) → (tr G n e).v ρ σ P (fun c σ₁ => Ψ c ρ σ₁)) : tss G n (.expr (.meth a "append" [.list [e]]) :: r) ρ σ Φ Ψ := by
  have h2 : ∀ v σ₁, (∀ b, σ₁ b = none → ∃ us, upd σ₁ b (.list [v]) x = some (.list us) ∧ us.length < sizeLine ∧ tss G n r ρ (upd (upd σ₁ b (.list [v])) x (.list (us ++ [.ref b]))) Φ Ψ) → newList σ₁ [v] (fun w σ₂ => match σ₂ x with | some (.list vs) => listM "append" x vs [w] σ₂ (fun _ σ₃ => tss G n r ρ σ₃ Φ Ψ) | _ => False) := fun v σ₁ h => new_lst (Nat.le_of_ble_eq_true rfl) fun b hb _ => by
    obtain ⟨us, e1, e2, e3⟩ := h b hb
    rw [e1]
    exact lm_app e2 e3
  rw [bl_expr, tv_meth]
  refine ha _ _ (app_lst hx ?_)
  rw [sq_cons, tv_list, sq_cons]
  exact he _ h2
/-- a method of an instance is called -/
theorem ev_meth {a : Ex} {as : List Ex} {us : List AV} {m : Str} {ps : List Str} {code : List Sm} {f : Addr} (M : Mt G C m ps code f) (ha : Ev G n ρ σ a (.ref x)) (hx : σ x = some (.inst C d)) (hd : σ d = some (.ns l)) (hl : l.lookup m = none) (hs : Es G n ρ σ as us) (p : WC G n (.ref f) (.ref x :: us) σ Φ Ψ) : (tr G n (.meth a m as)).v ρ σ Φ Ψ := by
  rw [tv_meth]
  exact ha _ _ (mt_call M hx hd hl (hs _ _ p))
theorem g_asgM {a : Ex} {as : List Ex} {us : List AV} {m y : Str} {ps : List Str} {code r : List Sm} {f : Addr} {Φ : PS} {Ψ : PX} (M : Mt G C m ps code f) (ha : Ev G n ρ σ a (.ref x)) (hx : σ x = some (.inst C d)) (hd : σ d = some (.ns l)) (hl : l.lookup m = none) (hs : Es G n ρ σ as us) (p : WC G n (.ref f) (.ref x :: us) σ (fun v σ₁ => tss G n r (putA y v ρ) σ₁ Φ Ψ) (fun c σ₁ => Ψ c ρ σ₁)) : tss G n (.asg y (.meth a m as) :: r) ρ σ Φ Ψ := ev_meth M ha hx hd hl hs p
theorem g_exprM {a : Ex} {as : List Ex} {us : List AV} {m : Str} {ps : List Str} {code r : List Sm} {f : Addr} {Φ : PS} {Ψ : PX} (M : Mt G C m ps code f) (ha : Ev G n ρ σ a (.ref x)) (hx : σ x = some (.inst C d)) (hd : σ d = some (.ns l)) (hl : l.lookup m = none) (hs : Es G n ρ σ as us) (p : WC G n (.ref f) (.ref x :: us) σ (fun _ σ₁ => tss G n r ρ σ₁ Φ Ψ) (fun c σ₁ => Ψ c ρ σ₁)) : tss G n (.expr (.meth a m as) :: r) ρ σ Φ Ψ := ev_meth M ha hx hd hl hs p
theorem g_retM {a : Ex} {as : List Ex} {us : List AV} {m : Str} {ps : List Str} {code r : List Sm} {f : Addr} {Φ : PS} {Ψ : PX} (M : Mt G C m ps code f) (ha : Ev G n ρ σ a (.ref x)) (hx : σ x = some (.inst C d)) (hd : σ d = some (.ns l)) (hl : l.lookup m = none) (hs : Es G n ρ σ as us) (p : WC G n (.ref f) (.ref x :: us) σ (fun v σ₁ => Φ (.ret v) ρ σ₁) (fun c σ₁ => Ψ c ρ σ₁)) : tss G n (.ret (some (.meth a m as)) :: r) ρ σ Φ Ψ := ev_meth M ha hx hd hl hs p
theorem si_nat {vs : List AV} {i : Nat} {Φ : Sto → Prop} (hx : σ x = some (.list vs)) (h1 : i < vs.length) (hz : vs.length < 1000000) (p : Φ (upd σ x (.list (vs.set i v)))) : sitemV (.ref x) (.int i) v σ Φ := si_list hx (by first | decide | (with_reducible first | exact lv hn | exact lv1 hn | exact lv2 hn | exact Int.natCast_nonneg _) | omega) (by first | decide | (with_reducible first | exact lv hn | exact lv1 hn | exact lv2 hn | exact Int.natCast_nonneg _) | omega) (by first | decide | (with_reducible first | exact lv hn | exact lv1 hn | exact lv2 hn | exact Int.natCast_nonneg _) | omega) (by rw [Int.toNat_natCast]; exact p)
/-- an attribute is set to two lists, one behind the other -/
theorem g_addL {ob a b : Ex} {w : AV} {vs us : List AV} {y z : Addr} {r : List Sm} {Φ : PS} {Ψ : PX} (t : Tag) (ho : ∀ {σ'}, Ev G n ρ σ' ob w) (ha : Ev G n ρ σ a (.ref y)) (hb : Ev G n ρ σ b (.ref z)) (hy : lstOf σ y = some vs) (hz : lstOf σ z = some us) (hl : (vs ++ us).length ≤ sizeLine) (p : ∀ a o' σ', σ a = none → Chg (fun _ => False) o σ o' σ' → At o' σ' t a (.list (vs ++ us)) → sattrV G w k (.ref a) σ' fun σ₃ => tss G n r ρ σ₃ Φ Ψ) : tss G n (.sattr ob k (.bin .Add a b) :: r) ρ σ Φ Ψ := by
  rw [bl_sattr, tv_bin]
  refine ha _ _ (hb _ _ ?_)
  rw [bn_lst hy hz]
  exact new_lst hl fun a ha _ => ho _ _ (p a _ _ ha (.new (t := t) ha) .new)
/-- a new empty list by its name -/
theorem g_asgL {y : Str} {r : List Sm} {Φ : PS} {Ψ : PX} (t : Tag) (p : ∀ a o' σ', σ a = none → Chg (fun _ => False) o σ o' σ' → At o' σ' t a (.list []) → tss G n r (putA y (.ref a) ρ) σ' Φ Ψ) : tss G n (.asg y (.list []) :: r) ρ σ Φ Ψ := by
  rw [bl_asg, tv_list, sq_nil]
  exact new_lst (Nat.zero_le _) fun a ha _ => p a _ _ ha (.new (t := t) ha) .new
theorem g_pop {a e : Ex} {vs : List AV} {r : List Sm} {Φ : PS} {Ψ : PX} {i : Nat} (ha : Ev G n ρ σ a (.ref x)) (hx : σ x = some (.list vs)) (he : Ev G n ρ σ e (.int i)) (hz : vs.length < 1000000) (hv : vs[i]? = some v) (p : tss G n r ρ (upd σ x (.list (vs.eraseIdx i))) Φ Ψ) : tss G n (.expr (.meth a "pop" [e]) :: r) ρ σ Φ Ψ := by
  have hi := (List.getElem?_eq_some_iff.mp hv).1
  rw [bl_expr, tv_meth]
  refine ha _ _ (mm_lst hx (.inr (.inl rfl)) ?_)
  rw [sq_cons]
  refine he _ _ ?_
  rw [sq_nil, hx]
  exact lm_pop (by first | decide | (with_reducible first | exact lv hn | exact lv1 hn | exact lv2 hn | exact Int.natCast_nonneg _) | omega) (by first | decide | (with_reducible first | exact lv hn | exact lv1 hn | exact lv2 hn | exact Int.natCast_nonneg _) | omega) (by first | decide | (with_reducible first | exact lv hn | exact lv1 hn | exact lv2 hn | exact Int.natCast_nonneg _) | omega) (Nat.le_of_lt (Nat.lt_trans hz (by decide))) (by rw [Int.toNat_natCast]; exact hv) (by rw [Int.toNat_natCast]; exact p)
theorem g_popA {a e : Ex} {y : Str} {vs : List AV} {r : List Sm} {Φ : PS} {Ψ : PX} {i : Nat} (ha : Ev G n ρ σ a (.ref x)) (hx : σ x = some (.list vs)) (he : Ev G n ρ σ e (.int i)) (hz : vs.length < 1000000) (hv : vs[i]? = some v) (p : tss G n r (putA y v ρ) (upd σ x (.list (vs.eraseIdx i))) Φ Ψ) : tss G n (.asg y (.meth a "pop" [e]) :: r) ρ σ Φ Ψ := by
  have hi := (List.getElem?_eq_some_iff.mp hv).1
  rw [bl_asg, tv_meth]
  refine ha _ _ (mm_lst hx (.inr (.inl rfl)) ?_)
  rw [sq_cons]
  refine he _ _ ?_
  rw [sq_nil, hx]
  exact lm_pop (by first | decide | (with_reducible first | exact lv hn | exact lv1 hn | exact lv2 hn | exact Int.natCast_nonneg _) | omega) (by first | decide | (with_reducible first | exact lv hn | exact lv1 hn | exact lv2 hn | exact Int.natCast_nonneg _) | omega) (by first | decide | (with_reducible first | exact lv hn | exact lv1 hn | exact lv2 hn | exact Int.natCast_nonneg _) | omega) (Nat.le_of_lt (Nat.lt_trans hz (by decide))) (by rw [Int.toNat_natCast]; exact hv) (by rw [Int.toNat_natCast]; exact p)
theorem g_while {c : Ex} {body r : List Sm} {Φ : PS} {Ψ : PX} (I : Nat → Loc → Sto → Prop) (k₀ : Nat) (i0 : I k₀ ρ σ)
    (turn : ∀ k ρ₂ σ₂ (K : PS), I k ρ₂ σ₂ → (∀ k' ρ₄ σ₄, k' < k → I k' ρ₄ σ₄ → K .next ρ₄ σ₄) → (Et G n ρ₂ σ₂ c false ∧ tss G n r ρ₂ σ₂ Φ Ψ) ∨ (Et G n ρ₂ σ₂ c true ∧ tss G n body ρ₂ σ₂ K Ψ)) : tss G n (.while_ c body :: r) ρ σ Φ Ψ := by
  rw [bl_while]
  refine ⟨I, ⟨k₀, i0⟩, fun k ρ₂ σ₂ hI => ?_⟩
  have h := turn k ρ₂ σ₂ (fun fl ρ₄ σ₄ => match fl with | .next => ∃ k', k' < k ∧ I k' ρ₄ σ₄ | .cont => ∃ k', k' < k ∧ I k' ρ₄ σ₄ | .brk => aft G n r Φ Ψ .next ρ₄ σ₄ | .ret a => aft G n r Φ Ψ (.ret a) ρ₄ σ₄) hI fun k' ρ₄ σ₄ h1 h2 => ⟨k', h1, h2⟩
  exact h.elim (fun h => h.1 _ _ h.2) fun h => h.1 _ _ h.2
/-- list(..) -/
theorem g_retL {a : Ex} {y : Addr} {vs : List AV} {r : List Sm} {Φ : PS} {Ψ : PX} (ha : Ev G n ρ σ a (.ref y)) (hy : lstOf σ y = some vs) (hz : vs.length ≤ sizeLine) (p : ∀ a, σ a = none → Ext σ (upd σ a (.list vs)) → Φ (.ret (.ref a)) ρ (upd σ a (.list vs))) : tss G n (.ret (some (.bi "list" [a])) :: r) ρ σ Φ Ψ := by
  rw [bl_ret, tv_bi, sq_cons]
  exact ha _ _ (bi_list hy hz p)
theorem Mk.bd {name : Str} {args : List AV} {ps : List Str} {code : List Sm} (t : Tag) (F : Mk G name C ps code) (hl : args.length + 1 = ps.length)
    (h : ∀ x d ρ o₁ σ₁ (K : PS) X, (∀ y v, (ps.zip (.ref x :: args)).lookup y = some v → ρ.lookup y = some v) → Chg (fun _ => False) o σ o₁ σ₁ → At o₁ σ₁ t x (.inst C d) → At o₁ σ₁ t d (.ns []) → σ d = none → (∀ ρ' σ', Φ (.ref x) σ' → K .next ρ' σ') → tss G n code ρ σ₁ K X) : WC G (n + 2) (.ref C) args σ Φ Ψ :=
  F.wc hl fun x d hx hd hne => by
    have hx' : upd σ d (.ns []) x = none := by rw [upd_ne fun z => hne z.symm]; exact hx
    have c1 : Chg (fun _ => False) o σ (setO o d t) (upd σ d (.ns [])) := .new hd
    have A1 : At (setO o d t) (upd σ d (.ns [])) t d (.ns []) := .new
    exact h x d _ (setO (setO o d t) x t) _ _ _ (fun _ _ e => e) (c1.trans (.new hx')) .new (A1.fresh hx') hd fun _ _ p => ⟨rfl, p⟩
end
end Mine
set_option maxRecDepth 100000
set_option linter.unusedSimpArgs false
set_option linter.unusedVariables false
namespace Mine
open PySem PyProof.Rows

noncomputable def c_law_whole : List Sm := [.ret (some (.and_ [(.bi "isinstance" [(.nm "_law_found"), (.gl "int")]), (.not_ (.bi "isinstance" [(.nm "_law_found"), (.gl "bool")]))]))]
noncomputable def c_law_cell_at : List Sm := [.ite (.cmp .Lt (.nm "_law_k") (.bi "len" [(.nm "_law_script")])) [.ret (some (.sub (.nm "_law_script") (.nm "_law_k")))] [], .ret (some (.cst (.int (0))))]
noncomputable def c_law_mark : List Sm := [.ite (.or_ [(.not_ (.bi "isinstance" [(.nm "_law_found"), (.gl "tuple")])), (.cmp .NotEq (.bi "len" [(.nm "_law_found")]) (.cst (.int (2))))]) [.ret (some (.cst (.bool false)))] [], .ret (some (.and_ [(.call "_law_whole" [(.sub (.nm "_law_found") (.cst (.int (0))))]), (.call "_law_whole" [(.sub (.nm "_law_found") (.cst (.int (1))))])]))]
noncomputable def c_law_mail : List Sm := [.ite (.or_ [(.not_ (.bi "isinstance" [(.nm "_law_found"), (.gl "tuple")])), (.cmp .NotEq (.bi "len" [(.nm "_law_found")]) (.cst (.int (5)))), (.not_ (.bi "isinstance" [(.sub (.nm "_law_found") (.cst (.int (0)))), (.gl "str")]))]) [.ret (some (.cst (.bool false)))] [], .ite (.or_ [(.not_ (.call "_law_whole" [(.sub (.nm "_law_found") (.cst (.int (1))))])), (.not_ (.call "_law_whole" [(.sub (.nm "_law_found") (.cst (.int (2))))])), (.not_ (.call "_law_whole" [(.sub (.nm "_law_found") (.cst (.int (3))))]))]) [.ret (some (.cst (.bool false)))] [], .ret (some (.or_ [(.cmp .Is (.sub (.nm "_law_found") (.cst (.int (4)))) (.cst .none)), (.call "_law_mark" [(.sub (.nm "_law_found") (.cst (.int (4))))])]))]

section
variable {G : PG} {n : Nat} {σ : Sto} {Φ : PE} {Ψ : PY} {f : Addr}
theorem whole_is {i : Int} (F : Fn1 G "_law_whole" ["_law_found"] c_law_whole f) : CallIs G (n + 1) f [.int i] σ (.bool true) := fun Φ Ψ h =>
  F.bd rfl fun ρ K X L hr _ _ => g_ret (ev_andT (ev_bi (es_cons (ev_nm (L _ _ rfl)) (es_cons (ev_gl d_int) es_nil)) (d_isi rfl rfl)) (ev_and1 (ev_notT (ev_bi (es_cons (ev_nm (L _ _ rfl)) (es_cons (ev_gl d_bool) es_nil)) (d_isi rfl rfl))))) (hr _ _ _ h)
/-- a mark -/
noncomputable def mk (p : Int × Int) : AV := .tup [.int p.1, .int p.2]
noncomputable def mkD (p : Int × Int) : PyData := .tuple [.int p.1, .int p.2]
theorem datum_mk {σ : Sto} {k : Nat} (p : Int × Int) : datum σ (k + 2) (mk p) = some (mkD p) := by simp [datum, mk, mapO, mkD]
theorem can_mk (p : Int × Int) : (mkD p).canLay0 = true := by simp [mkD, PyData.canLay0, PyData.canLayAll0]
theorem mark_is {g : Addr} {p : Int × Int} (F : Fn1 G "_law_mark" ["_law_found"] c_law_mark f) (W : Fn1 G "_law_whole" ["_law_found"] c_law_whole g) : CallIs G (n + 2) f [mk p] σ (.bool true) := fun Φ Ψ h =>
  F.bd rfl fun ρ K X L hr _ _ => g_if0 (et_or (eo_F (et_notF (et_bi (ev_bi (es_cons (ev_nm (L _ _ rfl)) (es_cons (ev_gl d_tuple) es_nil)) (d_isi (q := true) rfl rfl)))) (eo_F (et_cmp (ev_bi (es_cons (ev_nm (L _ _ rfl)) es_nil) (d_lenT (Nat.lt_of_sub_eq_succ rfl))) ev_cst (d_neF rfl)) eo_nil)))
    (g_ret (ev_andT (ev_call W (es_cons (ev_sub (ev_nm (L _ _ rfl)) ev_cst d_0) es_nil) (whole_is W)) (ev_and1 (ev_call W (es_cons (ev_sub (ev_nm (L _ _ rfl)) ev_cst d_1) es_nil) (whole_is W)))) (hr _ _ _ h))
/-- a mail: a word, three whole numbers, a mark or none -/
noncomputable def mail (w : Str) (a b c : Int) (m : Option (Int × Int)) : AV := .tup [.str w, .int a, .int b, .int c, match m with | none => .none | some p => mk p]
noncomputable def mailD (w : Str) (a b c : Int) (m : Option (Int × Int)) : PyData := .tuple [.str w, .int a, .int b, .int c, match m with | none => .none | some p => mkD p]
theorem datum_mail {σ : Sto} {k : Nat} (w : Str) (a b c : Int) (m : Option (Int × Int)) : datum σ (k + 3) (mail w a b c m) = some (mailD w a b c m) := by
  cases m with
  | none => simp [mail, mailD, datum, mapO]
  | some p => simp [mail, mailD, datum, mapO, datum_mk]
theorem can_mail {w : Str} {a b c : Int} {m : Option (Int × Int)} (h : PyData.strOk w = true) : (mailD w a b c m).canLay0 = true := by
  cases m <;> simp [mailD, PyData.canLay0, PyData.canLayAll0, h, can_mk]
theorem idx3 {α : Type} (a b c d : α) (r : List α) : idx (a :: b :: c :: d :: r) 3 = some d := idx_nat (by first | decide | (with_reducible first | exact lv hn | exact lv1 hn | exact lv2 hn | exact Int.natCast_nonneg _) | omega) rfl
theorem mail_is {g gm : Addr} {w : Str} {a b c : Int} {m : Option (Int × Int)} (F : Fn1 G "_law_mail" ["_law_found"] c_law_mail f) (M : Fn1 G "_law_mark" ["_law_found"] c_law_mark gm) (W : Fn1 G "_law_whole" ["_law_found"] c_law_whole g) : CallIs G (n + 3) f [mail w a b c m] σ (.bool true) := fun Φ Ψ h =>
  F.bd rfl fun ρ K X L hr _ _ => g_if0 (et_or (eo_F (et_notF (et_bi (ev_bi (es_cons (ev_nm (L _ _ rfl)) (es_cons (ev_gl d_tuple) es_nil)) (d_isi (q := true) rfl rfl)))) (eo_F (et_cmp (ev_bi (es_cons (ev_nm (L _ _ rfl)) es_nil) (d_lenT (Nat.lt_of_sub_eq_succ rfl))) ev_cst (d_neF rfl)) (eo_F (et_notF (et_bi (ev_bi (es_cons (ev_sub (ev_nm (L _ _ rfl)) ev_cst d_0) (es_cons (ev_gl d_str) es_nil)) (d_isi (q := true) rfl rfl)))) eo_nil))))
    (g_if0 (et_or (eo_F (et_notF (et_call (ev_call W (es_cons (ev_sub (ev_nm (L _ _ rfl)) ev_cst d_1) es_nil) (whole_is W)))) (eo_F (et_notF (et_call (ev_call W (es_cons (ev_sub (ev_nm (L _ _ rfl)) ev_cst d_2) es_nil) (whole_is W)))) (eo_F (et_notF (et_call (ev_call W (es_cons (ev_sub (ev_nm (L _ _ rfl)) ev_cst d_3) es_nil) (whole_is W)))) eo_nil))))
    (g_ret (v := .bool true) (by
      cases m with
      | none => exact ev_orT (ev_cmp (ev_sub (ev_nm (L _ _ rfl)) ev_cst d_4) ev_cst (d_none rfl))
      | some p => exact ev_orF (ev_cmp (ev_sub (ev_nm (L _ _ rfl)) ev_cst d_4) ev_cst (d_none rfl)) (ev_or1 (ev_call M (es_cons (ev_sub (ev_nm (L _ _ rfl)) ev_cst d_4) es_nil) (mark_is M W)))) (hr _ _ _ h)))
end
end Mine
set_option maxRecDepth 100000
namespace Mine
open PySem PyProof.Rows

noncomputable def vNone : Value → Bool
  | .none => true
  | _ => false
noncomputable def dFunc : Data → Option FuncData
  | .func fd => some fd
  | _ => none
noncomputable def dFields : Data → Option (Array Value)
  | .fields vs => some vs
  | _ => none
noncomputable def bStmts : FuncBody → Option (List Stmt)
  | .stmts b => some b
  | _ => none
noncomputable def vRef : Value → Option Addr
  | .ref a => some a
  | _ => none
noncomputable def vStr : Value → Option Str
  | .str q _ => some q
  | _ => none
noncomputable def fnOk (K : W.Frag) (f : Addr) : Option (Bool × Option (List Sm) × List Str) :=
  (K.lookup f).bind fun o => (dFunc o.data).bind fun fd => (bStmts fd.body).bind fun body => (vRef fd.code).bind fun cd => (K.lookup cd).bind fun oc => (dFields oc.data).bind fun vs => (vs[1]?).bind fun v => (vStr v).bind fun q =>
    some (q == fd.qualname && vNone fd.defaults && fd.closure.isEmpty && fd.globals == mainGlobals && fd.builtins == builtinsNs && defOk fd.params fd.scope, cL (cS 60 fd.scope) body, fd.params.args.map (·.arg))
theorem dFunc_of {d : Data} {x : FuncData} (h : dFunc d = some x) : d = .func x := by
  unfold dFunc at h; split at h
  · cases h; rfl
  · cases h
theorem dFields_of {d : Data} {x : Array Value} (h : dFields d = some x) : d = .fields x := by
  unfold dFields at h; split at h
  · cases h; rfl
  · cases h
theorem bStmts_of {d : FuncBody} {x : List Stmt} (h : bStmts d = some x) : d = .stmts x := by
  unfold bStmts at h; split at h
  · cases h; rfl
  · cases h
theorem vRef_of {d : Value} {x : Addr} (h : vRef d = some x) : d = .ref x := by
  unfold vRef at h; split at h
  · cases h; rfl
  · cases h
theorem vStr_of {d : Value} {x : Str} (h : vStr d = some x) : ∃ t, d = .str x t := by
  unfold vStr at h; split at h
  · cases h; exact ⟨_, rfl⟩
  · cases h
theorem fnOk_def {G : PG} {f : Addr} {code : List Sm} {ps : List Str} (h : fnOk G.K f = some (true, some code, ps)) : ∃ fd body, IsDef G f fd body ∧ cL (cS 60 fd.scope) body = some code ∧ fd.params.args.map (·.arg) = ps := by
  unfold fnOk at h
  obtain ⟨o, ho, h⟩ := Option.bind_eq_some_iff.mp h
  obtain ⟨fd, h10, h⟩ := Option.bind_eq_some_iff.mp h
  obtain ⟨body, h11, h⟩ := Option.bind_eq_some_iff.mp h
  obtain ⟨cd, h12, h⟩ := Option.bind_eq_some_iff.mp h
  obtain ⟨oc, hoc, h⟩ := Option.bind_eq_some_iff.mp h
  obtain ⟨vs, h14, h⟩ := Option.bind_eq_some_iff.mp h
  obtain ⟨v, h15, h⟩ := Option.bind_eq_some_iff.mp h
  obtain ⟨q, h16, h⟩ := Option.bind_eq_some_iff.mp h
  have hc := vRef_of h12
  obtain ⟨t, hv⟩ := vStr_of h16
  simp only [Option.some.injEq, Prod.mk.injEq, Bool.and_eq_true, List.isEmpty_iff, beq_iff_eq] at h
  obtain ⟨⟨⟨⟨⟨⟨h1, h2⟩, h3⟩, h4⟩, h5⟩, h6⟩, h7, h8⟩ := h
  refine ⟨fd, body, ?_, h7, h8⟩
  have hd : fd.defaults = .none := by
    cases q : fd.defaults <;> rw [q] at h2 <;> first | rfl | cases h2
  unfold defOk at h6
  simp only [Bool.and_eq_true, List.isEmpty_iff, Option.isNone_iff_eq_none, decide_eq_true_eq, Bool.not_eq_true', beq_iff_eq, List.all_eq_true, bne_iff_ne] at h6
  obtain ⟨⟨⟨⟨⟨⟨⟨⟨⟨⟨g1, g2⟩, g3⟩, g4⟩, g5⟩, g6⟩, g7⟩, g8⟩, g9⟩, g10⟩, g11⟩ := h6
  exact { at_ := fun t => ⟨_, G.inK t _ _ ho, dFunc_of h10⟩, code := fun t => ⟨cd, _, vs, _, hc, G.inK t _ _ hoc, dFields_of h14, by rw [h15, hv, ← h1]⟩, body := bStmts_of h11, params := ⟨g1, g2, g3, g4, g5⟩, dflt := hd, clo := h3, glob := h4, bltn := h5, co := g6, gen := g7, kind := g8
          pk := fun x hx => isLocB_of (g9 x hx), nofree := fun x e => g10 _ (mem_of_lookup e) rfl, nodup := fun n => cells_nodup _ _ _ g11 List.nodup_nil (fun x hx => nomatch hx) }
noncomputable def mtOk (K : W.Frag) (C f : Addr) (m : Str) : Bool := W.plainGet K C m && W.findIn K (.ref C) m == some (some (.ref f)) && W.isFn K (.ref f) && W.keepIn K (.ref f)
noncomputable def MtIs (K : W.Frag) (C f : Addr) (m : Str) (ps : List Str) (code : List Sm) : Prop := (mtOk K C f m, fnOk K f) = (true, some (true, some code, ps))
theorem mt_of {G : PG} {C f : Addr} {m : Str} {code : List Sm} {ps : List Str} (h : MtIs G.K C f m ps code) : Mt G C m ps code f := by
  unfold MtIs at h
  simp only [Prod.mk.injEq] at h
  obtain ⟨h1, h2⟩ := h
  unfold mtOk at h1
  simp only [Bool.and_eq_true, beq_iff_eq] at h1
  exact ⟨h1.1.1.1, h1.1.1.2, h1.1.2, h1.2, fnOk_def h2⟩
noncomputable def mkOk (K : W.Frag) (C f : Addr) : Bool := W.keepIn K (.ref C) && W.makesIn K C && W.findIn K (.ref C) "__init__" == some (some (.ref f)) && W.typeIn K (.ref f) == some (.type "function")
noncomputable def MkIs (K : W.Frag) (C f : Addr) (ps : List Str) (code : List Sm) : Prop := (mkOk K C f, fnOk K f) = (true, some (true, some code, ps))
theorem mk_of {G : PG} {C f : Addr} {x : Str} {code : List Sm} {ps : List Str} (hg : G.mg x = some (.ref C)) (h : MkIs G.K C f ps code) : Mk G x C ps code := by
  unfold MkIs at h
  simp only [Prod.mk.injEq] at h
  obtain ⟨h1, h2⟩ := h
  unfold mkOk at h1
  simp only [Bool.and_eq_true, beq_iff_eq] at h1
  exact ⟨hg, h1.1.1.1, h1.1.1.2, f, h1.1.2, h1.2, fnOk_def h2⟩
noncomputable def clsOk (K : W.Frag) (C : Addr) (as : List Str) : Bool := W.plainGet K C "" && W.hasDictIn K C && as.all (fun a => W.findIn K (.ref C) a == some none) && W.findIn K (.ref C) "__setattr__" == some (some (.builtin "object.__setattr__")) && W.plainOver K C
theorem cls_of {G : PG} {C : Addr} {as : List Str} (h : clsOk G.K C as = true) : Cls G C as := by
  unfold clsOk at h
  simp only [Bool.and_eq_true, beq_iff_eq, List.all_eq_true] at h
  exact ⟨h.1.1.1.1, h.1.1.1.2, h.1.1.2, h.1.2, h.2⟩
/-- an exception class of ours, by the top -/
theorem exc_top {p : Program} {loose : List Str} {mean : ExcName → Option Value} {mg mb : Str → Option Value} {h : Heap} {G : PG} (T : Top p loose mean mg mb h) (hmg : G.mg = mg) (hT : ∀ {B : Heap}, G.T B → h.StaysIn B) {x : Str} {C : Addr} (hC : mg x = some (.ref C))
    (ho : ((ownsOf p).find? fun o => o.name == x).map (fun o => (o.bm, o.newId)) = some (bmVE, "ValueError.__new__")) : ExcOk G x C := by
  intro B hB
  obtain ⟨o, hf, he⟩ := Option.map_eq_some_iff.mp ho
  have hm := List.mem_of_find?_eq_some hf
  have hname : o.name = x := by simpa using List.find?_some hf
  simp only [Prod.mk.injEq] at he
  obtain ⟨C', O, _⟩ := T.own o hm
  rw [hname, he.1, he.2] at O
  have e : C' = C := by
    have := O.bound
    rw [hC] at this
    cases this; rfl
  subst e
  rw [hmg]
  exact O.own.keeps (hT hB)
/-- the globals as the fragment has them -/
noncomputable def globK (K : W.Frag) (x : Str) : Option Value := match K.lookup mainGlobals with
  | some ⟨_, _, .dict es _, _⟩ => nsFind es x
  | _ => none
theorem globK_of {K : W.Frag} {h : Heap} {mg : Str → Option Value} (X : W.Frag.In K h) (g : h.Ns mainGlobals mg) (hK : (K.lookup mainGlobals).isSome = true) (x : Str) : mg x = globK K x := by
  obtain ⟨o, es, ep, ho, hd, _, hm⟩ := g
  obtain ⟨o', h3⟩ := Option.isSome_iff_exists.mp hK
  have h3' := X _ _ h3
  rw [ho] at h3'
  cases h3'
  unfold globK
  rw [h3]
  obtain ⟨c, d, dt, sl⟩ := o
  simp only at hd
  subst hd
  exact (hm x).symm
end Mine
set_option maxRecDepth 100000
set_option linter.unusedSimpArgs false
set_option linter.unusedVariables false
namespace Mine
open PySem PyProof.Rows

noncomputable def cDesk___init__ : List Sm := [.sattr (.nm "self") "hand" (.nm "hand"), .sattr (.nm "self") "hours" (.cst (.int (0))), .sattr (.nm "self") "rows" (.list []), .sattr (.nm "self") "known" (.dict [] []), .sattr (.nm "self") "gone" (.list [])]
noncomputable def cDesk_propose : List Sm := [.ite (.cmp .In (.nm "letter") (.attr (.nm "self") "known")) [.raise "Twice" "it was met before"] [], .sitem (.attr (.nm "self") "known") (.nm "letter") (.cst (.bool true)), .sattr (.nm "self") "hours" (.bin .Add (.attr (.nm "self") "hours") (.cst (.int (1)))), .expr (.meth (.attr (.nm "self") "rows") "append" [(.tup [(.tup [(.attr (.nm "self") "hours"), (.attr (.nm "self") "hand")]), (.nm "letter"), (.cst (.bool false))])]), .ret (some (.tup [(.attr (.nm "self") "hours"), (.attr (.nm "self") "hand")]))]
noncomputable def cDesk_handed : List Sm := [.ret (some (.bi "list" [(.attr (.nm "self") "gone")]))]
noncomputable def cDesk_clock : List Sm := [.ret (some (.attr (.nm "self") "hours"))]

set_option genInjectivity false in
structure DA where
  x : Addr
  d : Addr
  r : Addr
  k : Addr
  g : Addr
abbrev Row := (Int × Int) × Int × Bool
set_option genInjectivity false in
structure Dk where
  hand : Int
  hours : Int
  rows : List Row
  known : List Int
  gone : List Int
noncomputable def rowAV (r : Row) : AV := .tup [mk r.1, .int r.2.1, .bool r.2.2]
noncomputable def knownC (ks : List Int) : List (Int × AV) := ks.map fun k => (k, .bool true)
noncomputable def deskNs (D : DA) (hand hours : Int) : List (Str × AV) := [("hand", .int hand), ("hours", .int hours), ("rows", .ref D.r), ("known", .ref D.k), ("gone", .ref D.g)]
structure DeskAt (CD : Addr) (o : Own) (σ : Sto) (t : Tag) (D : DA) (s : Dk) : Prop where
  x : At o σ t D.x (.inst CD D.d)
  d : At o σ t D.d (.ns (deskNs D s.hand s.hours))
  r : At o σ t D.r (.list (s.rows.map rowAV))
  k : At o σ t D.k (.dictI (knownC s.known))
  g : At o σ t D.g (.list (s.gone.map .int))
  ne : D.r ≠ D.g
theorem DeskAt.chg {CD : Addr} {o o' : Own} {σ σ' : Sto} {t : Tag} {D : DA} {s : Dk} {T : Tag → Prop} (x : DeskAt CD o σ t D s) (h : Chg T o σ o' σ') (n : ¬ T t) : DeskAt CD o' σ' t D s :=
  ⟨x.x.chg h n, x.d.chg h n, x.r.chg h n, x.k.chg h n, x.g.chg h n, x.ne⟩
noncomputable def deskAs : List Str := ["hand", "hours", "rows", "known", "gone"]
noncomputable def Dk.propose (s : Dk) (l : Int) : Dk := { s with hours := s.hours + 1, rows := s.rows ++ [((s.hours + 1, s.hand), l, false)], known := s.known ++ [l] }
theorem known_any (ks : List Int) (k : Int) : ((knownC ks).any fun kv => kv.1 == k) = ks.contains k := by
  induction ks with
  | nil => rfl
  | cons a r ih =>
    rw [show knownC (a :: r) = (a, .bool true) :: knownC r from rfl, List.any_cons, ih, List.contains_cons]
    congr 1
    by_cases q : a = k
    · simp [q]
    · have : k ≠ a := fun z => q z.symm
      rw [beq_eq_false_iff_ne.mpr q, beq_eq_false_iff_ne.mpr this]
theorem known_put (ks : List Int) (k : Int) (h : k ∉ ks) : putI k (.bool true) (knownC ks) = knownC (ks ++ [k]) := by
  induction ks with
  | nil => rfl
  | cons a r ih =>
    have ha : a ≠ k := fun z => h (by simp [z])
    have := ih fun z => h (.tail _ z)
    simp only [knownC, List.map_cons, List.cons_append, putI] at this ⊢
    rw [if_neg ha, this]

section
variable {G : PG} {n : Nat} {ρ : Loc} {σ : Sto} {Φ : PE} {Ψ : PY} {f CD Tw : Addr} {o : Own} {t : Tag} {D : DA} {s : Dk}
noncomputable def DA.setG (D : DA) (g : Addr) : DA := ⟨D.x, D.d, D.r, D.k, g⟩
theorem DeskAt.setRows (S : DeskAt CD o σ t D s) (rows : List Row) : DeskAt CD o (upd σ D.r (.list (rows.map rowAV))) t D { s with rows := rows } ∧ Chg (· = t) o σ o (upd σ D.r (.list (rows.map rowAV))) := by
  have hx := S.x.at_; have hd := S.d.at_; have hr := S.r.at_; have hk := S.k.at_
  refine ⟨⟨S.x.upd ?_, S.d.upd ?_, S.r.put, S.k.upd ?_, S.g.upd (Ne.symm S.ne), S.ne⟩, .put S.r rfl⟩
  · intro z; rw [z, hr] at hx; cases hx
  · intro z; rw [z, hr] at hd; cases hd
  · intro z; rw [z, hr] at hk; cases hk
theorem DeskAt.setHours (S : DeskAt CD o σ t D s) (h : Int) : DeskAt CD o (upd σ D.d (.ns (deskNs D s.hand h))) t D { s with hours := h } ∧ Chg (· = t) o σ o (upd σ D.d (.ns (deskNs D s.hand h))) := by
  have hx := S.x.at_; have hd := S.d.at_; have hr := S.r.at_; have hk := S.k.at_; have hg := S.g.at_
  refine ⟨⟨S.x.upd ?_, S.d.put, S.r.upd ?_, S.k.upd ?_, S.g.upd ?_, S.ne⟩, .put S.d rfl⟩
  · intro z; rw [z, hd] at hx; cases hx
  · intro z; rw [z, hd] at hr; cases hr
  · intro z; rw [z, hd] at hk; cases hk
  · intro z; rw [z, hd] at hg; cases hg
theorem put_hours (D : DA) (a h h' : Int) : putA "hours" (.int h') (deskNs D a h) = deskNs D a h' := by simp [deskNs, putA, strQ]
theorem put_gone (D : DA) (a h : Int) (g : Addr) : putA "gone" (.ref g) (deskNs D a h) = deskNs (D.setG g) a h := by simp [deskNs, putA, strQ, DA.setG]
theorem DeskAt.setKnown (S : DeskAt CD o σ t D s) (ks : List Int) : DeskAt CD o (upd σ D.k (.dictI (knownC ks))) t D { s with known := ks } ∧ Chg (· = t) o σ o (upd σ D.k (.dictI (knownC ks))) :=
  ⟨⟨S.x.upd (S.x.ne_kind S.k (by simp)), S.d.upd (S.d.ne_kind S.k (by simp)), S.r.upd (S.r.ne_kind S.k (by simp)), S.k.put, S.g.upd (S.g.ne_kind S.k (by simp)), S.ne⟩, .put S.k rfl⟩
/-- a desk's attribute -/
theorem DeskAt.attr {k : Str} {v : AV} (A : Cls G CD deskAs) (S : DeskAt CD o σ t D s) (ha : k ∈ deskAs) (hl : (deskNs D s.hand s.hours).lookup k = some v) (hv : v.novalue = true) (l1 : ρ.lookup (Str.ofString "self") = some (.ref D.x)) : Ev G n ρ σ (.attr (.nm "self") k) v := ev_attr (ev_nm l1) (d_attr A S.x.at_ S.d.at_ ha hl hv)
theorem desk_new {hand : Int} (M : Mk G "Desk" CD ["self", "hand"] cDesk___init__) (A : Cls G CD deskAs)
    (h : ∀ D o' σ', Chg (fun _ => False) o σ o' σ' → DeskAt CD o' σ' t D ⟨hand, 0, [], [], []⟩ → Φ (.ref D.x) σ') : WC G (n + 2) (.ref CD) [.int hand] σ Φ Ψ :=
  M.bd t rfl fun x d ρ o₁ σ₁ K X L c X1 D1 hd k =>
    have z : x ≠ d := X1.ne_kind D1 (by simp)
    have l1 := L "self" _ rfl
    g_sattr (ev_nm (L "hand" _ rfl)) (ev_nm l1) (set_at A X1 D1 (by decide) (Nat.le_of_ble_eq_true rfl) fun σ₂ e2 c2 _ D2 =>
    g_sattr ev_cst (ev_nm l1) (set_at A (e2 _ _ _ X1 z) D2 (by decide) (Nat.le_of_ble_eq_true rfl) fun σ₃ e3 c3 _ D3 =>
    g_setL t (fun _ => ev_nm l1) fun r o₄ σ₄ _ c4 R4 => have X4 := (e3 _ _ _ (e2 _ _ _ X1 z) z).chg c4 id; have D4 := D3.chg c4 id
    set_at A X4 D4 (by decide) (Nat.le_of_ble_eq_true rfl) fun σ₅ e5 c5 _ D5 =>
    g_setD t (fun _ => ev_nm l1) fun q o₆ σ₆ c6 Q6 => have X6 := (e5 _ _ _ X4 z).chg c6 id; have D6 := D5.chg c6 id; have R6 := (e5 _ _ _ R4 (R4.ne_kind D4 (by simp))).chg c6 id
    set_at A X6 D6 (by decide) (Nat.le_of_ble_eq_true rfl) fun σ₇ e7 c7 _ D7 =>
    g_setL t (fun _ => ev_nm l1) fun g o₈ σ₈ hg c8 G8 => have X8 := (e7 _ _ _ X6 z).chg c8 id; have D8 := D7.chg c8 id
    have R7 := e7 _ _ _ R6 (R6.ne_kind D6 (by simp)); have R8 := R7.chg c8 id
    have Q8 := (e7 _ _ _ Q6 (Q6.ne_kind D6 (by simp))).chg c8 id
    set_at A X8 D8 (by decide) (Nat.le_of_ble_eq_true rfl) fun σ₉ e9 c9 _ D9 =>
    g_nil (k _ _ (h ⟨x, d, r, q, g⟩ o₈ σ₉ (c9 _ _ _ ((c7 _ _ _ ((c5 _ _ _ ((c3 _ _ _ (c2 _ _ _ c hd) hd).trans c4) hd).trans c6) hd).trans c8) hd) ⟨e9 _ _ _ X8 z, D9, e9 _ _ _ R8 (R8.ne_kind D8 (by simp)), e9 _ _ _ Q8 (Q8.ne_kind D8 (by simp)), e9 _ _ _ G8 (G8.ne_kind D8 (by simp)), R7.off hg⟩))))
theorem propose_ok {l : Int} (hn : 10 ≤ n) (M : Mt G CD "propose" ["self", "letter"] cDesk_propose f) (A : Cls G CD deskAs) (tw : G.mg "Twice" = some (.ref Tw)) (xt : ExcOk G "Twice" Tw) (S : DeskAt CD o σ t D s) (hz : s.rows.length < 10000) (hz' : s.known.length < 10000)
    (h1 : l ∉ s.known → ∀ σ', Chg (· = t) o σ o σ' → DeskAt CD o σ' t D (s.propose l) → Φ (mk (s.hours + 1, s.hand)) σ') (h2 : l ∈ s.known → Rz (Ψ (.ref Tw) σ)) : WC G (n + 1) (.ref f) [.ref D.x, .int l] σ Φ Ψ :=
  M.bd rfl fun ρ K X L hr _ hx => by
    have l1 := L "self" _ rfl
    have l2 := L "letter" _ rfl
    have c : ∀ {q}, s.known.contains l = q → Et G n ρ σ (.cmp .In (.nm "letter") (.attr (.nm "self") "known")) q := fun e => et_cmp (ev_nm l2) (S.attr A (by decide) rfl rfl l1) fun P p => in_dictI (G := G) S.k.at_ (by rw [known_any, e]; exact p)
    by_cases q : l ∈ s.known
    · exact g_iteT (c (List.contains_iff_mem.mpr q)) (do_raise tw hn xt (Rz.to (h2 q) (hx _ _ _)))
    · refine g_if0 (c (eq_false_of_ne_true fun z => q (List.contains_iff_mem.mp z))) (g_sitem ev_cst (S.attr A (by decide) rfl rfl l1) (ev_nm l2) (si_dictI S.k.at_ (by rw [knownC, List.length_map]; exact Nat.lt_trans hz' (by decide)) ?_))
      rw [known_put _ _ q]
      obtain ⟨S1, c1⟩ := S.setKnown (s.known ++ [l])
      generalize upd σ D.k (.dictI (knownC (s.known ++ [l]))) = σ₁ at S1 c1
      refine g_sattr (ev_bin (S1.attr A (by decide) rfl rfl l1) ev_cst d_add) (ev_nm l1) (at_set A S1.x.at_ S1.d.at_ (by decide) (Nat.le_of_ble_eq_true rfl) ?_)
      rw [put_hours]
      obtain ⟨S2, c2⟩ := S1.setHours (s.hours + 1)
      have c2 := c1.trans c2
      generalize upd σ₁ D.d (.ns (deskNs D s.hand (s.hours + 1))) = σ₂ at S2 c2
      have hm : Ev G n ρ σ₂ (.tup [(.attr (.nm "self") "hours"), (.attr (.nm "self") "hand")]) (mk (s.hours + 1, s.hand)) := ev_tup (es_cons (S2.attr A (by decide) rfl rfl l1) (es_cons (S2.attr A (by decide) rfl rfl l1) es_nil)) (Nat.le_of_ble_eq_true rfl)
      refine g_app (S2.attr A (by decide) rfl rfl l1) S2.r.at_ (ev_tup (es_cons hm (es_cons (ev_nm l2) (es_cons ev_cst es_nil))) (Nat.le_of_ble_eq_true rfl)) (by rw [List.length_map]; exact Nat.lt_trans hz (by decide)) ?_
      obtain ⟨S3, c3⟩ := S2.setRows (s.rows ++ [((s.hours + 1, s.hand), l, false)])
      rw [List.map_append] at S3 c3
      exact g_ret (ev_tup (es_cons (S3.attr A (by decide) rfl rfl l1) (es_cons (S3.attr A (by decide) rfl rfl l1) es_nil)) (Nat.le_of_ble_eq_true rfl)) (hr _ _ _ (h1 q _ (c2.trans c3) S3))
theorem clock_ok (M : Mt G CD "clock" ["self"] cDesk_clock f) (A : Cls G CD deskAs) (S : DeskAt CD o σ t D s) (h : Φ (.int s.hours) σ) : WC G (n + 1) (.ref f) [.ref D.x] σ Φ Ψ :=
  M.bd rfl fun ρ K X L hr _ hx => g_ret (S.attr A (by decide) rfl rfl (L _ _ rfl)) (hr _ _ _ h)
theorem handed_ok (M : Mt G CD "handed" ["self"] cDesk_handed f) (A : Cls G CD deskAs) (S : DeskAt CD o σ t D s) (hz : s.gone.length < 10000) (h : ∀ a, σ a = none → Ext σ (upd σ a (.list (s.gone.map .int))) → Φ (.ref a) (upd σ a (.list (s.gone.map .int)))) : WC G (n + 1) (.ref f) [.ref D.x] σ Φ Ψ :=
  M.bd rfl fun ρ K X L hr _ hx => g_retL (S.attr A (by decide) rfl rfl (L _ _ rfl)) S.g.lst (by rw [List.length_map]; exact Nat.le_of_lt (Nat.lt_trans hz (by decide))) fun a ha x => hr _ _ _ (h a ha x)
end
end Mine
set_option maxRecDepth 100000
set_option linter.unusedSimpArgs false
set_option linter.unusedVariables false
namespace Mine
open PySem PyProof.Rows

noncomputable def cless : List Sm := [.ite (.cmp .Eq (.sub (.nm "one") (.cst (.int (0)))) (.sub (.nm "other") (.cst (.int (0))))) [.ret (some (.cmp .Lt (.sub (.nm "one") (.cst (.int (1)))) (.sub (.nm "other") (.cst (.int (1))))))] [], .ret (some (.cmp .Lt (.sub (.nm "one") (.cst (.int (0)))) (.sub (.nm "other") (.cst (.int (0))))))]
noncomputable def cgreatest : List Sm := [.asg "found" (.sub (.nm "marks") (.cst (.int (0)))), .for_ "mark" (.nm "marks") [.ite (.call "less" [(.nm "found"), (.nm "mark")]) [.asg "found" (.nm "mark")] []], .ret (some (.nm "found"))]


section
variable {G : PG} {n : Nat} {ρ : Loc} {σ : Sto} {Φ : PE} {Ψ : PY} {f : Addr}
theorem less_is {p q : Int × Int} (F : Fn1 G "less" ["one", "other"] cless f) : CallIs G (n + 1) f [mk p, mk q] σ (.bool (ltM p q)) := fun Φ Ψ h =>
  F.bd rfl fun ρ K X L hr _ _ => by
    unfold ltM at h
    by_cases e : p.1 = q.1
    · rw [if_pos e] at h
      exact g_ifR (et_cmp (ev_sub (ev_nm (L _ _ rfl)) ev_cst d_0) (ev_sub (ev_nm (L _ _ rfl)) ev_cst d_0) (d_eqT e)) (ev_cmp (ev_sub (ev_nm (L _ _ rfl)) ev_cst d_1) (ev_sub (ev_nm (L _ _ rfl)) ev_cst d_1) d_lt) (hr _ _ _ h)
    · rw [if_neg e] at h
      exact g_if0 (et_cmp (ev_sub (ev_nm (L _ _ rfl)) ev_cst d_0) (ev_sub (ev_nm (L _ _ rfl)) ev_cst d_0) (d_eqF e)) (g_ret (ev_cmp (ev_sub (ev_nm (L _ _ rfl)) ev_cst d_0) (ev_sub (ev_nm (L _ _ rfl)) ev_cst d_0) d_lt) (hr _ _ _ h))
theorem less_b {p q : Int × Int} {b : Bool} (F : Fn1 G "less" ["one", "other"] cless f) (e : ltM p q = b) : CallIs G (n + 1) f [mk p, mk q] σ (.bool b) := e ▸ less_is F
theorem foldl_take {α β : Type} {g : β → α → β} {b : β} {l : List α} {i : Nat} {a : α} (h : l[i]? = some a) : (l.take (i + 1)).foldl g b = g ((l.take i).foldl g b) a := by
  rw [List.take_add_one, h, List.foldl_append]; rfl
theorem greatest_is {g r : Addr} {m0 : Int × Int} {ms : List (Int × Int)} (F : Fn1 G "greatest" ["marks"] cgreatest f) (L : Fn1 G "less" ["one", "other"] cless g) (hr : lstOf σ r = some ((m0 :: ms).map mk)) : CallIs G (n + 2) f [.ref r] σ (mk ((m0 :: ms).foldl step1 m0)) := fun Φ Ψ h =>
  F.bd rfl fun ρ K X l k _ _ => g_asg (ev_sub (ev_nm (l _ _ rfl)) ev_cst (d_lst hr (by decide) (by decide) (idx0 _ _)))
    (g_forL (lk_ne (by decide) (l _ _ rfl)) hr (fun i ρ₂ => ρ₂.lookup (Str.ofString "found") = some (mk (((m0 :: ms).take i).foldl step1 m0))) lk_eq (fun i v K₂ ρ₂ hv h1 k1 _ => by
      rw [List.getElem?_map] at hv
      obtain ⟨m, hm, rfl⟩ := Option.map_eq_some_iff.mp hv
      have k2 := fun ρ₄ => foldl_take hm ▸ k1 ρ₄
      clear k1
      generalize (List.take i (m0 :: ms)).foldl step1 m0 = acc at h1 k2
      by_cases e : ltM acc m = true
      · exact g_iteT (et_call (ev_call L (es_cons (ev_nm (lk_ne (by decide) h1)) (es_cons (ev_nm lk_eq) es_nil)) (less_b L e))) (g_asg (ev_nm lk_eq) (k2 _ (by rw [step1, if_pos e]; exact lk_eq)))
      · exact g_if0 (et_call (ev_call L (es_cons (ev_nm (lk_ne (by decide) h1)) (es_cons (ev_nm lk_eq) es_nil)) (less_b L (eq_false_of_ne_true e)))) (k2 _ (by rw [step1, if_neg e]; exact lk_ne (by decide) h1))) fun ρ₂ h1 => g_ret (ev_nm h1) (k _ _ _ (by rw [List.length_map, List.take_length]; exact h)))
end
end Mine
set_option maxRecDepth 100000
set_option linter.unusedSimpArgs false
set_option linter.unusedVariables false
namespace Mine
open PySem PyProof.Rows

noncomputable def cDesk_open_place : List Sm := [.for_ "place" (.bi "range" [(.bi "len" [(.attr (.nm "self") "rows")])]) [.ite (.and_ [(.cmp .Eq (.sub (.sub (.attr (.nm "self") "rows") (.nm "place")) (.cst (.int (1)))) (.nm "letter")), (.not_ (.sub (.sub (.attr (.nm "self") "rows") (.nm "place")) (.cst (.int (2)))))]) [.ret (some (.nm "place"))] []], .raise "NotOpen" "it has no open mark here"]
noncomputable def cDesk_settle : List Sm := [.asg "place" (.meth (.nm "self") "open_place" [(.nm "letter")]), .ite (.call "less" [(.nm "mark"), (.sub (.sub (.attr (.nm "self") "rows") (.nm "place")) (.cst (.int (0))))]) [.raise "BadMark" "the proposed mark is greater"] [], .sitem (.attr (.nm "self") "rows") (.nm "place") (.tup [(.nm "mark"), (.nm "letter"), (.cst (.bool true))]), .sattr (.nm "self") "hours" (.bi "max" [(.attr (.nm "self") "hours"), (.sub (.nm "mark") (.cst (.int (0))))]), .asg "found" (.list []), .asg "least" (.meth (.nm "self") "least_place" []), .while_ (.and_ [(.cmp .IsNot (.nm "least") (.cst .none)), (.sub (.sub (.attr (.nm "self") "rows") (.nm "least")) (.cst (.int (2))))]) [.expr (.meth (.nm "found") "append" [(.sub (.sub (.attr (.nm "self") "rows") (.nm "least")) (.cst (.int (1))))]), .expr (.meth (.attr (.nm "self") "rows") "pop" [(.nm "least")]), .asg "least" (.meth (.nm "self") "least_place" [])], .sattr (.nm "self") "gone" (.bin .Add (.attr (.nm "self") "gone") (.nm "found")), .ret (some (.nm "found"))]
noncomputable def cDesk_least_place : List Sm := [.ite (.cmp .Eq (.attr (.nm "self") "rows") (.list [])) [.ret (some (.cst .none))] [], .asg "least" (.cst (.int (0))), .for_ "place" (.bi "range" [(.bi "len" [(.attr (.nm "self") "rows")])]) [.ite (.call "less" [(.sub (.sub (.attr (.nm "self") "rows") (.nm "place")) (.cst (.int (0)))), (.sub (.sub (.attr (.nm "self") "rows") (.nm "least")) (.cst (.int (0))))]) [.asg "least" (.nm "place")] []], .ret (some (.nm "least"))]

/-- the first open row of a letter -/
noncomputable def OpenAt (rows : List Row) (l : Int) (i : Nat) : Prop := (∃ m, rows[i]? = some (m, l, false)) ∧ ∀ (j : Nat) (r : Row), j < i → rows[j]? = some r → ¬ (r.2.1 = l ∧ r.2.2 = false)
noncomputable def NoOpen (rows : List Row) (l : Int) : Prop := ∀ (j : Nat) (r : Row), rows[j]? = some r → ¬ (r.2.1 = l ∧ r.2.2 = false)
/-- the first of the least rows -/
noncomputable def LeastAt (rows : List Row) (k : Nat) : Prop := ∃ r, rows[k]? = some r ∧ (∀ (j : Nat) (q : Row), rows[j]? = some q → ltM q.1 r.1 = false) ∧ ∀ (j : Nat) (q : Row), j < k → rows[j]? = some q → ltM r.1 q.1 = true
/-- the rows that are handed out -/
inductive Del : List Row → List Int → List Row → Prop
  | nil : Del [] [] []
  | stop {rows k r} : LeastAt rows k → rows[k]? = some r → r.2.2 = false → Del rows [] rows
  | go {rows k m l f rest} : LeastAt rows k → rows[k]? = some (m, l, true) → Del (rows.eraseIdx k) f rest → Del rows (l :: f) rest
theorem ltM_irr (p : Int × Int) : ltM p p = false := by simp [ltM]
theorem ltM_trans' {p q r : Int × Int} (h1 : ltM p q = true) (h2 : ltM r q = false) : ltM r p = false := by
  unfold ltM at *
  split at h1 <;> split at h2 <;> split <;> simp at * <;> omega
theorem ltM_less {p q r : Int × Int} (h1 : ltM p q = true) (h2 : ltM r q = false) : ltM p r = true := by
  unfold ltM at *
  split at h1 <;> split at h2 <;> split <;> simp at * <;> omega
theorem row_get {rows : List Row} {i : Nat} {r : Row} (h : rows[i]? = some r) : (rows.map rowAV)[i]? = some (rowAV r) := by rw [List.getElem?_map, h]; rfl
section
variable {G : PG} {n : Nat} {ρ : Loc} {σ : Sto} {Φ : PE} {Ψ : PY} {f CD : Addr} {o : Own} {t : Tag} {D : DA} {s : Dk} {ΦP : Bool → Prop}
theorem at_rows (A : Cls G CD deskAs) (S : DeskAt CD o σ t D s) : AttrIs G σ (.ref D.x) "rows" (.ref D.r) := d_attr A S.x.at_ S.d.at_ (by first | decide | simp [deskAs]) (by first | rfl | simp [deskNs, List.lookup, strE]) rfl
theorem sb_row {i : Nat} {r : Row} (S : DeskAt CD o σ t D s) (hz : s.rows.length < 10000) (h : s.rows[i]? = some r) : SubIs σ (.ref D.r) (.int i) (rowAV r) := d_get S.r.lst (by rw [List.length_map]; exact Nat.lt_trans hz (by decide)) (row_get h)
/-- a row of the desk -/
theorem ev_row {i : Nat} {r : Row} {e : Ex} {v : AV} {k : Int} (A : Cls G CD deskAs) (S : DeskAt CD o σ t D s) (hz : s.rows.length < 10000) (h : s.rows[i]? = some r) (l1 : ρ.lookup (Str.ofString "self") = some (.ref D.x)) (he : Ev G n ρ σ e (.int i)) (hk : SubIs σ (rowAV r) (.int k) v) : Ev G n ρ σ (.sub (.sub (.attr (.nm "self") "rows") e) (.cst (.int k))) v :=
  ev_sub (ev_sub (ev_attr (ev_nm l1) (at_rows A S)) he (sb_row S hz h)) ev_cst hk
theorem open_ok {l : Int} {No : Addr} (hn : 10 ≤ n) (M : Mt G CD "open_place" ["self", "letter"] cDesk_open_place f) (A : Cls G CD deskAs) (no : G.mg "NotOpen" = some (.ref No)) (xn : ExcOk G "NotOpen" No) (S : DeskAt CD o σ t D s) (hz : s.rows.length < 10000)
    (h1 : ∀ i, OpenAt s.rows l i → Φ (.int i) σ) (h2 : NoOpen s.rows l → Rz (Ψ (.ref No) σ)) : WC G (n + 1) (.ref f) [.ref D.x, .int l] σ Φ Ψ := by
  refine M.bd rfl fun ρ K X L hr _ hx => ?_
  refine g_forS hn (ev_bi (es_cons (ev_attr (ev_nm (L "self" _ rfl)) (at_rows A S)) es_nil) (d_lenM S.r.lst (Nat.lt_trans hz (by decide)))) (Nat.lt_trans hz (by decide)) (fun i ρ₂ => (ρ₂.lookup (Str.ofString "self") = some (.ref D.x) ∧ ρ₂.lookup (Str.ofString "letter") = some (.int l)) ∧ ∀ j r, j < i → s.rows[j]? = some r → ¬ (r.2.1 = l ∧ r.2.2 = false)) ⟨⟨L "self" _ rfl, L "letter" _ rfl⟩, fun j r z => absurd z (Nat.not_lt_zero _)⟩ ?_ ?_
  · rintro i K₂ ρ₂ hi ⟨ll, h⟩ k1 k2
    have hr' : s.rows[i]? = some s.rows[i] := List.getElem?_eq_getElem hi
    generalize s.rows[i] = r at hr'
    have l1 : (putA "place" (.int i) ρ₂).lookup (Str.ofString "self") = some (.ref D.x) := lk_ne (by decide) ll.1
    have row : ∀ {k v}, SubIs σ (rowAV r) (.int k) v → Ev G n (putA "place" (.int i) ρ₂) σ (.sub (.sub (.attr (.nm "self") "rows") (.nm "place")) (.cst (.int k))) v := ev_row A S hz hr' l1 (ev_nm lk_eq)
    have next : ¬ (r.2.1 = l ∧ r.2.2 = false) → K₂ .next (putA "place" (.int i) ρ₂) σ := fun z => k1 _ ⟨⟨l1, lk_ne (by decide) ll.2⟩, fun j q hj hq => by
      by_cases e : j = i
      · subst e; rw [hr'] at hq; cases hq; exact z
      · exact h j q (Nat.lt_of_le_of_ne (Nat.le_of_lt_succ hj) e) hq⟩
    have c1 : ∀ {q}, (r.2.1 == l) = q → Et G n (putA "place" (.int i) ρ₂) σ (.cmp .Eq (.sub (.sub (.attr (.nm "self") "rows") (.nm "place")) (.cst (.int (1)))) (.nm "letter")) q := fun e => e ▸ et_cmp (row d_1) (ev_nm (lk_ne (by decide) ll.2)) d_eqi
    by_cases e1 : r.2.1 = l
    · by_cases e2 : r.2.2 = false
      · exact g_ifR (et_and (ea_T (c1 (by rw [e1, beq_self_eq_true])) (ea_T (et_notT (et_sub (row (e2 ▸ d_2)))) ea_nil))) (ev_nm lk_eq) (k2 _ _ _ (hr _ _ _ (h1 i ⟨⟨r.1, by rw [hr', ← e1, ← e2]⟩, h⟩)))
      · exact g_if0 (et_and (ea_T (c1 (by rw [e1, beq_self_eq_true])) (ea_F (et_notF (et_sub (row ((eq_true_of_ne_false e2) ▸ d_2))))))) (next fun z => e2 z.2)
    · exact g_if0 (et_and (ea_F (c1 (beq_eq_false_iff_ne.mpr e1)))) (next fun z => e1 z.1)
  · rintro ρ₂ ⟨_, h⟩
    exact do_raise no hn xn (Rz.to (h2 fun j r hr => h j r (List.getElem?_eq_some_iff.mp hr).1 hr) (hx _ _ _))
theorem datum_rows {k : Nat} (rs : List Row) : mapO (datum σ (k + 3)) (rs.map rowAV) = some (rs.map fun r => .tuple [mkD r.1, .int r.2.1, .bool r.2.2]) :=
  mapO_map rowAV (fun r => PyData.tuple [mkD r.1, .int r.2.1, .bool r.2.2]) rs fun r _ => by simp [rowAV, datum, mapO, datum_mk]
theorem rows_nil {b : Addr} (S : DeskAt CD o σ t D s) (hb : lstOf σ b = some []) (p : ΦP (s.rows.isEmpty)) : eqV σ (.ref D.r) (.ref b) ΦP := by
  have e1 := datum_lst S.r.lst (datum_rows (σ := σ) (k := 2) s.rows)
  have e2 : datum σ 6 (.ref b) = some (.list []) := datum_lst hb rfl
  refine eq_refs e1 e2 (canAll _ _ fun r _ => by simp [PyData.canLay0, PyData.canLayAll0, can_mk]) rfl ?_ p
  cases s.rows with
  | nil => rfl
  | cons a r => simp [PyData.eqv, PyData.eqvAll]
theorem least_ok {g : Addr} (hn : 10 ≤ n) (M : Mt G CD "least_place" ["self"] cDesk_least_place f) (L : Fn1 G "less" ["one", "other"] cless g) (A : Cls G CD deskAs) (S : DeskAt CD o σ t D s) (hz : s.rows.length < 10000)
    (h1 : ∀ i σ', Ext σ σ' → LeastAt s.rows i → Φ (.int i) σ') (h2 : ∀ σ', Ext σ σ' → s.rows = [] → Φ .none σ') : WC G (n + 1) (.ref f) [.ref D.x] σ Φ Ψ := by
  refine M.bd rfl fun ρ K X l k _ _ => ?_
  obtain ⟨n, rfl⟩ : ∃ j, n = j + 1 := by first | with_reducible exact Nat.exists_eq_add_of_le' (Nat.le_trans (by decide) hn) | exact ⟨n - 1, (by first | decide | (with_reducible first | exact lv hn | exact lv1 hn | exact lv2 hn | exact Int.natCast_nonneg _ | assumption) | omega)⟩
  have l1 := l "self" _ rfl
  have hz' := Nat.lt_trans hz (show 10000 < 1000000 by decide)
  refine g_iteN (ev_attr (ev_nm l1) (at_rows A S)) fun b σ₁ hx hb => ?_
  have S' := S.chg (.ext (T := fun _ => False) hx) id
  refine ⟨s.rows.isEmpty, fun P p => rows_nil S' hb p, ?_⟩
  cases hr : s.rows with
  | nil => exact g_ret (r := []) ev_cst (k _ _ _ (h2 _ hx hr))
  | cons r0 rs =>
    refine g_asg ev_cst (g_forS hn (ev_bi (es_cons (ev_attr (ev_nm (lk_ne (by decide) l1)) (at_rows A S')) es_nil) (d_lenM S'.r.lst hz')) hz' (fun i ρ₂ => ρ₂.lookup (Str.ofString "self") = some (.ref D.x) ∧ ∃ k r, ρ₂.lookup (Str.ofString "least") = some (.int (k : Nat)) ∧ s.rows[k]? = some r ∧ (∀ j q, j < i → s.rows[j]? = some q → ltM q.1 r.1 = false) ∧ k ≤ i ∧ ∀ j q, j < k → s.rows[j]? = some q → ltM r.1 q.1 = true) ⟨lk_ne (by decide) l1, 0, r0, lk_eq, by rw [hr]; rfl, fun j r z => absurd z (Nat.not_lt_zero _), Nat.le_refl _, fun j r z => absurd z (Nat.not_lt_zero _)⟩ ?_ ?_)
    · rintro i K₂ ρ₂ hi ⟨l1, k, r, l2, hk, h, hki, hf⟩ k1 _
      have hq : s.rows[i]? = some s.rows[i] := List.getElem?_eq_getElem hi
      generalize s.rows[i] = q at hq
      have c : ∀ {b}, ltM q.1 r.1 = b → Et G (n + 1) (putA "place" (.int i) ρ₂) σ₁ (.call "less" [(.sub (.sub (.attr (.nm "self") "rows") (.nm "place")) (.cst (.int (0)))), (.sub (.sub (.attr (.nm "self") "rows") (.nm "least")) (.cst (.int (0))))]) b := fun e =>
        et_call (ev_call L (es_cons (ev_row A S' hz hq (lk_ne (by decide) l1) (ev_nm lk_eq) d_0) (es_cons (ev_row A S' hz hk (lk_ne (by decide) l1) (ev_nm (lk_ne (by decide) l2)) d_0) es_nil)) (less_b L e))
      by_cases e : ltM q.1 r.1 = true
      · refine g_iteT (c e) (g_asg (ev_nm lk_eq) (k1 _ ⟨lk_ne (by decide) (lk_ne (by decide) l1), i, q, lk_eq, hq, fun j p hj hp => ?_, Nat.le_succ _, fun j p hj hp => ltM_less e (h j p hj hp)⟩))
        by_cases z : j = i
        · subst z; rw [hq] at hp; cases hp; exact ltM_irr _
        · exact ltM_trans' e (h j p (Nat.lt_of_le_of_ne (Nat.le_of_lt_succ hj) z) hp)
      · refine g_if0 (c (eq_false_of_ne_true e)) (k1 _ ⟨lk_ne (by decide) l1, k, r, lk_ne (by decide) l2, hk, fun j p hj hp => ?_, Nat.le_succ_of_le hki, hf⟩)
        by_cases z : j = i
        · subst z; rw [hq] at hp; cases hp; exact eq_false_of_ne_true e
        · exact h j p (Nat.lt_of_le_of_ne (Nat.le_of_lt_succ hj) z) hp
    · rintro ρ₂ ⟨l1, j, r, l2, hk, h, _, hf⟩
      exact g_ret (ev_nm l2) (k _ _ _ (h1 j _ hx ⟨r, hk, fun j q hq => h j q (List.getElem?_eq_some_iff.mp hq).1 hq, hf⟩))
end
end Mine
set_option maxRecDepth 100000
set_option linter.unusedSimpArgs false
set_option linter.unusedVariables false
namespace Mine
open PySem PyProof.Rows

/-- changes of what T owns, and of one more object -/
structure ChgB (T : Tag → Prop) (b : Addr) (o : Own) (σ : Sto) (o' : Own) (σ' : Sto) : Prop where
  tag : ∀ a c, σ a = some c → o' a = o a
  there : ∀ a c, σ a = some c → ∃ c', σ' a = some c'
  keep : ∀ a c, σ a = some c → ¬ T (o a) → a ≠ b → σ' a = some c
theorem Chg.toB {T : Tag → Prop} {b : Addr} {o o' : Own} {σ σ' : Sto} (x : Chg T o σ o' σ') : ChgB T b o σ o' σ' := ⟨x.tag, x.there, fun a c e n _ => x.keep a c e n⟩
theorem ChgB.trans {T : Tag → Prop} {b : Addr} {o o' o'' : Own} {σ σ' σ'' : Sto} (x : ChgB T b o σ o' σ') (y : ChgB T b o' σ' o'' σ'') : ChgB T b o σ o'' σ'' := by
  refine ⟨fun a c e => ?_, fun a c e => ?_, fun a c e n m => ?_⟩
  · obtain ⟨c', e'⟩ := x.there a c e
    exact (y.tag a c' e').trans (x.tag a c e)
  · obtain ⟨c', e'⟩ := x.there a c e
    exact y.there a c' e'
  · exact y.keep a c (x.keep a c e n m) (by rw [x.tag a c e]; exact n) m
theorem ChgB.put {T : Tag → Prop} {b : Addr} {o : Own} {σ : Sto} {c : Cell} : ChgB T b o σ o (upd σ b c) := by
  refine ⟨fun _ _ _ => rfl, fun a e h => ?_, fun a e h n m => by rw [upd_ne m]; exact h⟩
  by_cases q : a = b
  · exact ⟨c, by rw [q, upd_same]⟩
  · exact ⟨e, by rw [upd_ne q]; exact h⟩
theorem ChgB.chg {T : Tag → Prop} {b : Addr} {o o' : Own} {σ σ' : Sto} (x : ChgB T b o σ o' σ') (h : σ b = none) : Chg T o σ o' σ' := ⟨x.tag, x.there, fun a c e n => x.keep a c e n fun z => by rw [z, h] at e; cases e⟩
theorem eraseIdx_map' {α β : Type} (f : α → β) : ∀ (l : List α) (i : Nat), (l.map f).eraseIdx i = (l.eraseIdx i).map f
  | [], _ => rfl
  | _ :: _, 0 => rfl
  | a :: l, i + 1 => by simp [eraseIdx_map' f l i]
section
variable {G : PG} {n : Nat} {ρ : Loc} {σ : Sto} {Φ : PE} {Ψ : PY} {f CD : Addr} {o : Own} {t tf : Tag} {D : DA} {s : Dk} {ΦP : Bool → Prop}
theorem erase_len {α : Type} {l : List α} {i : Nat} (h : i < l.length) : (l.eraseIdx i).length + 1 = l.length := by rw [List.length_eraseIdx, if_pos h]; omega
/-- what least_place gives -/
noncomputable def LeastIs (rows : List Row) (v : AV) : Prop := (rows = [] ∧ v = .none) ∨ ∃ k : Nat, LeastAt rows k ∧ v = .int k
theorem least_ok' {g : Addr} (hn : 10 ≤ n) (M : Mt G CD "least_place" ["self"] cDesk_least_place f) (L : Fn1 G "less" ["one", "other"] cless g) (A : Cls G CD deskAs) (S : DeskAt CD o σ t D s) (hz : s.rows.length < 10000) (h : ∀ v σ', Ext σ σ' → LeastIs s.rows v → Φ v σ') : WC G (n + 1) (.ref f) [.ref D.x] σ Φ Ψ :=
  least_ok hn M L A S hz (fun i σ' x z => h _ σ' x (.inr ⟨i, z, rfl⟩)) fun σ' x z => h _ σ' x (.inl ⟨z, rfl⟩)
theorem del_len {a r : List Row} {f : List Int} (h : Del a f r) : f.length ≤ a.length := by
  induction h with
  | nil => exact Nat.le_refl _
  | stop _ _ _ => exact Nat.zero_le _
  | go h1 h2 _ ih =>
    have := (List.getElem?_eq_some_iff.mp h2).1
    rw [← erase_len this]; exact Nat.succ_le_succ ih
/-- the loop that hands out -/
theorem hand_out {g fl b : Addr} {r : List Sm} {Φ : PS} {Ψ : PX} (hn : 11 ≤ n) (LP : Mt G CD "least_place" ["self"] cDesk_least_place fl) (L : Fn1 G "less" ["one", "other"] cless g) (A : Cls G CD deskAs) (S : DeskAt CD o σ t D s) (hz : s.rows.length < 10000) (htf : tf ≠ t)
    (B : At o σ tf b (.list [])) (l1 : ρ.lookup (Str.ofString "self") = some (.ref D.x)) (l2 : ρ.lookup (Str.ofString "found") = some (.ref b))
    (l3 : ∃ v, ρ.lookup (Str.ofString "least") = some v ∧ LeastIs s.rows v)
    (k : ∀ fs rows' ρ' σ', Del s.rows fs rows' → ChgB (· = t) b o σ o σ' → DeskAt CD o σ' t D { s with rows := rows' } → At o σ' tf b (.list (fs.map .int)) → ρ'.lookup (Str.ofString "self") = some (.ref D.x) → ρ'.lookup (Str.ofString "found") = some (.ref b) → tss G n r ρ' σ' Φ Ψ) :
    tss G n (.while_ (.and_ [(.cmp .IsNot (.nm "least") (.cst .none)), (.sub (.sub (.attr (.nm "self") "rows") (.nm "least")) (.cst (.int (2))))]) [.expr (.meth (.nm "found") "append" [(.sub (.sub (.attr (.nm "self") "rows") (.nm "least")) (.cst (.int (1))))]), .expr (.meth (.attr (.nm "self") "rows") "pop" [(.nm "least")]), .asg "least" (.meth (.nm "self") "least_place" [])] :: r) ρ σ Φ Ψ := by
  obtain ⟨n, rfl⟩ : ∃ j, n = j + 1 := by first | with_reducible exact Nat.exists_eq_add_of_le' (Nat.le_trans (by decide) hn) | exact ⟨n - 1, (by first | decide | (with_reducible first | exact lv hn | exact lv1 hn | exact lv2 hn | exact Int.natCast_nonneg _ | assumption) | omega)⟩
  refine g_while (fun k ρ₂ σ₂ => ∃ rows fs, rows.length = k ∧ rows.length + fs.length = s.rows.length ∧ DeskAt CD o σ₂ t D { s with rows := rows } ∧ ChgB (· = t) b o σ o σ₂ ∧ At o σ₂ tf b (.list (fs.map .int)) ∧ (ρ₂.lookup (Str.ofString "self") = some (.ref D.x) ∧ ρ₂.lookup (Str.ofString "found") = some (.ref b)) ∧
      (∃ v, ρ₂.lookup (Str.ofString "least") = some v ∧ LeastIs rows v) ∧ ∀ f' r', Del rows f' r' → Del s.rows (fs ++ f') r') s.rows.length ⟨s.rows, [], rfl, rfl, S, Chg.refl.toB, B, ⟨l1, l2⟩, l3, fun f' r' z => z⟩ ?_
  rintro kk ρ₂ σ₂ K ⟨rows, fs, rfl, hlen, S₂, c₂, B₂, ⟨l1, l2⟩, ⟨v, l3, hv⟩, hD⟩ kJ
  have hz₂ : rows.length < 10000 := Nat.lt_of_le_of_lt (hlen ▸ Nat.le_add_right _ _) hz
  rcases hv with ⟨rfl, rfl⟩ | ⟨j, hj, rfl⟩
  · refine .inl ⟨et_and (ea_F (et_cmp (ev_nm l3) ev_cst (d_some rfl))), k fs [] ρ₂ σ₂ ?_ c₂ S₂ B₂ l1 l2⟩
    have := hD [] [] .nil
    rw [List.append_nil] at this; exact this
  · obtain ⟨⟨m, l, b2⟩, hrow, hle⟩ := id hj
    have hjl := (List.getElem?_eq_some_iff.mp hrow).1
    cases b2 with
    | false =>
      refine .inl ⟨et_and (ea_T (et_cmp (ev_nm l3) ev_cst (d_some rfl)) (ea_F (et_sub (ev_row A S₂ hz₂ hrow l1 (ev_nm l3) d_2)))), k fs rows ρ₂ σ₂ ?_ c₂ S₂ B₂ l1 l2⟩
      have := hD [] rows (.stop hj hrow rfl)
      rw [List.append_nil] at this; exact this
    | true =>
      refine .inr ⟨et_and (ea_T (et_cmp (ev_nm l3) ev_cst (d_some rfl)) (ea_T (et_sub (ev_row A S₂ hz₂ hrow l1 (ev_nm l3) d_2)) ea_nil)), g_app (ev_nm l2) B₂.at_ (ev_row A S₂ hz₂ hrow l1 (ev_nm l3) d_1) ?_ ?_⟩
      · rw [List.length_map]; unfold sizeLine; omega
      have c3 : Chg (· = tf) o σ₂ o (upd σ₂ b (.list (fs.map .int ++ [.int l]))) := .put B₂ rfl
      have B₃ : At o (upd σ₂ b (.list (fs.map .int ++ [.int l]))) tf b (.list (fs.map .int ++ [.int l])) := B₂.put
      have S₃ := S₂.chg c3 (Ne.symm htf)
      have c₃ : ChgB (· = t) b o σ o (upd σ₂ b (.list (fs.map .int ++ [.int l]))) := c₂.trans .put
      clear c3
      generalize upd σ₂ b (.list (fs.map .int ++ [.int l])) = σ₃ at S₃ c₃ B₃
      refine g_pop (S₃.attr A (by decide) rfl rfl l1) S₃.r.at_ (ev_nm l3) (by rw [List.length_map]; exact Nat.lt_trans hz₂ (by decide)) (row_get hrow) ?_
      rw [eraseIdx_map']
      obtain ⟨S₄, c4⟩ := S₃.setRows (rows.eraseIdx j)
      have B₄ := B₃.chg c4 htf
      have c₄ := c₃.trans c4.toB
      clear c4
      generalize upd σ₃ D.r (.list ((rows.eraseIdx j).map rowAV)) = σ₄ at S₄ c₄ B₄
      have hle : (rows.eraseIdx j).length + 1 = rows.length := erase_len hjl
      refine g_asgM LP (ev_nm l1) S₄.x.at_ S₄.d.at_ rfl es_nil (least_ok' (n := n) (Nat.le_of_succ_le_succ hn) LP L A S₄ (show (rows.eraseIdx j).length < 10000 by omega) fun v σ₅ hx hv => g_nil (kJ (rows.eraseIdx j).length _ _ (by first | decide | (with_reducible first | exact lv hn | exact lv1 hn | exact lv2 hn | exact Int.natCast_nonneg _) | omega) ⟨rows.eraseIdx j, fs ++ [l], rfl, ?_, S₄.chg (.ext (T := fun _ => False) hx) id, c₄.trans (Chg.toB (.ext hx)), ?_, ⟨lk_ne (by decide) l1, lk_ne (by decide) l2⟩, ⟨v, lk_eq, hv⟩, fun f' r' z => ?_⟩))
      · rw [List.length_append, ← hlen, ← hle, Nat.add_right_comm]; rfl
      · rw [List.map_append]; exact B₄.ext hx
      · have := hD (l :: f') r' (.go hj hrow z)
        rw [List.append_assoc]; exact this
theorem settle_ok {l : Int} {m : Int × Int} {g fl fp No Bm : Addr} (hn : 12 ≤ n) (M : Mt G CD "settle" ["self", "letter", "mark"] cDesk_settle f) (LP : Mt G CD "least_place" ["self"] cDesk_least_place fl) (OP : Mt G CD "open_place" ["self", "letter"] cDesk_open_place fp) (L : Fn1 G "less" ["one", "other"] cless g)
    (A : Cls G CD deskAs) (no : G.mg "NotOpen" = some (.ref No)) (xn : ExcOk G "NotOpen" No) (bm : G.mg "BadMark" = some (.ref Bm)) (xb : ExcOk G "BadMark" Bm) (tf : Tag) (S : DeskAt CD o σ t D s) (hz : s.rows.length < 10000) (hz' : s.gone.length < 10000) (htf : tf ≠ t)
    (h1 : ∀ i m0 fs rows' b g' o' σ', OpenAt s.rows l i → s.rows[i]? = some (m0, l, false) → ltM m m0 = false → Del (s.rows.set i (m, l, true)) fs rows' → Chg (· = t) o σ o' σ' → DeskAt CD o' σ' t (D.setG g') ⟨s.hand, max s.hours m.1, rows', s.known, s.gone ++ fs⟩ → σ b = none → At o' σ' tf b (.list (fs.map .int)) → Φ (.ref b) σ')
    (h2 : NoOpen s.rows l → Rz (Ψ (.ref No) σ)) (h3 : ∀ i m0, OpenAt s.rows l i → s.rows[i]? = some (m0, l, false) → ltM m m0 = true → Rz (Ψ (.ref Bm) σ)) : WC G (n + 1) (.ref f) [.ref D.x, .int l, mk m] σ Φ Ψ := by
  obtain ⟨n, rfl⟩ : ∃ j, n = j + 1 := by first | with_reducible exact Nat.exists_eq_add_of_le' (Nat.le_trans (by decide) hn) | exact ⟨n - 1, (by first | decide | (with_reducible first | exact lv hn | exact lv1 hn | exact lv2 hn | exact Int.natCast_nonneg _ | assumption) | omega)⟩
  refine M.bd rfl fun ρ K X l' hr' _ hx => ?_
  have l1 := l' "self" _ rfl
  have l2 := l' "letter" _ rfl
  have l3 := l' "mark" _ rfl
  clear l'
  refine g_asgM OP (ev_nm l1) S.x.at_ S.d.at_ rfl (es_cons (ev_nm l2) es_nil) (open_ok (n := n) (lv1 hn) OP A no xn S hz (fun i hi => ?_) fun z => Rz.to (h2 z) (hx _ _ _))
  obtain ⟨m0, hrow⟩ := hi.1
  have hil := (List.getElem?_eq_some_iff.mp hrow).1
  have l1 := lk_ne (x := Str.ofString "place") (a := .int i) (by decide) l1
  have l2 := lk_ne (x := Str.ofString "place") (a := .int i) (by decide) l2
  have l3 := lk_ne (x := Str.ofString "place") (a := .int i) (by decide) l3
  have l4 := lk_eq (x := Str.ofString "place") (a := .int i) (ρ := ρ)
  generalize putA (Str.ofString "place") (.int i) ρ = ρ₁ at l1 l2 l3 l4
  have c : ∀ {b}, ltM m m0 = b → Et G (n + 1) ρ₁ σ (.call "less" [(.nm "mark"), (.sub (.sub (.attr (.nm "self") "rows") (.nm "place")) (.cst (.int (0))))]) b := fun e => et_call (ev_call L (es_cons (ev_nm l3) (es_cons (ev_row A S hz hrow l1 (ev_nm l4) d_0) es_nil)) (less_b L e))
  cases e : ltM m m0 with
  | true => exact g_iteT (c e) (do_raise bm (lv hn) xb (Rz.to (h3 i m0 hi hrow e) (hx _ _ _)))
  | false =>
    refine g_if0 (c e) (g_sitem (ev_tup (es_cons (ev_nm l3) (es_cons (ev_nm l2) (es_cons ev_cst es_nil))) (Nat.le_of_ble_eq_true rfl)) (S.attr A (by decide) rfl rfl l1) (ev_nm l4) (si_nat S.r.at_ (by rw [List.length_map]; exact hil) (by rw [List.length_map]; exact Nat.lt_trans hz (by decide)) ?_))
    have er : (s.rows.map rowAV).set i (.tup [mk m, .int l, .bool true]) = (s.rows.set i (m, l, true)).map rowAV := by rw [List.map_set]; rfl
    rw [er]
    obtain ⟨S₁, c1⟩ := S.setRows (s.rows.set i (m, l, true))
    generalize upd σ D.r (.list ((s.rows.set i (m, l, true)).map rowAV)) = σ₁ at S₁ c1
    refine g_sattr (ev_bi (es_cons (S₁.attr A (by decide) rfl rfl l1) (es_cons (ev_sub (ev_nm l3) ev_cst d_0) es_nil)) fun P p => bi_max2 (lv hn) p) (ev_nm l1) (at_set A S₁.x.at_ S₁.d.at_ (by decide) (Nat.le_of_ble_eq_true rfl) ?_)
    rw [put_hours]
    obtain ⟨S₂, c2⟩ := S₁.setHours (max s.hours m.1)
    have c₂ := c1.trans c2
    clear c1 c2
    generalize upd σ₁ D.d (.ns (deskNs D s.hand (max s.hours m.1))) = σ₂ at S₂ c₂
    refine g_asgL (o := o) tf fun b o₃ σ₃ hb cb B₃ => ?_
    have hσb : σ b = none := c₂.none hb
    have S₃ := S₂.chg cb id
    have c₃ := c₂.trans (cb.mono fun _ z => z.elim)
    have hz₃ : (s.rows.set i (m, l, true)).length < 10000 := by rw [List.length_set]; exact hz
    refine g_asgM LP (ev_nm (lk_ne (by decide) l1)) S₃.x.at_ S₃.d.at_ rfl es_nil (least_ok' (n := n) (lv1 hn) LP L A S₃ hz₃ fun v σ₄ hx hv => ?_)
    have S₄ := S₃.chg (.ext (T := fun _ => False) hx) id
    have c₄ := c₃.trans (.ext hx)
    refine hand_out (tf := tf) (lv hn) LP L A S₄ hz₃ htf (B₃.ext hx) (lk_ne (by decide) (lk_ne (by decide) l1)) (lk_ne (by decide) lk_eq) ⟨v, lk_eq, hv⟩ fun fs rows' ρ' σ₅ hD c5 S₅ B₅ l1 l2 => ?_
    have hfl := del_len hD
    refine g_addL (o := o₃) t (ev_nm l1) (S₅.attr A (by decide) rfl rfl l1) (ev_nm l2) S₅.g.lst B₅.lst ?_ fun g' o₆ σ₆ hg' cg G₆ => ?_
    · rw [List.length_append, List.length_map, List.length_map]; unfold sizeLine; simp only [] at hfl hz₃ ⊢; omega
    rw [← List.map_append] at G₆
    have S₆ := S₅.chg cg id
    have B₆ := B₅.chg cg id
    have hge := S₅.r.off hg'
    have c₆ := c5.trans (cg.mono (T' := (· = t)) fun _ z => z.elim).toB
    refine at_set A S₆.x.at_ S₆.d.at_ (by decide) (Nat.le_of_ble_eq_true rfl) ?_
    rw [put_gone]
    have c7 : Chg (· = t) o₆ σ₆ o₆ (upd σ₆ D.d (.ns (deskNs (D.setG g') s.hand (max s.hours m.1)))) := .put S₆.d rfl
    exact g_ret (ev_nm l2) (hr' _ _ _ (h1 i m0 fs rows' b g' o₆ _ hi hrow e hD ((c₄.toB.trans (c₆.trans c7.toB)).chg hσb) ⟨S₆.x.upd (S₆.x.ne_kind S₆.d (by simp)), S₆.d.put, S₆.r.upd (S₆.r.ne_kind S₆.d (by simp)), S₆.k.upd (S₆.k.ne_kind S₆.d (by simp)), G₆.upd (G₆.ne_kind S₆.d (by simp)), hge⟩ hσb (B₆.chg c7 htf)))
end
end Mine
set_option maxRecDepth 100000
set_option linter.unusedSimpArgs false
set_option linter.unusedVariables false
namespace Mine
open PySem PyProof.Rows

noncomputable def cHouse___init__ : List Sm := [.ite (.or_ [(.not_ (.call "is_place" [(.nm "many"), (.bin .Add (.gl "MOST_HANDS") (.cst (.int (1))))])), (.cmp .Eq (.nm "many") (.cst (.int (0))))]) [.raise "BadCount" "a house has 1 to 40 hands"] [], .sattr (.nm "self") "desks" (.comp (.call "Desk" [(.nm "hand")]) "hand" (.bi "range" [(.nm "many")]) []), .sattr (.nm "self") "road" (.list []), .sattr (.nm "self") "owners" (.list []), .sattr (.nm "self") "wrote" (.list []), .sattr (.nm "self") "told" (.list []), .sattr (.nm "self") "finals" (.list [])]
noncomputable def cHouse_need_hand : List Sm := [.ite (.not_ (.call "is_place" [(.nm "hand"), (.bi "len" [(.attr (.nm "self") "desks")])])) [.raise "NoHand" "no hand of the house"] []]
noncomputable def cHouse_need_letter : List Sm := [.ite (.not_ (.call "is_place" [(.nm "letter"), (.bi "len" [(.attr (.nm "self") "owners")])])) [.raise "NoLetter" "no letter that was sent"] []]
noncomputable def cHouse_to_others : List Sm := [.asg "owner" (.sub (.attr (.nm "self") "owners") (.nm "letter")), .for_ "hand" (.bi "range" [(.bi "len" [(.attr (.nm "self") "desks")])]) [.ite (.cmp .NotEq (.nm "hand") (.nm "owner")) [.expr (.meth (.attr (.nm "self") "road") "append" [(.tup [(.nm "word"), (.nm "letter"), (.nm "owner"), (.nm "hand"), (.nm "mark")])])] []]]
noncomputable def cHouse_send : List Sm := [.expr (.meth (.nm "self") "need_hand" [(.nm "hand")]), .asg "letter" (.bi "len" [(.attr (.nm "self") "owners")]), .expr (.meth (.attr (.nm "self") "owners") "append" [(.nm "hand")]), .expr (.meth (.attr (.nm "self") "wrote") "append" [(.nm "text")]), .expr (.meth (.attr (.nm "self") "told") "append" [(.list [(.meth (.sub (.attr (.nm "self") "desks") (.nm "hand")) "propose" [(.nm "letter")])])]), .expr (.meth (.attr (.nm "self") "finals") "append" [(.cst .none)]), .expr (.meth (.nm "self") "to_others" [(.cst (.str "letter")), (.nm "letter"), (.cst .none)]), .expr (.meth (.nm "self") "close" [(.nm "letter")]), .ret (some (.nm "letter"))]
noncomputable def cHouse_close : List Sm := [.ite (.cmp .Lt (.bi "len" [(.sub (.attr (.nm "self") "told") (.nm "letter"))]) (.bi "len" [(.attr (.nm "self") "desks")])) [.ret none] [], .asg "mark" (.call "greatest" [(.sub (.attr (.nm "self") "told") (.nm "letter"))]), .sitem (.attr (.nm "self") "finals") (.nm "letter") (.nm "mark"), .expr (.meth (.sub (.attr (.nm "self") "desks") (.sub (.attr (.nm "self") "owners") (.nm "letter"))) "settle" [(.nm "letter"), (.nm "mark")]), .expr (.meth (.nm "self") "to_others" [(.cst (.str "mark")), (.nm "letter"), (.nm "mark")])]
noncomputable def cHouse_mails : List Sm := [.ret (some (.bi "list" [(.attr (.nm "self") "road")]))]
noncomputable def cHouse_bring : List Sm := [.ite (.not_ (.call "is_place" [(.nm "place"), (.bi "len" [(.attr (.nm "self") "road")])])) [.raise "NoMail" "no mail stands there"] [], .asg "mail" (.meth (.attr (.nm "self") "road") "pop" [(.nm "place")]), .asg "letter" (.sub (.nm "mail") (.cst (.int (1)))), .asg "hand" (.sub (.nm "mail") (.cst (.int (3)))), .ite (.cmp .Eq (.sub (.nm "mail") (.cst (.int (0)))) (.cst (.str "letter"))) [.asg "mark" (.meth (.sub (.attr (.nm "self") "desks") (.nm "hand")) "propose" [(.nm "letter")]), .expr (.meth (.attr (.nm "self") "road") "append" [(.tup [(.cst (.str "number")), (.nm "letter"), (.nm "hand"), (.sub (.nm "mail") (.cst (.int (2)))), (.nm "mark")])])] [.ite (.cmp .Eq (.sub (.nm "mail") (.cst (.int (0)))) (.cst (.str "number"))) [.expr (.meth (.sub (.attr (.nm "self") "told") (.nm "letter")) "append" [(.sub (.nm "mail") (.cst (.int (4))))]), .expr (.meth (.nm "self") "close" [(.nm "letter")])] [.expr (.meth (.sub (.attr (.nm "self") "desks") (.nm "hand")) "settle" [(.nm "letter"), (.sub (.nm "mail") (.cst (.int (4))))])]], .ret (some (.nm "mail"))]
noncomputable def cHouse_letters : List Sm := [.ret (some (.bi "len" [(.attr (.nm "self") "owners")]))]
noncomputable def cHouse_sender : List Sm := [.expr (.meth (.nm "self") "need_letter" [(.nm "letter")]), .ret (some (.sub (.attr (.nm "self") "owners") (.nm "letter")))]
noncomputable def cHouse_text : List Sm := [.expr (.meth (.nm "self") "need_letter" [(.nm "letter")]), .ret (some (.sub (.attr (.nm "self") "wrote") (.nm "letter")))]
noncomputable def cHouse_mark : List Sm := [.expr (.meth (.nm "self") "need_letter" [(.nm "letter")]), .ret (some (.sub (.attr (.nm "self") "finals") (.nm "letter")))]
noncomputable def cHouse_handed : List Sm := [.expr (.meth (.nm "self") "need_hand" [(.nm "hand")]), .ret (some (.meth (.sub (.attr (.nm "self") "desks") (.nm "hand")) "handed" []))]
noncomputable def cHouse_clock : List Sm := [.expr (.meth (.nm "self") "need_hand" [(.nm "hand")]), .ret (some (.meth (.sub (.attr (.nm "self") "desks") (.nm "hand")) "clock" []))]
noncomputable def cis_place : List Sm := [.ret (some (.and_ [(.bi "isinstance" [(.nm "thing"), (.gl "int")]), (.not_ (.bi "isinstance" [(.nm "thing"), (.gl "bool")])), (.cmp2 .LtE .Lt (.cst (.int (0))) (.nm "thing") (.nm "many"))]))]

set_option genInjectivity false in
structure HA where
  x : Addr
  d : Addr
  ds : Addr
  rd : Addr
  ow : Addr
  wr : Addr
  td : Addr
  fn : Addr
  D : List DA
  T : List Addr
abbrev Mark := Int × Int
abbrev Mail := Str × Int × Int × Int × Option Mark
noncomputable def mailAV (m : Mail) : AV := mail m.1 m.2.1 m.2.2.1 m.2.2.2.1 m.2.2.2.2
noncomputable def finAV : Option Mark → AV
  | none => .none
  | some p => mk p
set_option genInjectivity false in
structure Hs where
  desks : List Dk
  road : List Mail
  owners : List Int
  wrote : List Str
  told : List (List Mark)
  finals : List (Option Mark)
noncomputable def houseNs (A : HA) : List (Str × AV) := [("desks", .ref A.ds), ("road", .ref A.rd), ("owners", .ref A.ow), ("wrote", .ref A.wr), ("told", .ref A.td), ("finals", .ref A.fn)]
noncomputable def houseAs : List Str := ["desks", "road", "owners", "wrote", "told", "finals"]
structure HouseAt (CH CD : Addr) (o : Own) (σ : Sto) (b : Nat) (A : HA) (H : Hs) : Prop where
  x : At o σ (b, 0) A.x (.inst CH A.d)
  d : At o σ (b, 0) A.d (.ns (houseNs A))
  ds : At o σ (b, 1) A.ds (.list (A.D.map fun D => .ref D.x))
  rd : At o σ (b, 2) A.rd (.list (H.road.map mailAV))
  ow : At o σ (b, 3) A.ow (.list (H.owners.map .int))
  wr : At o σ (b, 4) A.wr (.list (H.wrote.map .str))
  td : At o σ (b, 5) A.td (.list (A.T.map .ref))
  fn : At o σ (b, 6) A.fn (.list (H.finals.map finAV))
  len : A.D.length = H.desks.length
  lenT : A.T.length = H.told.length
  desk : ∀ i D s, A.D[i]? = some D → H.desks[i]? = some s → DeskAt CD o σ (b, 10 + 2 * i) D s
  told : ∀ i a ms, A.T[i]? = some a → H.told[i]? = some ms → At o σ (b, 11 + 2 * i) a (.list (ms.map mk))
theorem tg_e {a i : Nat} (h : a < 10) : a ≠ 10 + 2 * i := by omega
theorem tg_o {a i : Nat} (h : a < 10) : a ≠ 11 + 2 * i := by omega
theorem tg_eo (i j : Nat) : 10 + 2 * i ≠ 11 + 2 * j := by omega
theorem tg_ee {i j : Nat} (h : i ≠ j) : 10 + 2 * i ≠ 10 + 2 * j := by omega
theorem tg_oo {i j : Nat} (h : i ≠ j) : 11 + 2 * i ≠ 11 + 2 * j := by omega
/-- what stays where one part changes -/
structure HBut (CH CD : Addr) (o : Own) (σ : Sto) (b j : Nat) (A : HA) (H : Hs) : Prop where
  x : j ≠ 0 → At o σ (b, 0) A.x (.inst CH A.d)
  d : j ≠ 0 → At o σ (b, 0) A.d (.ns (houseNs A))
  ds : j ≠ 1 → At o σ (b, 1) A.ds (.list (A.D.map fun D => .ref D.x))
  rd : j ≠ 2 → At o σ (b, 2) A.rd (.list (H.road.map mailAV))
  ow : j ≠ 3 → At o σ (b, 3) A.ow (.list (H.owners.map .int))
  wr : j ≠ 4 → At o σ (b, 4) A.wr (.list (H.wrote.map .str))
  td : j ≠ 5 → At o σ (b, 5) A.td (.list (A.T.map .ref))
  fn : j ≠ 6 → At o σ (b, 6) A.fn (.list (H.finals.map finAV))
  desk : ∀ i D s, j ≠ 10 + 2 * i → A.D[i]? = some D → H.desks[i]? = some s → DeskAt CD o σ (b, 10 + 2 * i) D s
  told : ∀ i a ms, j ≠ 11 + 2 * i → A.T[i]? = some a → H.told[i]? = some ms → At o σ (b, 11 + 2 * i) a (.list (ms.map mk))
theorem fam {b j : Nat} {o o' : Own} {σ σ' : Sto} (c : Chg (· = (b, j)) o σ o' σ') : Chg (·.1 = b) o σ o' σ' := c.mono fun _ z => by rw [z]
section
variable {CH CD : Addr} {o o' : Own} {σ σ' : Sto} {b : Nat} {A : HA} {H : Hs} {T : Tag → Prop}
theorem HouseAt.chg (x : HouseAt CH CD o σ b A H) (c : Chg T o σ o' σ') (n : ∀ j, ¬ T (b, j)) : HouseAt CH CD o' σ' b A H :=
  ⟨x.x.chg c (n _), x.d.chg c (n _), x.ds.chg c (n _), x.rd.chg c (n _), x.ow.chg c (n _), x.wr.chg c (n _), x.td.chg c (n _), x.fn.chg c (n _), x.len, x.lenT, fun i D s h1 h2 => (x.desk i D s h1 h2).chg c (n _), fun i a ms h1 h2 => (x.told i a ms h1 h2).chg c (n _)⟩
theorem HouseAt.but {j : Nat} (x : HouseAt CH CD o σ b A H) (c : Chg (· = (b, j)) o σ o' σ') : HBut CH CD o' σ' b j A H :=
  have n : ∀ {i}, j ≠ i → ¬ ((b, i) = (b, j)) := fun h z => h (congrArg Prod.snd z).symm
  ⟨fun h => x.x.chg c (n h), fun h => x.d.chg c (n h), fun h => x.ds.chg c (n h), fun h => x.rd.chg c (n h), fun h => x.ow.chg c (n h), fun h => x.wr.chg c (n h), fun h => x.td.chg c (n h), fun h => x.fn.chg c (n h), fun i D s h h1 h2 => (x.desk i D s h1 h2).chg c (n h), fun i a ms h h1 h2 => (x.told i a ms h1 h2).chg c (n h)⟩
theorem HouseAt.road (x : HouseAt CH CD o σ b A H) (r : List Mail) : HouseAt CH CD o (upd σ A.rd (.list (r.map mailAV))) b A { H with road := r } ∧ Chg (·.1 = b) o σ o (upd σ A.rd (.list (r.map mailAV))) :=
  have c : Chg (· = (b, 2)) o σ o (upd σ A.rd (.list (r.map mailAV))) := .put x.rd rfl
  have k := x.but c
  ⟨⟨k.x (by decide), k.d (by decide), k.ds (by decide), x.rd.put, k.ow (by decide), k.wr (by decide), k.td (by decide), k.fn (by decide), x.len, x.lenT, fun i D s => k.desk i D s (tg_e (by decide)), fun i a ms => k.told i a ms (tg_o (by decide))⟩, fam c⟩
theorem HouseAt.owners (x : HouseAt CH CD o σ b A H) (r : List Int) : HouseAt CH CD o (upd σ A.ow (.list (r.map .int))) b A { H with owners := r } ∧ Chg (·.1 = b) o σ o (upd σ A.ow (.list (r.map .int))) :=
  have c : Chg (· = (b, 3)) o σ o (upd σ A.ow (.list (r.map .int))) := .put x.ow rfl
  have k := x.but c
  ⟨⟨k.x (by decide), k.d (by decide), k.ds (by decide), k.rd (by decide), x.ow.put, k.wr (by decide), k.td (by decide), k.fn (by decide), x.len, x.lenT, fun i D s => k.desk i D s (tg_e (by decide)), fun i a ms => k.told i a ms (tg_o (by decide))⟩, fam c⟩
theorem HouseAt.wrote (x : HouseAt CH CD o σ b A H) (r : List Str) : HouseAt CH CD o (upd σ A.wr (.list (r.map .str))) b A { H with wrote := r } ∧ Chg (·.1 = b) o σ o (upd σ A.wr (.list (r.map .str))) :=
  have c : Chg (· = (b, 4)) o σ o (upd σ A.wr (.list (r.map .str))) := .put x.wr rfl
  have k := x.but c
  ⟨⟨k.x (by decide), k.d (by decide), k.ds (by decide), k.rd (by decide), k.ow (by decide), x.wr.put, k.td (by decide), k.fn (by decide), x.len, x.lenT, fun i D s => k.desk i D s (tg_e (by decide)), fun i a ms => k.told i a ms (tg_o (by decide))⟩, fam c⟩
theorem HouseAt.finals (x : HouseAt CH CD o σ b A H) (r : List (Option Mark)) : HouseAt CH CD o (upd σ A.fn (.list (r.map finAV))) b A { H with finals := r } ∧ Chg (·.1 = b) o σ o (upd σ A.fn (.list (r.map finAV))) :=
  have c : Chg (· = (b, 6)) o σ o (upd σ A.fn (.list (r.map finAV))) := .put x.fn rfl
  have k := x.but c
  ⟨⟨k.x (by decide), k.d (by decide), k.ds (by decide), k.rd (by decide), k.ow (by decide), k.wr (by decide), k.td (by decide), x.fn.put, x.len, x.lenT, fun i D s => k.desk i D s (tg_e (by decide)), fun i a ms => k.told i a ms (tg_o (by decide))⟩, fam c⟩
theorem app_get {α : Type} {l : List α} {a b : α} {i : Nat} (h : (l ++ [a])[i]? = some b) : (i < l.length ∧ l[i]? = some b) ∨ (i = l.length ∧ b = a) := by
  by_cases q : i < l.length
  · rw [List.getElem?_append_left q] at h; exact .inl ⟨q, h⟩
  · have hi := (List.getElem?_eq_some_iff.mp h).1
    simp at hi
    have : i = l.length := by omega
    subst this
    simp at h
    exact .inr ⟨rfl, h.symm⟩
/-- a letter is sent -/
theorem set_get {α : Type} {l : List α} {i j : Nat} {v w : α} (h : (l.set i v)[j]? = some w) : (j = i ∧ w = v ∧ i < l.length) ∨ (j ≠ i ∧ l[j]? = some w) := by
  rw [List.getElem?_set] at h
  by_cases e : i = j
  · rw [if_pos e] at h
    split at h
    · rename_i hl; cases h; exact .inl ⟨e.symm, rfl, hl⟩
    · cases h
  · rw [if_neg e] at h; exact .inr ⟨fun z => e z.symm, h⟩
/-- a desk has turned -/
theorem HouseAt.setDesk {i : Nat} {D : DA} {s : Dk} (x : HouseAt CH CD o σ b A H) (c : Chg (· = (b, 10 + 2 * i)) o σ o' σ') (hi : i < H.desks.length) (hx : ∀ D', A.D[i]? = some D' → D'.x = D.x) (S : DeskAt CD o' σ' (b, 10 + 2 * i) D s) :
    HouseAt CH CD o' σ' b { A with D := A.D.set i D } { H with desks := H.desks.set i s } := by
  have k := x.but c
  have n : ∀ {a}, a < 10 → 10 + 2 * i ≠ a := fun h => Ne.symm (tg_e h)
  refine ⟨k.x (n (by decide)), k.d (n (by decide)), ?_, k.rd (n (by decide)), k.ow (n (by decide)), k.wr (n (by decide)), k.td (n (by decide)), k.fn (n (by decide)), ?_, x.lenT, fun j D' s' h1 h2 => ?_, fun j a ms => k.told j a ms (tg_eo _ _)⟩
  · show At o' σ' (b, 1) A.ds (.list ((A.D.set i D).map fun D => .ref D.x))
    have e : (A.D.set i D).map (fun D => AV.ref D.x) = A.D.map fun D => .ref D.x := by
      have hl : i < A.D.length := by rw [x.len]; exact hi
      rw [List.map_set]
      refine List.ext_getElem? fun j => ?_
      rw [List.getElem?_set]
      split
      · next q => subst q; rw [if_pos (by rw [List.length_map]; exact hl), List.getElem?_map, List.getElem?_eq_getElem hl]; exact congrArg (fun x => some (AV.ref x)) (hx _ (List.getElem?_eq_getElem hl)).symm
      · rfl
    rw [e]; exact k.ds (n (by decide))
  · show (A.D.set i D).length = (H.desks.set i s).length
    rw [List.length_set, List.length_set]; exact x.len
  · rcases set_get h1 with ⟨rfl, rfl, _⟩ | ⟨q, h1⟩
    · rcases set_get h2 with ⟨_, rfl, _⟩ | ⟨q, _⟩
      · exact S
      · exact absurd rfl q
    · rcases set_get h2 with ⟨z, _⟩ | ⟨_, h2⟩
      · exact absurd z q
      · exact k.desk j D' s' (tg_ee (Ne.symm q)) h1 h2
/-- a told list has turned -/
theorem HouseAt.setTold {i : Nat} {a : Addr} {ms : List Mark} (x : HouseAt CH CD o σ b A H) (ha : A.T[i]? = some a) (hi : i < H.told.length) : HouseAt CH CD o (upd σ a (.list (ms.map Mine.mk))) b A { H with told := H.told.set i ms } ∧ Chg (·.1 = b) o σ o (upd σ a (.list (ms.map Mine.mk))) := by
  have X := x.told i a _ ha (List.getElem?_eq_getElem hi)
  have c : Chg (· = (b, 11 + 2 * i)) o σ o (upd σ a (.list (ms.map Mine.mk))) := .put X rfl
  have k := x.but c
  have n : ∀ {a}, a < 10 → 11 + 2 * i ≠ a := fun h => Ne.symm (tg_o h)
  refine ⟨⟨k.x (n (by decide)), k.d (n (by decide)), k.ds (n (by decide)), k.rd (n (by decide)), k.ow (n (by decide)), k.wr (n (by decide)), k.td (n (by decide)), k.fn (n (by decide)), x.len, ?_, fun j D s => k.desk j D s (Ne.symm (tg_eo _ _)), fun j a' ms' h1 h2 => ?_⟩, fam c⟩
  · show A.T.length = (H.told.set i ms).length
    rw [List.length_set]; exact x.lenT
  rcases set_get h2 with ⟨rfl, rfl, _⟩ | ⟨q, h2⟩
  · rw [ha] at h1; cases h1; exact X.put
  · exact k.told j a' ms' (tg_oo (Ne.symm q)) h1 h2
/-- a new told list -/
theorem HouseAt.addTold {a : Addr} {ms : List Mark} (x : HouseAt CH CD o σ b A H) (X : At o σ (b, 11 + 2 * H.told.length) a (.list (ms.map Mine.mk))) : HouseAt CH CD o (upd σ A.td (.list ((A.T ++ [a]).map .ref))) b { A with T := A.T ++ [a] } { H with told := H.told ++ [ms] } ∧ Chg (·.1 = b) o σ o (upd σ A.td (.list ((A.T ++ [a]).map .ref))) := by
  have c : Chg (· = (b, 5)) o σ o (upd σ A.td (.list ((A.T ++ [a]).map .ref))) := .put x.td rfl
  have k := x.but c
  refine ⟨⟨k.x (by decide), k.d (by decide), k.ds (by decide), k.rd (by decide), k.ow (by decide), k.wr (by decide), x.td.put, k.fn (by decide), x.len, ?_, fun j D s => k.desk j D s (tg_e (by decide)), fun j a' ms' h1 h2 => ?_⟩, fam c⟩
  · show (A.T ++ [a]).length = (H.told ++ [ms]).length
    rw [List.length_append, List.length_append, x.lenT]; rfl
  · rcases app_get h1 with ⟨_, h1⟩ | ⟨rfl, rfl⟩
    · rcases app_get h2 with ⟨_, h2⟩ | ⟨rfl, _⟩
      · exact k.told j a' ms' (tg_o (by decide)) h1 h2
      · exact absurd (List.getElem?_eq_some_iff.mp h1).1 (by rw [x.lenT]; exact Nat.lt_irrefl _)
    · rw [x.lenT] at h2 ⊢
      rcases app_get h2 with ⟨z, _⟩ | ⟨_, rfl⟩
      · exact absurd z (Nat.lt_irrefl _)
      · exact X.chg c fun z => absurd (congrArg Prod.snd z) (Ne.symm (tg_o (a := 5) (by decide)))
end
end Mine
set_option maxRecDepth 100000
set_option linter.unusedSimpArgs false
set_option linter.unusedVariables false
namespace Mine
open PySem PyProof.Rows

/-- what the methods of a house reach -/
structure HF (G : PG) (CH CD : Addr) : Prop where
  cls : Cls G CH houseAs
  dcl : Cls G CD deskAs
  place : ∃ f, Fn1 G "is_place" ["thing", "many"] cis_place f
  less : ∃ f, Fn1 G "less" ["one", "other"] cless f
  great : ∃ f, Fn1 G "greatest" ["marks"] cgreatest f
  prop : ∃ f, Mt G CD "propose" ["self", "letter"] cDesk_propose f
  opn : ∃ f, Mt G CD "open_place" ["self", "letter"] cDesk_open_place f
  sett : ∃ f, Mt G CD "settle" ["self", "letter", "mark"] cDesk_settle f
  least : ∃ f, Mt G CD "least_place" ["self"] cDesk_least_place f
  dhand : ∃ f, Mt G CD "handed" ["self"] cDesk_handed f
  dclock : ∃ f, Mt G CD "clock" ["self"] cDesk_clock f
  needh : ∃ f, Mt G CH "need_hand" ["self", "hand"] cHouse_need_hand f
  needl : ∃ f, Mt G CH "need_letter" ["self", "letter"] cHouse_need_letter f
  toO : ∃ f, Mt G CH "to_others" ["self", "word", "letter", "mark"] cHouse_to_others f
  close : ∃ f, Mt G CH "close" ["self", "letter"] cHouse_close f
  tw : ∃ C, G.mg "Twice" = some (.ref C) ∧ ExcOk G "Twice" C
  no : ∃ C, G.mg "NotOpen" = some (.ref C) ∧ ExcOk G "NotOpen" C
  bm : ∃ C, G.mg "BadMark" = some (.ref C) ∧ ExcOk G "BadMark" C
section
variable {G : PG} {n : Nat} {ρ : Loc} {σ : Sto} {Φ : PE} {Ψ : PY} {f CH CD : Addr} {o : Own} {b : Nat} {A : HA} {H : Hs}
theorem place_is {i m : Int} (F : Fn1 G "is_place" ["thing", "many"] cis_place f) : CallIs G (n + 1) f [.int i, .int m] σ (.bool (decide (0 ≤ i) && decide (i < m))) := fun Φ Ψ h =>
  F.bd rfl fun ρ K X L hr _ _ => by
    refine g_ret (ev_andT (ev_bi (es_cons (ev_nm (L _ _ rfl)) (es_cons (ev_gl d_int) es_nil)) (d_isi rfl rfl)) (ev_andT (ev_notT (ev_bi (es_cons (ev_nm (L _ _ rfl)) (es_cons (ev_gl d_bool) es_nil)) (d_isi rfl rfl))) (ev_and1 (v := .bool (decide (0 ≤ i) && decide (i < m))) ?_))) (hr _ _ _ h)
    by_cases q : 0 ≤ i
    · rw [decide_eq_true q]; exact ev_cmp2T ev_cst (ev_nm (L _ _ rfl)) (ev_nm (L _ _ rfl)) (d_leT q) d_lt
    · rw [decide_eq_false q]; exact ev_cmp2F ev_cst (ev_nm (L _ _ rfl)) (d_leF q)
theorem place_T {i m : Int} (F : Fn1 G "is_place" ["thing", "many"] cis_place f) (h0 : 0 ≤ i) (h1 : i < m) : CallIs G (n + 1) f [.int i, .int m] σ (.bool true) := by
  have := place_is (i := i) (m := m) (n := n) (σ := σ) F
  rw [decide_eq_true h0, decide_eq_true h1] at this; exact this
variable (X : HouseAt CH CD o σ b A H)
include X
/-- a house's attribute -/
theorem HouseAt.attr {k : Str} {v : AV} (Z : HF G CH CD) (ha : k ∈ houseAs) (hl : (houseNs A).lookup k = some v) (hv : v.novalue = true) (l1 : ρ.lookup (Str.ofString "self") = some (.ref A.x)) : Ev G n ρ σ (.attr (.nm "self") k) v := ev_attr (ev_nm l1) (d_attr Z.cls X.x.at_ X.d.at_ ha hl hv)
theorem ev_desk {i : Int} {D : DA} {e : Ex} (Z : HF G CH CD) (h0 : 0 ≤ i) (hz : H.desks.length < 10000) (h : A.D[i.toNat]? = some D) (l1 : ρ.lookup (Str.ofString "self") = some (.ref A.x)) (he : Ev G n ρ σ e (.int i)) : Ev G n ρ σ (.sub (.attr (.nm "self") "desks") e) (.ref D.x) :=
  ev_sub (X.attr Z (by decide) rfl rfl l1) he (d_at X.ds.lst (by rw [List.length_map, X.len]; exact Nat.lt_trans hz (by decide)) h0 (by rw [List.getElem?_map, h]; rfl))
theorem ev_owner {i w : Int} {e : Ex} (Z : HF G CH CD) (h0 : 0 ≤ i) (hz : H.owners.length < 10000) (h : H.owners[i.toNat]? = some w) (l1 : ρ.lookup (Str.ofString "self") = some (.ref A.x)) (he : Ev G n ρ σ e (.int i)) : Ev G n ρ σ (.sub (.attr (.nm "self") "owners") e) (.int w) :=
  ev_sub (X.attr Z (by decide) rfl rfl l1) he (d_at X.ow.lst (by rw [List.length_map]; exact Nat.lt_trans hz (by decide)) h0 (by rw [List.getElem?_map, h]; rfl))
theorem ev_told {i : Int} {a : Addr} {e : Ex} (Z : HF G CH CD) (h0 : 0 ≤ i) (hz : H.told.length < 10000) (h : A.T[i.toNat]? = some a) (l1 : ρ.lookup (Str.ofString "self") = some (.ref A.x)) (he : Ev G n ρ σ e (.int i)) : Ev G n ρ σ (.sub (.attr (.nm "self") "told") e) (.ref a) :=
  ev_sub (X.attr Z (by decide) rfl rfl l1) he (d_at X.td.lst (by rw [List.length_map, X.lenT]; exact Nat.lt_trans hz (by decide)) h0 (by rw [List.getElem?_map, h]; rfl))
theorem ev_hands (Z : HF G CH CD) (hz : H.desks.length < 10000) (l1 : ρ.lookup (Str.ofString "self") = some (.ref A.x)) : Ev G n ρ σ (.bi "len" [(.attr (.nm "self") "desks")]) (.int H.desks.length) := by
  rw [← X.len]
  exact ev_bi (es_cons (X.attr Z (by decide) rfl rfl l1) es_nil) (d_lenM X.ds.lst (by rw [X.len]; exact Nat.lt_trans hz (by decide)))
theorem ev_letters (Z : HF G CH CD) (hz : H.owners.length < 10000) (l1 : ρ.lookup (Str.ofString "self") = some (.ref A.x)) : Ev G n ρ σ (.bi "len" [(.attr (.nm "self") "owners")]) (.int H.owners.length) := ev_bi (es_cons (X.attr Z (by decide) rfl rfl l1) es_nil) (d_lenM X.ow.lst (Nat.lt_trans hz (by decide)))
theorem ev_mails (Z : HF G CH CD) (hz : H.road.length < 100000) (l1 : ρ.lookup (Str.ofString "self") = some (.ref A.x)) : Ev G n ρ σ (.bi "len" [(.attr (.nm "self") "road")]) (.int H.road.length) := ev_bi (es_cons (X.attr Z (by decide) rfl rfl l1) es_nil) (d_lenM X.rd.lst (Nat.lt_trans hz (by decide)))
theorem need_hand_ok {i : Int} (Z : HF G CH CD) (M : Mt G CH "need_hand" ["self", "hand"] cHouse_need_hand f) (hz : H.desks.length < 10000) (h0 : 0 ≤ i) (h1 : i < H.desks.length) (h : Φ .none σ) : WC G (n + 2) (.ref f) [.ref A.x, .int i] σ Φ Ψ :=
  M.bd rfl fun ρ K _ L hr hn _ => Z.place.elim fun fp P => g_if0 (et_notF (et_call (ev_call P (es_cons (ev_nm (L _ _ rfl)) (es_cons (ev_hands X Z hz (L _ _ rfl)) es_nil)) (place_T P h0 h1)))) (g_nil (hn _ _ h))
theorem need_letter_ok {i : Int} (Z : HF G CH CD) (M : Mt G CH "need_letter" ["self", "letter"] cHouse_need_letter f) (hz : H.owners.length < 10000) (h0 : 0 ≤ i) (h1 : i < H.owners.length) (h : Φ .none σ) : WC G (n + 2) (.ref f) [.ref A.x, .int i] σ Φ Ψ :=
  M.bd rfl fun ρ K _ L hr hn _ => Z.place.elim fun fp P => g_if0 (et_notF (et_call (ev_call P (es_cons (ev_nm (L _ _ rfl)) (es_cons (ev_letters X Z hz (L _ _ rfl)) es_nil)) (place_T P h0 h1)))) (g_nil (hn _ _ h))
theorem letters_ok (Z : HF G CH CD) (M : Mt G CH "letters" ["self"] cHouse_letters f) (hz : H.owners.length < 10000) (h : Φ (.int H.owners.length) σ) : WC G (n + 1) (.ref f) [.ref A.x] σ Φ Ψ :=
  M.bd rfl fun ρ K _ L hr hn _ => g_ret (ev_letters X Z hz (L _ _ rfl)) (hr _ _ _ h)
theorem mails_ok (Z : HF G CH CD) (M : Mt G CH "mails" ["self"] cHouse_mails f) (hz : H.road.length < 100000) (h : ∀ a, σ a = none → Ext σ (upd σ a (.list (H.road.map mailAV))) → Φ (.ref a) (upd σ a (.list (H.road.map mailAV)))) : WC G (n + 1) (.ref f) [.ref A.x] σ Φ Ψ :=
  M.bd rfl fun ρ K _ L hr hn _ => g_retL (X.attr Z (by decide) rfl rfl (L _ _ rfl)) X.rd.lst (by rw [List.length_map]; exact Nat.le_of_lt (Nat.lt_trans hz (by decide))) fun a ha x => hr _ _ _ (h a ha x)
theorem mark_of_ok {i : Int} {m : Option Mark} (Z : HF G CH CD) (M : Mt G CH "mark" ["self", "letter"] cHouse_mark f) (hz : H.owners.length < 10000) (h0 : 0 ≤ i) (h1 : i < H.owners.length) (hf : H.finals.length < 10000) (hm : H.finals[i.toNat]? = some m) (h : Φ (finAV m) σ) : WC G (n + 3) (.ref f) [.ref A.x, .int i] σ Φ Ψ :=
  M.bd rfl fun ρ K _ L hr hn _ => Z.needl.elim fun fl N => g_exprM N (ev_nm (L _ _ rfl)) X.x.at_ X.d.at_ rfl (es_cons (ev_nm (L _ _ rfl)) es_nil) (need_letter_ok X Z N hz h0 h1
    (g_ret (ev_sub (X.attr Z (by decide) rfl rfl (L _ _ rfl)) (ev_nm (L _ _ rfl)) (d_at X.fn.lst (by rw [List.length_map]; exact Nat.lt_trans hf (by decide)) h0 (by rw [List.getElem?_map, hm]; rfl))) (hr _ _ _ h)))
theorem house_handed_ok {i : Int} {s : Dk} (Z : HF G CH CD) (M : Mt G CH "handed" ["self", "hand"] cHouse_handed f) (hz : H.desks.length < 10000) (h0 : 0 ≤ i) (hs : H.desks[i.toNat]? = some s) (hg : s.gone.length < 10000) (h : ∀ a, σ a = none → Ext σ (upd σ a (.list (s.gone.map .int))) → Φ (.ref a) (upd σ a (.list (s.gone.map .int)))) : WC G (n + 3) (.ref f) [.ref A.x, .int i] σ Φ Ψ := by
  have hl := (List.getElem?_eq_some_iff.mp hs).1
  have hD : A.D[i.toNat]? = some (A.D[i.toNat]'(by rw [X.len]; exact hl)) := List.getElem?_eq_getElem _
  exact M.bd rfl fun ρ K _ L hr hn _ => Z.needh.elim fun fl N => g_exprM N (ev_nm (L _ _ rfl)) X.x.at_ X.d.at_ rfl (es_cons (ev_nm (L _ _ rfl)) es_nil) (need_hand_ok X Z N hz h0 (by first | decide | (with_reducible first | exact lv hn | exact lv1 hn | exact lv2 hn | exact Int.natCast_nonneg _) | omega)
    (Z.dhand.elim fun fd Dh => g_retM Dh (ev_desk X Z h0 hz hD (L _ _ rfl) (ev_nm (L _ _ rfl))) (X.desk _ _ _ hD hs).x.at_ (X.desk _ _ _ hD hs).d.at_ rfl es_nil (handed_ok Dh Z.dcl (X.desk _ _ _ hD hs) hg fun a ha x => hr _ _ _ (h a ha x))))
omit X
/-- the mails to the others -/
noncomputable def others (n : Nat) (ow : Int) (w : Str) (l : Int) (m : Option Mark) : List Mail := ((List.range n).filter fun (h : Nat) => (h : Int) != ow).map fun (h : Nat) => (w, l, ow, (h : Int), m)
theorem others_succ (i : Nat) (ow : Int) (w : Str) (l : Int) (m : Option Mark) : others (i + 1) ow w l m = others i ow w l m ++ (if (i : Int) = ow then [] else [(w, l, ow, (i : Int), m)]) := by
  unfold others
  rw [List.range_succ, List.filter_append, List.map_append]
  congr 1
  by_cases q : (i : Int) = ow
  · simp [q]
  · simp [q, List.filter_cons]
theorem others_len (n : Nat) (ow : Int) (w : Str) (l : Int) (m : Option Mark) : (others n ow w l m).length ≤ n := by
  unfold others
  rw [List.length_map]
  exact Nat.le_trans (List.length_filter_le _ _) (by simp)
theorem to_others_ok {w : Str} {l : Int} {m : Option Mark} {ow : Int} (hn : 10 ≤ n) (Z : HF G CH CD) (M : Mt G CH "to_others" ["self", "word", "letter", "mark"] cHouse_to_others f) (X : HouseAt CH CD o σ b A H) (h0 : 0 ≤ l) (hw : H.owners[l.toNat]? = some ow) (z1 : H.desks.length < 1000) (z2 : H.owners.length < 10000) (z3 : H.road.length < 100000)
    (k : ∀ σ', Chg (·.1 = b) o σ o σ' → HouseAt CH CD o σ' b A { H with road := H.road ++ others H.desks.length ow w l m } → Φ .none σ') : WC G (n + 1) (.ref f) [.ref A.x, .str w, .int l, finAV m] σ Φ Ψ := by
  refine M.bd rfl fun ρ K _ L hr hn' _ => ?_
  have l1 := L "self" _ rfl
  refine g_asg (ev_owner X Z h0 z2 hw l1 (ev_nm (L "letter" _ rfl))) ?_
  have z1' := Nat.lt_trans z1 (show 1000 < 10000 by decide)
  refine g_forN hn (ev_hands X Z z1' (lk_ne (by decide) l1)) (Nat.lt_trans z1 (by decide)) (fun i ρ₂ σ₂ => Chg (·.1 = b) o σ o σ₂ ∧ HouseAt CH CD o σ₂ b A { H with road := H.road ++ others i ow w l m } ∧ (ρ₂.lookup (Str.ofString "self") = some (.ref A.x) ∧ ρ₂.lookup (Str.ofString "word") = some (.str w) ∧ ρ₂.lookup (Str.ofString "letter") = some (.int l) ∧ ρ₂.lookup (Str.ofString "owner") = some (.int ow) ∧ ρ₂.lookup (Str.ofString "mark") = some (finAV m)))
    ⟨.refl, ?_, lk_ne (by decide) l1, lk_ne (by decide) (L "word" _ rfl), lk_ne (by decide) (L "letter" _ rfl), lk_eq, lk_ne (by decide) (L "mark" _ rfl)⟩ (fun i K₂ ρ₂ σ₂ hi hI k1 _ => ?_) fun ρ₂ σ₂ hI => g_nil (hn' _ _ (k σ₂ hI.1 hI.2.1))
  · show HouseAt CH CD o σ b A { H with road := H.road ++ [] }
    rw [List.append_nil]; exact X
  have X₂ := hI.2.1
  have ll := hI.2.2
  have go : ∀ σ₃, Chg (·.1 = b) o σ o σ₃ → HouseAt CH CD o σ₃ b A { H with road := H.road ++ others (i + 1) ow w l m } → K₂ .next (putA "hand" (.int i) ρ₂) σ₃ := fun σ₃ c₃ X₃ => k1 _ _ ⟨c₃, X₃, lk_ne (by decide) ll.1, lk_ne (by decide) ll.2.1, lk_ne (by decide) ll.2.2.1, lk_ne (by decide) ll.2.2.2.1, lk_ne (by decide) ll.2.2.2.2⟩
  by_cases q : (i : Int) = ow
  · refine g_if0 (et_cmp (ev_nm lk_eq) (ev_nm (lk_ne (by decide) ll.2.2.2.1)) (d_neF q)) (go σ₂ hI.1 ?_)
    rw [others_succ, if_pos q, List.append_nil]; exact X₂
  · have e : mailAV (w, l, ow, (i : Int), m) = .tup [.str w, .int l, .int ow, .int i, finAV m] := by cases m <;> rfl
    refine g_iteT (et_cmp (ev_nm lk_eq) (ev_nm (lk_ne (by decide) ll.2.2.2.1)) (d_neT q)) (g_app (X₂.attr Z (by decide) rfl rfl (lk_ne (by decide) ll.1)) X₂.rd.at_ (ev_tup (es_cons (ev_nm (lk_ne (by decide) ll.2.1)) (es_cons (ev_nm (lk_ne (by decide) ll.2.2.1)) (es_cons (ev_nm (lk_ne (by decide) ll.2.2.2.1)) (es_cons (ev_nm lk_eq) (es_cons (ev_nm (lk_ne (by decide) ll.2.2.2.2)) es_nil))))) (Nat.le_of_ble_eq_true rfl)) ?_ ?_)
    · have hol := others_len i ow w l m
      rw [List.length_map, List.length_append]; unfold sizeLine; omega
    · obtain ⟨X₃, c3⟩ := X₂.road ((H.road ++ others i ow w l m) ++ [(w, l, ow, (i : Int), m)])
      rw [List.map_append (l₂ := [_]), List.map_singleton, e] at X₃ c3
      refine go _ (hI.1.trans c3) ?_
      rw [others_succ, if_neg q, ← List.append_assoc]; exact X₃
end
end Mine
set_option maxRecDepth 100000
set_option linter.unusedSimpArgs false
set_option linter.unusedVariables false
namespace Mine
open PySem PyProof.Rows

section
variable {G : PG} {n : Nat} {ρ : Loc} {σ : Sto} {Φ : PE} {Ψ : PY} {f CH CD : Addr} {o : Own} {b : Nat} {A : HA} {H : Hs}
variable (X : HouseAt CH CD o σ b A H)
include X
theorem sender_ok {i w : Int} (Z : HF G CH CD) (M : Mt G CH "sender" ["self", "letter"] cHouse_sender f) (hz : H.owners.length < 10000) (h0 : 0 ≤ i) (hw : H.owners[i.toNat]? = some w) (h : Φ (.int w) σ) : WC G (n + 3) (.ref f) [.ref A.x, .int i] σ Φ Ψ :=
  have hl := (List.getElem?_eq_some_iff.mp hw).1
  M.bd rfl fun ρ K _ L hr hn _ => Z.needl.elim fun fl N => g_exprM N (ev_nm (L _ _ rfl)) X.x.at_ X.d.at_ rfl (es_cons (ev_nm (L _ _ rfl)) es_nil) (need_letter_ok X Z N hz h0 (by first | decide | (with_reducible first | exact lv hn | exact lv1 hn | exact lv2 hn | exact Int.natCast_nonneg _) | omega) (g_ret (ev_owner X Z h0 hz hw (L _ _ rfl) (ev_nm (L _ _ rfl))) (hr _ _ _ h)))
theorem text_ok {i : Int} {x : Str} (Z : HF G CH CD) (M : Mt G CH "text" ["self", "letter"] cHouse_text f) (hz : H.owners.length < 10000) (h0 : 0 ≤ i) (h1 : i < H.owners.length) (hf : H.wrote.length < 10000) (hw : H.wrote[i.toNat]? = some x) (h : Φ (.str x) σ) : WC G (n + 3) (.ref f) [.ref A.x, .int i] σ Φ Ψ :=
  M.bd rfl fun ρ K _ L hr hn _ => Z.needl.elim fun fl N => g_exprM N (ev_nm (L _ _ rfl)) X.x.at_ X.d.at_ rfl (es_cons (ev_nm (L _ _ rfl)) es_nil) (need_letter_ok X Z N hz h0 h1
    (g_ret (ev_sub (X.attr Z (by decide) rfl rfl (L _ _ rfl)) (ev_nm (L _ _ rfl)) (d_at X.wr.lst (by rw [List.length_map]; exact Nat.lt_trans hf (by decide)) h0 (by rw [List.getElem?_map, hw]; rfl))) (hr _ _ _ h)))
theorem house_clock_ok {i : Int} {s : Dk} (Z : HF G CH CD) (M : Mt G CH "clock" ["self", "hand"] cHouse_clock f) (hz : H.desks.length < 10000) (h0 : 0 ≤ i) (hs : H.desks[i.toNat]? = some s) (h : Φ (.int s.hours) σ) : WC G (n + 3) (.ref f) [.ref A.x, .int i] σ Φ Ψ := by
  have hl := (List.getElem?_eq_some_iff.mp hs).1
  have hD : A.D[i.toNat]? = some (A.D[i.toNat]'(by rw [X.len]; exact hl)) := List.getElem?_eq_getElem _
  exact M.bd rfl fun ρ K _ L hr hn _ => Z.needh.elim fun fl N => g_exprM N (ev_nm (L _ _ rfl)) X.x.at_ X.d.at_ rfl (es_cons (ev_nm (L _ _ rfl)) es_nil) (need_hand_ok X Z N hz h0 (by first | decide | (with_reducible first | exact lv hn | exact lv1 hn | exact lv2 hn | exact Int.natCast_nonneg _) | omega)
    (Z.dclock.elim fun fd Dh => g_retM Dh (ev_desk X Z h0 hz hD (L _ _ rfl) (ev_nm (L _ _ rfl))) (X.desk _ _ _ hD hs).x.at_ (X.desk _ _ _ hD hs).d.at_ rfl es_nil (clock_ok Dh Z.dcl (X.desk _ _ _ hD hs) (hr _ _ _ h))))
theorem bring_far {C : Addr} {i : Int} (hn : 10 ≤ n + 1) (Z : HF G CH CD) (M : Mt G CH "bring" ["self", "place"] cHouse_bring f) (mg : G.mg "NoMail" = some (.ref C)) (xc : ExcOk G "NoMail" C) (hz : H.road.length < 100000) (h : (H.road.length : Int) ≤ i) (r : Rz (Ψ (.ref C) σ)) : WC G (n + 2) (.ref f) [.ref A.x, .int i] σ Φ Ψ :=
  M.bd rfl fun ρ K _ L hr _ hx => Z.place.elim fun fp P => g_iteT (et_notT (et_call (ev_call P (es_cons (ev_nm (L _ _ rfl)) (es_cons (ev_mails X Z hz (L _ _ rfl)) es_nil)) (by
    have := place_is (i := i) (m := H.road.length) (n := n) (σ := σ) P
    rw [decide_eq_false (Int.not_lt.mpr h), Bool.and_false] at this; exact this)))) (do_raise mg hn xc (Rz.to r (hx _ _ _)))
end
end Mine
set_option maxRecDepth 100000
set_option linter.unusedSimpArgs false
set_option linter.unusedVariables false
namespace Mine
open PySem PyProof.Rows

noncomputable def big : List Mark → Mark
  | [] => (0, 0)
  | m :: ms => (m :: ms).foldl step1 m
/-- a letter is settled at a desk -/
noncomputable def Settles (s : Dk) (l : Int) (m : Mark) (s' : Dk) : Prop := ∃ i m0 fs rows', OpenAt s.rows l i ∧ s.rows[i]? = some (m0, l, false) ∧ ltM m m0 = false ∧ Del (s.rows.set i (m, l, true)) fs rows' ∧ s' = ⟨s.hand, max s.hours m.1, rows', s.known, s.gone ++ fs⟩
noncomputable def CanSettle (s : Dk) (l : Int) (m : Mark) : Prop := ¬ NoOpen s.rows l ∧ ∀ i m0, OpenAt s.rows l i → s.rows[i]? = some (m0, l, false) → ltM m m0 = false
noncomputable def Hs.toOthers (H : Hs) (w : Str) (l : Int) (ow : Int) (m : Option Mark) : Hs := { H with road := H.road ++ others H.desks.length ow w l m }
/-- a letter whose numbers are all told is closed -/
noncomputable def Closes (H : Hs) (l : Nat) (H' : Hs) : Prop := ∃ ms, H.told[l]? = some ms ∧ ((ms.length < H.desks.length ∧ H' = H) ∨
  (¬ ms.length < H.desks.length ∧ ∃ ow s s', H.owners[l]? = some ow ∧ H.desks[ow.toNat]? = some s ∧ Settles s l (big ms) s' ∧ H' = Hs.toOthers { H with finals := H.finals.set l (some (big ms)), desks := H.desks.set ow.toNat s' } "mark" l ow (some (big ms))))
structure CanClose (H : Hs) (l : Nat) (ow : Int) (ms : List Mark) (s : Dk) : Prop where
  told : H.told[l]? = some ms
  own : H.owners[l]? = some ow
  ow0 : 0 ≤ ow
  desk : H.desks[ow.toNat]? = some s
  fin : l < H.finals.length
  ne : ms ≠ []
  can : ¬ ms.length < H.desks.length → CanSettle s l (big ms)
/-- bounds -/
structure Small (H : Hs) : Prop where
  desks : H.desks.length < 1000
  road : H.road.length < 90000
  owners : H.owners.length < 9000
  told : H.told.length < 9000
  wrote : H.wrote.length < 9000
  finals : H.finals.length < 9000
  desk : ∀ s ∈ H.desks, s.rows.length < 9000 ∧ s.gone.length < 9000 ∧ s.known.length < 9000
  tolds : ∀ ms ∈ H.told, ms.length ≤ H.desks.length
section
variable {G : PG} {n : Nat} {ρ : Loc} {σ : Sto} {Φ : PE} {Ψ : PY} {f CH CD : Addr} {o : Own} {b : Nat} {A : HA} {H : Hs}
theorem big_is {fg r : Addr} {ms : List Mark} (F : Fn1 G "greatest" ["marks"] cgreatest f) (L : Fn1 G "less" ["one", "other"] cless fg) (hr : lstOf σ r = some (ms.map mk)) (hne : ms ≠ []) : CallIs G (n + 2) f [.ref r] σ (mk (big ms)) := by
  cases ms with
  | nil => exact absurd rfl hne
  | cons m ms => exact greatest_is F L hr
/-- a desk of the house settles -/
theorem desk_settle {i : Nat} {l : Int} {m : Mark} {D : DA} {s : Dk} (hn : 12 ≤ n) (Z : HF G CH CD) (X : HouseAt CH CD o σ b A H) (B : Small H) (hD : A.D[i]? = some D) (hs : H.desks[i]? = some s) (hc : CanSettle s l m)
    (k : ∀ v A' s' o' σ', Settles s l m s' → A'.x = A.x → Chg (·.1 = b) o σ o' σ' → HouseAt CH CD o' σ' b A' { H with desks := H.desks.set i s' } → Φ v σ') : ∃ fs, Mt G CD "settle" ["self", "letter", "mark"] cDesk_settle fs ∧ WC G (n + 1) (.ref fs) [.ref D.x, .int l, mk m] σ Φ Ψ := by
  obtain ⟨fs, St⟩ := Z.sett
  obtain ⟨fl, Le⟩ := Z.least
  obtain ⟨fo, Op⟩ := Z.opn
  obtain ⟨fg, Ls⟩ := Z.less
  obtain ⟨No, no, xn⟩ := Z.no
  obtain ⟨Bm, bm, xb⟩ := Z.bm
  have S := X.desk i D s hD hs
  obtain ⟨b1, b2, b3⟩ := B.desk s (List.mem_of_getElem? hs)
  refine ⟨fs, St, settle_ok hn St Le Op Ls Z.dcl no xn bm xb (b, 7) S (by first | decide | (with_reducible first | exact lv hn | exact lv1 hn | exact lv2 hn | exact Int.natCast_nonneg _) | omega) (by first | decide | (with_reducible first | exact lv hn | exact lv1 hn | exact lv2 hn | exact Int.natCast_nonneg _) | omega) (by simp; (first | with_reducible assumption | with_reducible exact Nat.lt_of_lt_of_le (by assumption) (by decide) | omega)) (fun j m0 f rows' a g' o' σ' h1 h2 h3 h4 c S' _ _ => ?_) (fun z => absurd z hc.1) fun j m0 h1 h2 h3 => ?_⟩
  · refine k _ { A with D := A.D.set i (D.setG g') } _ o' σ' ⟨j, m0, f, rows', h1, h2, h3, h4, rfl⟩ rfl (c.mono fun _ z => by rw [z]) (X.setDesk c ((List.getElem?_eq_some_iff.mp hs).1) (fun D' e => ?_) S')
    rw [hD] at e; cases e; rfl
  · rw [hc.2 j m0 h1 h2] at h3; cases h3
theorem close_ok {l : Nat} {ow : Int} {ms : List Mark} {s : Dk} (hn : 13 ≤ n) (Z : HF G CH CD) (M : Mt G CH "close" ["self", "letter"] cHouse_close f) (X : HouseAt CH CD o σ b A H) (B : Small H) (C : CanClose H l ow ms s)
    (k : ∀ A' H' o' σ', Closes H l H' → A'.x = A.x → Chg (·.1 = b) o σ o' σ' → HouseAt CH CD o' σ' b A' H' → Φ .none σ') : WC G (n + 1) (.ref f) [.ref A.x, .int l] σ Φ Ψ := by
  obtain ⟨n, rfl⟩ : ∃ j, n = j + 2 := by first | with_reducible exact Nat.exists_eq_add_of_le' (Nat.le_trans (by decide) hn) | exact ⟨n - 2, (by first | decide | (with_reducible first | exact lv hn | exact lv1 hn | exact lv2 hn | exact Int.natCast_nonneg _ | assumption) | omega)⟩
  refine M.bd rfl fun ρ K X' L hr hn' hx => ?_
  have l1 := L "self" _ rfl
  have l2 := L "letter" _ rfl
  obtain ⟨fg, Ls⟩ := Z.less
  obtain ⟨fG, Gr⟩ := Z.great
  obtain ⟨fT, To⟩ := Z.toO
  have hT : A.T[l]? = some (A.T[l]'(by rw [X.lenT]; exact (List.getElem?_eq_some_iff.mp C.told).1)) := List.getElem?_eq_getElem _
  have TT := X.told l _ ms hT C.told
  have hD : A.D[ow.toNat]? = some (A.D[ow.toNat]'(by rw [X.len]; exact (List.getElem?_eq_some_iff.mp C.desk).1)) := List.getElem?_eq_getElem _
  have b1 := Nat.lt_trans B.desks (show 1000 < 10000 by decide)
  have b3 := Nat.lt_trans B.owners (show 9000 < 10000 by decide)
  have td : ∀ {ρ : Loc}, ρ.lookup (Str.ofString "self") = some (.ref A.x) → ρ.lookup (Str.ofString "letter") = some (.int l) → Ev G (n + 2) ρ σ (.sub (.attr (.nm "self") "told") (.nm "letter")) _ := fun l1 l2 => ev_told X Z (Int.natCast_nonneg _) (Nat.lt_trans B.told (by decide)) (by rw [Int.toNat_natCast]; exact hT) l1 (ev_nm l2)
  have ct := ev_bi (es_cons (td l1 l2) es_nil) (d_lenM (G := G) (n := n + 2) TT.lst (Nat.lt_of_le_of_lt (B.tolds ms (List.mem_of_getElem? C.told)) (Nat.lt_trans b1 (by decide))))
  by_cases q : ms.length < H.desks.length
  · exact g_iteT (et_cmp ct (ev_hands X Z b1 l1) (d_ltT (Int.ofNat_lt.mpr q))) (g_ret0 (hr _ _ _ (k A H o σ ⟨ms, C.told, .inl ⟨q, rfl⟩⟩ rfl .refl X)))
  · refine g_if0 (et_cmp ct (ev_hands X Z b1 l1) (d_ltF fun z => q (Int.ofNat_lt.mp z))) (g_asg (ev_call Gr (es_cons (td l1 l2) es_nil) (big_is Gr Ls TT.lst C.ne)) ?_)
    have l1 := lk_ne (x := Str.ofString "mark") (a := mk (big ms)) (by decide) l1
    have l2 := lk_ne (x := Str.ofString "mark") (a := mk (big ms)) (by decide) l2
    have l3 := lk_eq (x := Str.ofString "mark") (a := mk (big ms)) (ρ := ρ)
    generalize putA (Str.ofString "mark") (mk (big ms)) ρ = ρ₁ at l1 l2 l3
    refine g_sitem (ev_nm l3) (X.attr Z (by decide) rfl rfl l1) (ev_nm l2) (si_nat X.fn.at_ (by rw [List.length_map]; exact C.fin) (by rw [List.length_map]; exact Nat.lt_trans B.finals (by decide)) ?_)
    have ef : (H.finals.map finAV).set l (mk (big ms)) = (H.finals.set l (some (big ms))).map finAV := by rw [List.map_set]; rfl
    rw [ef]
    obtain ⟨X₁, c1⟩ := X.finals (H.finals.set l (some (big ms)))
    generalize upd σ A.fn (.list ((H.finals.set l (some (big ms))).map finAV)) = σ₁ at X₁ c1
    have B₁ : Small { H with finals := H.finals.set l (some (big ms)) } := ⟨B.desks, B.road, B.owners, B.told, B.wrote, by simp only [List.length_set]; exact B.finals, B.desk, B.tolds⟩
    obtain ⟨fs, St, wc⟩ := desk_settle (n := n + 1) (l := l) (m := big ms) (Φ := fun _ σ₂ => tss G (n + 2) [.expr (.meth (.nm "self") "to_others" [(.cst (.str "mark")), (.nm "letter"), (.nm "mark")])] ρ₁ σ₂ K X') (Ψ := fun c σ₂ => X' c ρ₁ σ₂) (Nat.le_of_succ_le_succ hn) Z X₁ B₁ hD C.desk (C.can q) fun v A₂ s' o₂ σ₂ hS hx c2 X₂ => by
      rw [← hx] at l1
      refine g_exprM To (ev_nm l1) X₂.x.at_ X₂.d.at_ rfl (es_cons ev_cst (es_cons (ev_nm l2) (es_cons (ev_nm l3) es_nil))) (to_others_ok (m := some (big ms)) (ow := ow) (lv1 hn) Z To X₂ (Int.natCast_nonneg _) (by rw [Int.toNat_natCast]; exact C.own) (by simp only [List.length_set]; exact B.desks) b3 (Nat.lt_trans B.road (by decide)) fun σ₃ c3 X₃ => g_nil (hn' _ _ (k A₂ _ o₂ σ₃ ⟨ms, C.told, .inr ⟨q, ow, s, s', C.own, C.desk, hS, rfl⟩⟩ hx ((c1.trans c2).trans c3) X₃)))
    have S := X₁.desk _ _ _ hD C.desk
    exact g_exprM St (ev_desk X₁ Z C.ow0 b1 hD l1 (ev_owner X₁ Z (Int.natCast_nonneg _) b3 (by rw [Int.toNat_natCast]; exact C.own) l1 (ev_nm l2))) S.x.at_ S.d.at_ rfl (es_cons (ev_nm l2) (es_cons (ev_nm l3) es_nil)) wc
/-- a letter is sent -/
noncomputable def Hs.sent (H : Hs) (i : Nat) (s : Dk) (text : Str) : Hs :=
  Hs.toOthers { desks := H.desks.set i (s.propose H.owners.length), road := H.road, owners := H.owners ++ [(i : Int)], wrote := H.wrote ++ [text], told := H.told ++ [[(s.hours + 1, s.hand)]], finals := H.finals ++ [none] } "letter" H.owners.length i none
theorem send_ok {i : Nat} {s s₁ : Dk} {text : Str} {ow : Int} {ms : List Mark} (hn : 15 ≤ n) (Z : HF G CH CD) (M : Mt G CH "send" ["self", "hand", "text"] cHouse_send f) (X : HouseAt CH CD o σ b A H) (B : Small H) (hs : H.desks[i]? = some s) (hk : (H.owners.length : Int) ∉ s.known)
    (e1 : H.told.length = H.owners.length) (B' : Small (H.sent i s text)) (C : CanClose (H.sent i s text) H.owners.length ow ms s₁)
    (k : ∀ A' H' o' σ', Closes (H.sent i s text) H.owners.length H' → A'.x = A.x → Chg (·.1 = b) o σ o' σ' → HouseAt CH CD o' σ' b A' H' → Φ (.int H.owners.length) σ') : WC G (n + 1) (.ref f) [.ref A.x, .int i, .str text] σ Φ Ψ := by
  obtain ⟨n, rfl⟩ : ∃ j, n = j + 2 := by first | with_reducible exact Nat.exists_eq_add_of_le' (Nat.le_trans (by decide) hn) | exact ⟨n - 2, (by first | decide | (with_reducible first | exact lv hn | exact lv1 hn | exact lv2 hn | exact Int.natCast_nonneg _ | assumption) | omega)⟩
  refine M.bd rfl fun ρ K X' L hr hn' hx => ?_
  have l1 := L "self" _ rfl
  have l2 := L "hand" _ rfl
  have l3 := L "text" _ rfl
  obtain ⟨fN, Nh⟩ := Z.needh
  obtain ⟨fT, To⟩ := Z.toO
  obtain ⟨fC, Cl⟩ := Z.close
  obtain ⟨fP, Pr⟩ := Z.prop
  obtain ⟨Tw, tw, xt⟩ := Z.tw
  have d := B.desk s (List.mem_of_getElem? hs)
  have b1 := Nat.lt_trans B.desks (show 1000 < 10000 by decide)
  have b3 := Nat.lt_trans B.owners (show 9000 < 10000 by decide)
  have hl := (List.getElem?_eq_some_iff.mp hs).1
  have hlD : i < A.D.length := by rw [X.len]; exact hl
  have hD : A.D[i]? = some A.D[i] := List.getElem?_eq_getElem hlD
  refine g_exprM Nh (ev_nm l1) X.x.at_ X.d.at_ rfl (es_cons (ev_nm l2) es_nil) (need_hand_ok (n := n) X Z Nh b1 (Int.natCast_nonneg _) (Int.ofNat_lt.mpr hl) ?_)
  refine g_asg (ev_letters X Z b3 l1) ?_
  have l1 := lk_ne (x := Str.ofString "letter") (a := .int H.owners.length) (by decide) l1
  have l2 := lk_ne (x := Str.ofString "letter") (a := .int H.owners.length) (by decide) l2
  have l3 := lk_ne (x := Str.ofString "letter") (a := .int H.owners.length) (by decide) l3
  have l4 := lk_eq (x := Str.ofString "letter") (a := .int H.owners.length) (ρ := ρ)
  generalize putA (Str.ofString "letter") (.int H.owners.length) ρ = ρ₁ at l1 l2 l3 l4
  clear L
  refine g_app (X.attr Z (by decide) rfl rfl l1) X.ow.at_ (ev_nm l2) (by rw [List.length_map]; exact Nat.lt_trans B.owners (by decide)) ?_
  obtain ⟨X₁, c1⟩ := X.owners (H.owners ++ [(i : Int)])
  rw [List.map_append (l₂ := [_]), List.map_singleton] at X₁ c1
  generalize upd σ A.ow (.list (H.owners.map AV.int ++ [.int (i : Int)])) = σ₁ at X₁ c1
  refine g_app (X₁.attr Z (by decide) rfl rfl l1) X₁.wr.at_ (ev_nm l3) (by rw [List.length_map]; exact Nat.lt_trans B.wrote (by decide)) ?_
  obtain ⟨X₂, c2⟩ := X₁.wrote (H.wrote ++ [text])
  rw [List.map_append (l₂ := [_]), List.map_singleton] at X₂ c2
  have c₂ := c1.trans c2
  clear c1 c2
  generalize upd σ₁ A.wr (.list (H.wrote.map AV.str ++ [.str text])) = σ₂ at X₂ c₂
  have S := X₂.desk i _ s hD hs
  refine g_appL (X₂.attr Z (by decide) rfl rfl l1) X₂.td.at_ fun P hP => ev_meth Pr (ev_desk X₂ Z (Int.natCast_nonneg _) b1 (by rw [Int.toNat_natCast]; exact hD) l1 (ev_nm l2)) S.x.at_ S.d.at_ rfl (es_cons (ev_nm l4) es_nil) (propose_ok (n := n + 1) (lv1 hn) Pr Z.dcl tw xt S (Nat.lt_trans d.1 (by decide)) (Nat.lt_trans d.2.2 (by decide)) (fun _ σ₃ c3 S₃ => hP _ _ fun a ha => ?_) fun z => absurd z hk)
  have X₃ := X₂.setDesk c3 hl (D := A.D[i]) (fun D' e => by rw [hD] at e; cases e; rfl) S₃
  have c₃ := c₂.trans (c3.mono fun _ z => by rw [z])
  rw [List.set_getElem_self hlD] at X₃
  have c4 : Chg (fun _ => False) o σ₃ (setO o a (b, 11 + 2 * H.told.length)) (upd σ₃ a (.list [mk (s.hours + 1, s.hand)])) := .new ha
  have A₄ : At (setO o a (b, 11 + 2 * H.told.length)) (upd σ₃ a (.list [mk (s.hours + 1, s.hand)])) (b, 11 + 2 * H.told.length) a (.list [mk (s.hours + 1, s.hand)]) := .new
  have X₄ := X₃.chg c4 fun _ => id
  have c₄ := c₃.trans (c4.mono fun _ z => z.elim)
  clear c4 c3 c₃ c₂ X₃ S₃ X₂ S X₁
  generalize upd σ₃ a (.list [mk (s.hours + 1, s.hand)]) = σ₄ at X₄ c₄ A₄
  generalize setO o a (b, 11 + 2 * H.told.length) = o₄ at X₄ c₄ A₄
  refine ⟨_, X₄.td.at_, by rw [List.length_map, X.lenT]; exact Nat.lt_trans B.told (by decide), ?_⟩
  obtain ⟨X₅, c5⟩ := X₄.addTold (ms := [(s.hours + 1, s.hand)]) A₄
  rw [List.map_append (l₂ := [_]), List.map_singleton] at X₅ c5
  have c₅ := c₄.trans c5
  clear c5 c₄
  generalize upd σ₄ A.td (.list (A.T.map AV.ref ++ [.ref a])) = σ₅ at X₅ c₅
  obtain ⟨A₅, hx5, X₅⟩ : ∃ A₅ : HA, A₅.x = A.x ∧ HouseAt CH CD o₄ σ₅ b A₅ { desks := H.desks.set i (s.propose H.owners.length), road := H.road, owners := H.owners ++ [(i : Int)], wrote := H.wrote ++ [text], told := H.told ++ [[(s.hours + 1, s.hand)]], finals := H.finals } := ⟨{ A with T := A.T ++ [a] }, rfl, X₅⟩
  rw [← hx5] at l1
  refine g_app (X₅.attr Z (by decide) rfl rfl l1) X₅.fn.at_ ev_cst (by rw [List.length_map]; exact Nat.lt_trans B.finals (by decide)) ?_
  obtain ⟨X₆, c6⟩ := X₅.finals (H.finals ++ [none])
  rw [List.map_append (l₂ := [_]), List.map_singleton] at X₆ c6
  have c₆ := c₅.trans c6
  clear c6 c₅
  have X₆' : HouseAt CH CD o₄ (upd σ₅ A₅.fn (.list (H.finals.map finAV ++ [.none]))) b A₅ { desks := H.desks.set i (s.propose H.owners.length), road := H.road, owners := H.owners ++ [(i : Int)], wrote := H.wrote ++ [text], told := H.told ++ [[(s.hours + 1, s.hand)]], finals := H.finals ++ [none] } := X₆
  have c₆' : Chg (·.1 = b) o σ o₄ (upd σ₅ A₅.fn (.list (H.finals.map finAV ++ [.none]))) := c₆
  clear X₆ c₆
  generalize upd σ₅ A₅.fn (.list (H.finals.map finAV ++ [.none])) = σ₆ at X₆' c₆'
  refine g_exprM To (ev_nm l1) X₆'.x.at_ X₆'.d.at_ rfl (es_cons ev_cst (es_cons (ev_nm l4) (es_cons ev_cst es_nil))) (to_others_ok (n := n + 1) (m := none) (ow := (i : Int)) (lv1 hn) Z To X₆' (Int.natCast_nonneg _) (by rw [Int.toNat_natCast]; exact List.getElem?_concat_length) (by simp only [List.length_set]; exact B.desks) (by simp only [List.length_append, List.length_singleton]; exact Nat.succ_lt_succ (Nat.lt_trans B.owners (by decide))) (Nat.lt_trans B.road (by decide)) fun σ₇ c7 X₇ => ?_)
  refine g_exprM Cl (ev_nm l1) X₇.x.at_ X₇.d.at_ rfl (es_cons (ev_nm l4) es_nil) (close_ok (H := H.sent i s text) (n := n + 1) (Nat.le_of_succ_le_succ (Nat.le_trans (by decide) hn)) Z Cl X₇ B' C fun A' H' o' σ' hC hx c8 X₈ => g_ret (ev_nm l4) (hr _ _ _ (k A' H' o' σ' hC (hx.trans hx5) ((c₆'.trans c7).trans c8) X₈)))
end
end Mine
set_option maxRecDepth 100000
set_option linter.unusedSimpArgs false
set_option linter.unusedVariables false
namespace Mine
open PySem PyProof.Rows

/-- what a mail is about: a letter to a hand, its number, its final mark -/
inductive Ph where
  | letter
  | number (p : Mark)
  | mark (m : Mark)
/-- a mail: its letter, who wrote it, the other hand, what it is about -/
abbrev Ml := Nat × Nat × Nat × Ph
noncomputable def mailOf (l a i : Nat) : Ph → Mail
  | .letter => (Str.ofString "letter", (l : Int), (a : Int), (i : Int), none)
  | .number p => (Str.ofString "number", (l : Int), (i : Int), (a : Int), some p)
  | .mark m => (Str.ofString "mark", (l : Int), (a : Int), (i : Int), some m)
noncomputable def toMail (q : Ml) : Mail := mailOf q.1 q.2.1 q.2.2.1 q.2.2.2
/-- a mail that can be brought -/
noncomputable def CanBring (H : Hs) (k l a i : Nat) : Ph → Prop
  | .letter => ∃ s, H.desks[i]? = some s ∧ (l : Int) ∉ s.known
  | .number p => ∃ ow ms s, H.told[l]? = some ms ∧ ms.length < H.desks.length ∧ CanClose { H with road := H.road.eraseIdx k, told := H.told.set l (ms ++ [p]) } l ow (ms ++ [p]) s
  | .mark m => ∃ s, H.desks[i]? = some s ∧ CanSettle s l m
/-- a mail is brought -/
noncomputable def Brings (H : Hs) (k l a i : Nat) (H' : Hs) : Ph → Prop
  | .letter => ∃ s, H.desks[i]? = some s ∧ H' = { H with road := H.road.eraseIdx k ++ [(Str.ofString "number", (l : Int), (i : Int), (a : Int), some (s.hours + 1, s.hand))], desks := H.desks.set i (s.propose l) }
  | .number p => ∃ ms, H.told[l]? = some ms ∧ Closes { H with road := H.road.eraseIdx k, told := H.told.set l (ms ++ [p]) } l H'
  | .mark m => ∃ s s', H.desks[i]? = some s ∧ Settles s l m s' ∧ H' = { H with road := H.road.eraseIdx k, desks := H.desks.set i s' }
section
variable {G : PG} {n : Nat} {ρ : Loc} {σ : Sto} {Φ : PE} {Ψ : PY} {f CH CD : Addr} {o : Own} {b : Nat} {A : HA} {H : Hs}
theorem bring_ok {i lt ha hb : Nat} {ph : Ph} (hn : 14 ≤ n) (Z : HF G CH CD) (M : Mt G CH "bring" ["self", "place"] cHouse_bring f) (X : HouseAt CH CD o σ b A H) (B : Small H) (hm : H.road[i]? = some (mailOf lt ha hb ph)) (C : CanBring H i lt ha hb ph)
    (k : ∀ A' H' o' σ', Brings H i lt ha hb H' ph → A'.x = A.x → Chg (·.1 = b) o σ o' σ' → HouseAt CH CD o' σ' b A' H' → Φ (mailAV (mailOf lt ha hb ph)) σ') : WC G (n + 1) (.ref f) [.ref A.x, .int i] σ Φ Ψ := by
  obtain ⟨n, rfl⟩ : ∃ j, n = j + 1 := by first | with_reducible exact Nat.exists_eq_add_of_le' (Nat.le_trans (by decide) hn) | exact ⟨n - 1, (by first | decide | (with_reducible first | exact lv hn | exact lv1 hn | exact lv2 hn | exact Int.natCast_nonneg _ | assumption) | omega)⟩
  generalize em : mailOf lt ha hb ph = m at hm k
  refine M.bd rfl fun ρ K X' L hr _ _ => ?_
  have l1 := L "self" _ rfl
  obtain ⟨fp, P⟩ := Z.place
  have hil := (List.getElem?_eq_some_iff.mp hm).1
  refine g_if0 (et_notF (et_call (ev_call P (es_cons (ev_nm (L "place" _ rfl)) (es_cons (ev_mails X Z (Nat.lt_trans B.road (by decide)) l1) es_nil)) (place_T P (Int.natCast_nonneg _) (Int.ofNat_lt.mpr hil))))) (g_popA (v := mailAV m) (X.attr Z (by decide) rfl rfl l1) X.rd.at_ (ev_nm (L "place" _ rfl)) (by rw [List.length_map]; exact Nat.lt_trans B.road (by decide)) (by rw [List.getElem?_map, hm]; rfl) ?_)
  rw [eraseIdx_map']
  obtain ⟨X₁, c1⟩ := X.road (H.road.eraseIdx i)
  generalize upd σ A.rd (.list ((H.road.eraseIdx i).map mailAV)) = σ₁ at X₁ c1
  have hel : (H.road.eraseIdx i).length < 90000 := Nat.lt_of_le_of_lt (List.length_eraseIdx_le _ _) B.road
  have B₁ : Small { H with road := H.road.eraseIdx i } := ⟨B.desks, hel, B.owners, B.told, B.wrote, B.finals, B.desk, B.tolds⟩
  have b1 := Nat.lt_trans B.desks (show 1000 < 10000 by decide)
  refine g_asg (ev_sub (ev_nm lk_eq) ev_cst d_1) (g_asg (ev_sub (ev_nm (lk_ne (by decide) lk_eq)) ev_cst d_3) ?_)
  obtain ⟨w, l, a, h, mm⟩ := m
  have l1 := lk_ne (x := Str.ofString "hand") (a := .int h) (by decide) (lk_ne (x := Str.ofString "letter") (a := .int l) (by decide) (lk_ne (x := Str.ofString "mail") (a := mailAV (w, l, a, h, mm)) (by decide) l1))
  have l2 := lk_ne (x := Str.ofString "hand") (a := .int h) (by decide) (lk_ne (x := Str.ofString "letter") (a := .int l) (by decide) (lk_eq (x := Str.ofString "mail") (a := mailAV (w, l, a, h, mm)) (ρ := ρ)))
  have l3 := lk_ne (x := Str.ofString "hand") (a := .int h) (by decide) (lk_eq (x := Str.ofString "letter") (a := .int l) (ρ := putA (Str.ofString "mail") (mailAV (w, l, a, h, mm)) ρ))
  have l4 := lk_eq (x := Str.ofString "hand") (a := .int h) (ρ := putA (Str.ofString "letter") (.int l) (putA (Str.ofString "mail") (mailAV (w, l, a, h, mm)) ρ))
  have end_ : ∀ A' H' o' σ' ρ', Brings H i lt ha hb H' ph → A'.x = A.x → Chg (·.1 = b) o σ o' σ' → HouseAt CH CD o' σ' b A' H' → ρ'.lookup (Str.ofString "mail") = some (mailAV (w, l, a, h, mm)) → tss G (n + 1) [.ret (some (.nm "mail"))] ρ' σ' K X' := fun A' H' o' σ' ρ' h1 h2 h3 h4 h5 => g_ret (ev_nm h5) (hr _ _ _ (k A' H' o' σ' h1 h2 h3 h4))
  clear L hr k hm hil
  change tss G (n + 1) _ (putA (Str.ofString "hand") (.int h) (putA (Str.ofString "letter") (.int l) (putA (Str.ofString "mail") (mailAV (w, l, a, h, mm)) ρ))) σ₁ K X'
  generalize putA (Str.ofString "hand") (.int h) (putA (Str.ofString "letter") (.int l) (putA (Str.ofString "mail") (mailAV (w, l, a, h, mm)) ρ)) = ρ₁ at l1 l2 l3 l4
  cases ph with
  | letter =>
    cases em
    obtain ⟨s, hs, hk⟩ := C
    obtain ⟨fP, Pr⟩ := Z.prop
    obtain ⟨Tw, tw, xt⟩ := Z.tw
    have d := B.desk s (List.mem_of_getElem? hs)
    have hl := (List.getElem?_eq_some_iff.mp hs).1
    have hlD : hb < A.D.length := by rw [X.len]; exact hl
    have hD : A.D[hb]? = some A.D[hb] := List.getElem?_eq_getElem hlD
    have S := X₁.desk hb _ s hD hs
    refine g_iteT (et_cmp (ev_sub (ev_nm l2) ev_cst d_0) ev_cst d_eqsT) (g_asgM Pr (ev_desk X₁ Z (Int.natCast_nonneg _) b1 (by rw [Int.toNat_natCast]; exact hD) l1 (ev_nm l4)) S.x.at_ S.d.at_ rfl (es_cons (ev_nm l3) es_nil) (propose_ok (n := n) (lv1 hn) Pr Z.dcl tw xt S (Nat.lt_trans d.1 (by decide)) (Nat.lt_trans d.2.2 (by decide)) (fun _ σ₂ c2 S₂ => ?_) fun z => absurd z hk))
    have X₂ := X₁.setDesk c2 hl (D := A.D[hb]) (fun D' e => by rw [hD] at e; cases e; rfl) S₂
    rw [List.set_getElem_self hlD] at X₂
    refine g_app (X₂.attr Z (by decide) rfl rfl (lk_ne (by decide) l1)) X₂.rd.at_ (ev_tup (es_cons ev_cst (es_cons (ev_nm (lk_ne (by decide) l3)) (es_cons (ev_nm (lk_ne (by decide) l4)) (es_cons (ev_sub (ev_nm (lk_ne (by decide) l2)) ev_cst d_2) (es_cons (ev_nm lk_eq) es_nil))))) (Nat.le_of_ble_eq_true rfl)) (by rw [List.length_map]; exact Nat.lt_trans hel (by decide)) ?_
    obtain ⟨X₃, c3⟩ := X₂.road (H.road.eraseIdx i ++ [(Str.ofString "number", (lt : Int), (hb : Int), (ha : Int), some (s.hours + 1, s.hand))])
    rw [List.map_append (l₂ := [_]), List.map_singleton] at X₃ c3
    exact end_ A _ o _ _ ⟨s, hs, rfl⟩ rfl ((c1.trans (c2.mono fun _ z => by rw [z])).trans c3) X₃ (lk_ne (by decide) l2)
  | number p =>
    cases em
    obtain ⟨ow, ms, s, hms, hmz, CC⟩ := C
    obtain ⟨fC, Cl⟩ := Z.close
    have hl := (List.getElem?_eq_some_iff.mp hms).1
    have hT : A.T[lt]? = some (A.T[lt]'(by rw [X.lenT]; exact hl)) := List.getElem?_eq_getElem _
    have TT := X₁.told lt _ ms hT hms
    have bm := B.tolds ms (List.mem_of_getElem? hms)
    refine g_iteF (et_cmp (ev_sub (ev_nm l2) ev_cst d_0) ev_cst (d_eqsF (s := Str.ofString "number") (by decide))) (g_iteT (et_cmp (ev_sub (ev_nm l2) ev_cst d_0) ev_cst d_eqsT) (g_app (ev_told X₁ Z (Int.natCast_nonneg _) (Nat.lt_trans B.told (by decide)) (by rw [Int.toNat_natCast]; exact hT) l1 (ev_nm l3)) TT.at_ (ev_sub (ev_nm l2) ev_cst d_4) (by rw [List.length_map]; exact Nat.lt_of_le_of_lt bm (Nat.lt_trans B.desks (by decide))) ?_))
    obtain ⟨X₂, c2⟩ := X₁.setTold (ms := ms ++ [p]) hT hl
    rw [List.map_append (l₂ := [_]), List.map_singleton] at X₂ c2
    have B₂ : Small { H with road := H.road.eraseIdx i, told := H.told.set lt (ms ++ [p]) } := by
      refine ⟨B.desks, hel, B.owners, by simp only [List.length_set]; exact B.told, B.wrote, B.finals, B.desk, fun qs hq => ?_⟩
      rcases List.mem_or_eq_of_mem_set hq with hq | rfl
      · exact B.tolds qs hq
      · rw [List.length_append]; exact hmz
    exact g_exprM Cl (ev_nm l1) X₂.x.at_ X₂.d.at_ rfl (es_cons (ev_nm l3) es_nil) (close_ok (n := n) (Nat.le_of_succ_le_succ hn) Z Cl X₂ B₂ CC fun A' H' o' σ' hC hx c3 X₃ => end_ A' H' o' σ' _ ⟨ms, hms, hC⟩ hx ((c1.trans c2).trans c3) X₃ l2)
  | mark p =>
    cases em
    obtain ⟨s, hs, hc⟩ := C
    have hl := (List.getElem?_eq_some_iff.mp hs).1
    have hD : A.D[hb]? = some (A.D[hb]'(by rw [X.len]; exact hl)) := List.getElem?_eq_getElem _
    have S := X₁.desk _ _ _ hD hs
    obtain ⟨fs, St, wc⟩ := desk_settle (n := n) (l := lt) (m := p) (Φ := fun _ σ' => tss G (n + 1) [.ret (some (.nm "mail"))] ρ₁ σ' K X') (Ψ := fun c σ' => X' c ρ₁ σ') (lv1 hn) Z X₁ B₁ hD hs hc fun v A₂ s' o₂ σ₂ hS hx c2 X₂ => end_ A₂ _ o₂ σ₂ _ ⟨s, s', hs, hS, rfl⟩ hx (c1.trans c2) X₂ l2
    exact g_iteF (et_cmp (ev_sub (ev_nm l2) ev_cst d_0) ev_cst (d_eqsF (s := Str.ofString "mark") (by decide))) (g_iteF (et_cmp (ev_sub (ev_nm l2) ev_cst d_0) ev_cst (d_eqsF (s := Str.ofString "mark") (by decide))) (g_exprM St (ev_desk X₁ Z (Int.natCast_nonneg _) b1 (by rw [Int.toNat_natCast]; exact hD) l1 (ev_nm l4)) S.x.at_ S.d.at_ rfl (es_cons (ev_nm l3) (es_cons (ev_sub (ev_nm l2) ev_cst d_4) es_nil)) wc))
end
end Mine
set_option maxRecDepth 100000
set_option linter.unusedSimpArgs false
set_option linter.unusedVariables false
namespace Mine
open PySem PyProof.Rows

noncomputable def emptyHouse (n : Nat) : Hs := ⟨(List.range n).map fun (i : Nat) => ⟨(i : Int), 0, [], [], []⟩, [], [], [], [], []⟩
theorem empty_desk {n i : Nat} {s : Dk} (h : (emptyHouse n).desks[i]? = some s) : i < n ∧ s = ⟨(i : Int), 0, [], [], []⟩ := by
  have hi : i < n := by
    have := (List.getElem?_eq_some_iff.mp h).1
    simpa [emptyHouse] using this
  simp [emptyHouse, List.getElem?_range hi] at h
  exact ⟨hi, h.symm⟩
theorem empty_len (n : Nat) : (emptyHouse n).desks.length = n := by simp [emptyHouse]
section
variable {G : PG} {n : Nat} {ρ : Loc} {σ : Sto} {Φ : PE} {Ψ : PY} {f CH CD : Addr} {o : Own} {b : Nat} {A : HA} {H : Hs} {ΦP : Bool → Prop}
/-- a new house -/
theorem house_new {many : Nat} {f : Addr} {t : Tok} (hn : 12 ≤ n) (M : Mk G "House" CH ["self", "many"] cHouse___init__) (MD : Mk G "Desk" CD ["self", "hand"] cDesk___init__) (Z : HF G CH CD) (most : G.mg "MOST_HANDS" = some (.int 40 t)) (h1 : 1 ≤ many) (h40 : many ≤ 40)
    (k : ∀ A o' σ', Chg (·.1 = b) o σ o' σ' → HouseAt CH CD o' σ' b A (emptyHouse many) → Φ (.ref A.x) σ') : WC G (n + 2) (.ref CH) [.int many] σ Φ Ψ := by
  obtain ⟨n, rfl⟩ : ∃ j, n = j + 2 := by first | with_reducible exact Nat.exists_eq_add_of_le' (Nat.le_trans (by decide) hn) | exact ⟨n - 2, (by first | decide | (with_reducible first | exact lv hn | exact lv1 hn | exact lv2 hn | exact Int.natCast_nonneg _ | assumption) | omega)⟩
  obtain ⟨fp, P⟩ := Z.place
  refine M.bd (o := o) (b, 0) rfl fun x d ρ o₀ σ₀ K X' L c0 X0 D0 hd k' => ?_
  have l1 := L "self" _ rfl
  have l2 := L "many" _ rfl
  refine g_if0 (et_or (eo_F (et_notF (et_call (ev_call P (es_cons (ev_nm l2) (es_cons (ev_bin (ev_gl (v := .int 40) fun Φ p => by rw [glob_val most]; exact p) ev_cst d_add) es_nil)) (place_T P (Int.natCast_nonneg _) (by first | decide | (with_reducible first | exact lv hn | exact lv1 hn | exact lv2 hn | exact Int.natCast_nonneg _) | omega))))) (eo_F (et_cmp (ev_nm l2) ev_cst (d_eqF (by first | decide | (with_reducible first | exact lv hn | exact lv1 hn | exact lv2 hn | exact Int.natCast_nonneg _) | omega))) eo_nil))) ?_
  rw [bl_sattr, tv_compR]
  refine es_cons (ev_nm l2) es_nil _ _ ⟨lv hn, (by first | decide | (with_reducible first | exact lv hn | exact lv1 hn | exact lv2 hn | exact Int.natCast_nonneg _) | omega), (by first | decide | (with_reducible first | exact lv hn | exact lv1 hn | exact lv2 hn | exact Int.natCast_nonneg _ | assumption) | omega), ?_⟩
  rw [range0]
  refine CompOk.ix (vs := (List.range many).map fun (i : Nat) => AV.int i) (by rw [List.length_map, List.length_range]; exact Nat.lt_of_le_of_lt h40 (by decide)) (fun i acc σ₂ => ∃ o₂ Ds, Ds.length = i ∧ acc = Ds.map (fun D : DA => AV.ref D.x) ∧ Chg (fun _ => False) o₀ σ₀ o₂ σ₂ ∧ ∀ (j : Nat) D, Ds[j]? = some D → DeskAt CD o₂ σ₂ (b, 10 + 2 * j) D ⟨(j : Int), 0, [], [], []⟩)
    ⟨o₀, [], rfl, rfl, .refl, fun j D h => by cases h⟩ ?_ ?_ ?_
  · rintro i acc σ₂ ⟨o₂, Ds, h1, rfl, _⟩
    rw [List.length_map, h1]; exact Nat.le_refl _
  · rintro i v J J' acc σ₂ hi hv ⟨o₂, Ds, hl, rfl, c₂, hD⟩ kJ _
    rw [List.length_map, List.length_range] at hi
    rw [List.getElem?_map, List.getElem?_range hi] at hv
    cases hv
    refine ea_nil _ _ (mk_call MD (es_cons (ev_nm lk_eq) es_nil _ _ (desk_new (n := n) (o := o₂) (t := (b, 10 + 2 * i)) MD Z.dcl fun D o₃ σ₃ c3 S₃ => kJ _ _ ⟨o₃, Ds ++ [D], by rw [List.length_append, hl]; rfl, by rw [List.map_append]; rfl, c₂.trans c3, fun j D' hj => ?_⟩)))
    rcases app_get hj with ⟨_, hj⟩ | ⟨e, rfl⟩
    · exact (hD j D' hj).chg c3 id
    · rw [hl] at e; subst e; exact S₃
  · rintro acc σ₂ ⟨o₂, Ds, hl, rfl, c₂, hD⟩ a ha
    rw [List.length_map, List.length_range] at hl
    have c3 : Chg (fun _ => False) o₂ σ₂ (setO o₂ a (b, 1)) (upd σ₂ a (.list (Ds.map fun D => AV.ref D.x))) := .new ha
    have A3 : At (setO o₂ a (b, 1)) (upd σ₂ a (.list (Ds.map fun D => AV.ref D.x))) (b, 1) a (.list (Ds.map fun D => AV.ref D.x)) := .new
    have c₃ := c₂.trans c3
    have hD3 := fun (j : Nat) D (h : Ds[j]? = some D) => (hD j D h).chg c3 id
    clear c3 hD
    generalize upd σ₂ a (.list (Ds.map fun D => AV.ref D.x)) = σ₃ at A3 c₃ hD3
    generalize setO o₂ a (b, 1) = o₃ at A3 c₃ hD3
    have ne : ∀ j, ¬ ((b, j + 1) = ((b, 0) : Tag)) := fun j z => Nat.noConfusion (Prod.mk.inj z).2
    refine ev_nm l1 _ _ (set_at Z.cls (X0.chg c₃ id) (D0.chg c₃ id) (by decide) (Nat.le_of_ble_eq_true rfl) fun σ₄ e4 c4 d4 D4 => ?_)
    refine set_new (t' := (b, 2)) Z.cls (e4 _ _ _ (X0.chg c₃ id) (X0.ne_kind D0 (by simp))) D4 l1 (by decide) (Nat.le_of_ble_eq_true rfl) fun r2 o₅ σ₅ X5 D5 R5 c5 f5 => ?_
    refine set_new (t' := (b, 3)) Z.cls X5 D5 l1 (by decide) (Nat.le_of_ble_eq_true rfl) fun r3 o₆ σ₆ X6 D6 R6 c6 f6 => ?_
    refine set_new (t' := (b, 4)) Z.cls X6 D6 l1 (by decide) (Nat.le_of_ble_eq_true rfl) fun r4 o₇ σ₇ X7 D7 R7 c7 f7 => ?_
    refine set_new (t' := (b, 5)) Z.cls X7 D7 l1 (by decide) (Nat.le_of_ble_eq_true rfl) fun r5 o₈ σ₈ X8 D8 R8 c8 f8 => ?_
    refine set_new (t' := (b, 6)) Z.cls X8 D8 l1 (by decide) (Nat.le_of_ble_eq_true rfl) fun r6 o₉ σ₉ X9 D9 R9 c9 f9 => ?_
    have q8 := c8.trans c9
    have q7 := c7.trans q8
    have q6 := c6.trans q7
    have q5 := ((d4 (· = (b, 0)) rfl).trans c5).trans q6
    exact g_nil (k' _ _ (k ⟨x, d, a, r2, r3, r4, r5, r6, Ds, []⟩ o₉ σ₉ ((f9 _ _ _ (f8 _ _ _ (f7 _ _ _ (f6 _ _ _ (f5 _ _ _ (c4 _ _ _ (c0.trans c₃) hd) hd) hd) hd) hd) hd).mono fun _ z => z.elim) ⟨X9, D9, A3.chg q5 (ne 0), R5.chg q6 (ne 1), R6.chg q7 (ne 2), R7.chg q8 (ne 3), R8.chg c9 (ne 4), R9, by rw [hl]; exact (empty_len many).symm, rfl, fun i D s e1 e2 => (empty_desk e2).2 ▸ (hD3 i D e1).chg q5 (fun z => by simp at z), fun i a ms e1 => by cases e1⟩))
end
end Mine
set_option maxRecDepth 100000
set_option linter.unusedSimpArgs false
set_option linter.unusedVariables false
namespace Mine
open PySem PyProof.Rows

/-! ### the first of the least rows, by a loop -/
noncomputable def bst : Option Row → Row → Option Row
  | none, r => some r
  | some b, r => if ltM r.1 b.1 = true then some r else some b
noncomputable def best (rs : List Row) : Option Row := rs.foldl bst none
theorem best_snoc (rs : List Row) (r : Row) : best (rs ++ [r]) = bst (best rs) r := by unfold best; rw [List.foldl_append]; rfl
theorem LeastAt.one {rs : List Row} {i j : Nat} (x : LeastAt rs i) (y : LeastAt rs j) : i = j := by
  obtain ⟨r, hr, h1, h2⟩ := x
  obtain ⟨q, hq, g1, g2⟩ := y
  rcases Nat.lt_trichotomy i j with h | h | h
  · have := g2 i r h hr; rw [h1 j q hq] at this; cases this
  · exact h
  · have := h2 j q h hq; rw [g1 i r hr] at this; cases this
theorem get_snoc {rs : List Row} {a q : Row} {j : Nat} (h : (rs ++ [a])[j]? = some q) : (j < rs.length ∧ rs[j]? = some q) ∨ (j = rs.length ∧ q = a) := by
  by_cases hj : j < rs.length
  · rw [List.getElem?_append_left hj] at h; exact .inl ⟨hj, h⟩
  · have hl := (List.getElem?_eq_some_iff.mp h).1
    rw [List.length_append] at hl
    have : j = rs.length := Nat.le_antisymm (Nat.le_of_lt_succ hl) (Nat.le_of_not_lt hj)
    subst this
    rw [List.getElem?_append_right (Nat.le_refl _), Nat.sub_self] at h
    exact .inr ⟨rfl, (Option.some.inj h).symm⟩
theorem snocInd {α : Type} {P : List α → Prop} (h0 : P []) (h1 : ∀ l a, P l → P (l ++ [a])) (l : List α) : P l := by
  have : ∀ l : List α, P l.reverse := fun l => by
    induction l with
    | nil => exact h0
    | cons a l ih => rw [List.reverse_cons]; exact h1 _ _ ih
  have := this l.reverse
  rwa [List.reverse_reverse] at this
theorem best_is (rs : List Row) : (rs = [] ∧ best rs = none) ∨ ∃ k r, LeastAt rs k ∧ rs[k]? = some r ∧ best rs = some r := by
  refine snocInd (P := fun rs => (rs = [] ∧ best rs = none) ∨ ∃ k r, LeastAt rs k ∧ rs[k]? = some r ∧ best rs = some r) (.inl ⟨rfl, rfl⟩) (fun rs a ih => .inr ?_) rs
  rw [best_snoc]
  have ha : (rs ++ [a])[rs.length]? = some a := by rw [List.getElem?_append_right (Nat.le_refl _), Nat.sub_self]; rfl
  rcases ih with ⟨rfl, e⟩ | ⟨k, r, ⟨r', hr', h1, h2⟩, hr, e⟩
  · rw [e]
    refine ⟨0, a, ⟨a, rfl, fun j q hq => ?_, fun j q z => absurd z (Nat.not_lt_zero _)⟩, rfl, rfl⟩
    rcases get_snoc hq with ⟨z, _⟩ | ⟨_, rfl⟩
    · exact absurd z (Nat.not_lt_zero _)
    · exact ltM_irr _
  · rw [hr] at hr'; cases hr'
    rw [e]
    by_cases c : ltM a.1 r.1 = true
    · refine ⟨rs.length, a, ⟨a, ha, fun j q hq => ?_, fun j q z hq => ?_⟩, ha, if_pos c⟩
      · rcases get_snoc hq with ⟨z, hq⟩ | ⟨_, rfl⟩
        · exact ltM_trans' c (h1 j q hq)
        · exact ltM_irr _
      · rw [List.getElem?_append_left z] at hq
        exact ltM_less c (h1 j q hq)
    · have hk := (List.getElem?_eq_some_iff.mp hr).1
      have hr2 : (rs ++ [a])[k]? = some r := by rw [List.getElem?_append_left hk]; exact hr
      refine ⟨k, r, ⟨r, hr2, fun j q hq => ?_, fun j q z hq => ?_⟩, hr2, if_neg c⟩
      · rcases get_snoc hq with ⟨z, hq⟩ | ⟨_, rfl⟩
        · exact h1 j q hq
        · exact eq_false_of_ne_true c
      · rw [List.getElem?_append_left (Nat.lt_trans z hk)] at hq
        exact h2 j q z hq
theorem Del.one {rs r1 r2 : List Row} {f1 f2 : List Int} (x : Del rs f1 r1) (y : Del rs f2 r2) : f1 = f2 ∧ r1 = r2 := by
  induction x generalizing f2 r2 with
  | nil => cases y with
    | nil => exact ⟨rfl, rfl⟩
    | stop h1 h2 h3 => cases h2
    | go h1 h2 h3 => cases h2
  | stop h1 h2 h3 => cases y with
    | nil => exact ⟨rfl, rfl⟩
    | stop _ _ _ => exact ⟨rfl, rfl⟩
    | go g1 g2 g3 =>
      have := h1.one g1; subst this
      rw [h2] at g2; cases g2; cases h3
  | go h1 h2 h3 ih => cases y with
    | nil => cases h2
    | stop g1 g2 g3 =>
      have := h1.one g1; subst this
      rw [h2] at g2; cases g2; cases g3
    | go g1 g2 g3 =>
      have := h1.one g1; subst this
      rw [h2] at g2; cases g2
      obtain ⟨e1, e2⟩ := ih g3
      exact ⟨by rw [e1], e2⟩
theorem get_mid {α : Type} (p q : List α) (a : α) : (p ++ a :: q)[p.length]? = some a := by rw [List.getElem?_append_right (Nat.le_refl _), Nat.sub_self]; rfl
theorem OpenAt.one {rs : List Row} {l : Int} {i j : Nat} (x : OpenAt rs l i) (y : OpenAt rs l j) : i = j := by
  obtain ⟨⟨m, h1⟩, h2⟩ := x
  obtain ⟨⟨m', g1⟩, g2⟩ := y
  rcases Nat.lt_trichotomy i j with h | h | h
  · exact absurd ⟨rfl, rfl⟩ (g2 i _ h h1)
  · exact h
  · exact absurd ⟨rfl, rfl⟩ (h2 j _ h g1)
/-! ### what a deed at the desk comes to -/
inductive Res where
  | mark (p : Int × Int)
  | word (w : Str)
  | lst (fs : List Int)
noncomputable def Out (s : Dk) (dn : List Int) (l : Int) (om : Option (Int × Int)) (r : Res) (s' : Dk) (dn' : List Int) : Prop := match om with
  | none => (l ∈ s.known ∧ r = .word "Twice" ∧ s' = s ∧ dn' = dn) ∨ (l ∉ s.known ∧ r = .mark (s.hours + 1, s.hand) ∧ s' = s.propose l ∧ dn' = dn)
  | some m => (NoOpen s.rows l ∧ r = .word "NotOpen" ∧ s' = s ∧ dn' = dn) ∨ ∃ i m0, OpenAt s.rows l i ∧ s.rows[i]? = some (m0, l, false) ∧
      ((ltM m m0 = true ∧ r = .word "BadMark" ∧ s' = s ∧ dn' = dn) ∨ (ltM m m0 = false ∧ ∃ fs rows', Del (s.rows.set i (m, l, true)) fs rows' ∧ r = .lst fs ∧ s' = ⟨s.hand, max s.hours m.1, rows', s.known, s.gone ++ fs⟩ ∧ dn' = dn ++ [l]))
section
variable {s s1 s2 : Dk} {dn d1 d2 : List Int} {l : Int} {r1 r2 : Res}
theorem Out.prop (h : l ∉ s.known) : Out s dn l none (.mark (s.hours + 1, s.hand)) (s.propose l) dn := .inr ⟨h, rfl, rfl, rfl⟩
theorem Out.settle {m m0 : Int × Int} {i : Nat} {fs : List Int} {rows' : List Row} (h1 : OpenAt s.rows l i) (h2 : s.rows[i]? = some (m0, l, false)) (h3 : ltM m m0 = false) (h4 : Del (s.rows.set i (m, l, true)) fs rows') : Out s dn l (some m) (.lst fs) ⟨s.hand, max s.hours m.1, rows', s.known, s.gone ++ fs⟩ (dn ++ [l]) := .inr ⟨i, m0, h1, h2, .inr ⟨h3, fs, rows', h4, rfl, rfl, rfl⟩⟩
theorem three {a1 a2 : Res} {b1 b2 b : Dk} {c1 c2 c : List Int} {a : Res} (x : a1 = a ∧ b1 = b ∧ c1 = c) (y : a2 = a ∧ b2 = b ∧ c2 = c) : a1 = a2 ∧ b1 = b2 ∧ c1 = c2 := ⟨x.1.trans y.1.symm, x.2.1.trans y.2.1.symm, x.2.2.trans y.2.2.symm⟩
end
end Mine
set_option maxRecDepth 100000
set_option linter.unusedSimpArgs false
set_option linter.unusedVariables false
namespace Mine
open PySem PyProof.Rows

abbrev Row.L (r : Row) : Int := r.2.1
noncomputable def marksC (rs : List Row) : List (Int × AV) := rs.map fun r => (r.2.1, mk r.1)
theorem marks_any (rs : List Row) (l : Int) : ((marksC rs).any fun kv => kv.1 == l) = (rs.map Row.L).contains l := by
  induction rs with
  | nil => rfl
  | cons a r ih =>
    rw [show marksC (a :: r) = (a.2.1, mk a.1) :: marksC r from rfl, List.any_cons, ih, List.map_cons, List.contains_cons]
    congr 1
    by_cases q : a.2.1 = l
    · rw [beq_iff_eq.mpr q]; exact (beq_iff_eq.mpr q.symm).symm
    · rw [beq_eq_false_iff_ne.mpr q]; exact (beq_eq_false_iff_ne.mpr fun z => q z.symm).symm
theorem marks_look : ∀ {rs : List Row} {r : Row}, (rs.map Row.L).Nodup → r ∈ rs → (marksC rs).lookup r.2.1 = some (mk r.1)
  | [], _, _, h => by cases h
  | a :: rs, r, nd, h => by
    rw [List.map_cons, List.nodup_cons] at nd
    show List.lookup r.2.1 ((a.2.1, mk a.1) :: marksC rs) = _
    rw [List.lookup_cons]
    rcases List.mem_cons.mp h with rfl | h
    · rw [beq_self_eq_true]
    · have : r.2.1 ≠ a.2.1 := fun z => nd.1 (List.mem_map.mpr ⟨r, h, z⟩)
      rw [beq_eq_false_iff_ne.mpr this]
      exact marks_look nd.2 h
theorem marks_new : ∀ {rs : List Row} {l : Int} {m : Int × Int} {b : Bool}, l ∉ rs.map Row.L → putI l (mk m) (marksC rs) = marksC (rs ++ [(m, l, b)])
  | [], _, _, _, _ => rfl
  | a :: rs, l, m, b, h => by
    have h1 : a.2.1 ≠ l := fun z => h (by rw [List.map_cons, ← z]; exact List.mem_cons_self ..)
    show putI l (mk m) ((a.2.1, mk a.1) :: marksC rs) = (a.2.1, mk a.1) :: marksC (rs ++ [(m, l, b)])
    rw [putI, if_neg h1, marks_new fun z => h (List.mem_cons_of_mem _ z)]
theorem marks_set : ∀ {rs : List Row} {i : Nat} {l : Int} {m m0 : Int × Int} {b b' : Bool}, (rs.map Row.L).Nodup → rs[i]? = some (m0, l, b) → putI l (mk m) (marksC rs) = marksC (rs.set i (m, l, b'))
  | [], _, _, _, _, _, _, _, h => by cases h
  | a :: rs, 0, l, m, m0, b, b', nd, h => by
    cases h
    show putI l (mk m) ((l, mk m0) :: marksC rs) = _
    rw [putI, if_pos rfl]; rfl
  | a :: rs, i + 1, l, m, m0, b, b', nd, h => by
    rw [List.map_cons, List.nodup_cons] at nd
    have h' : rs[i]? = some (m0, l, b) := h
    have h1 : a.2.1 ≠ l := fun z => nd.1 (List.mem_map.mpr ⟨_, List.mem_of_getElem? h', z.symm⟩)
    show putI l (mk m) ((a.2.1, mk a.1) :: marksC rs) = (a.2.1, mk a.1) :: marksC (rs.set i (m, l, b'))
    rw [putI, if_neg h1, marks_set nd.2 h']
theorem marks_none : ∀ {rs : List Row} {l : Int}, l ∉ rs.map Row.L → (marksC rs).filter (fun kv => decide (kv.1 ≠ l)) = marksC rs
  | [], _, _ => rfl
  | a :: rs, l, h => by
    have h1 : a.2.1 ≠ l := fun z => h (by rw [List.map_cons, ← z]; exact List.mem_cons_self ..)
    show List.filter _ ((a.2.1, mk a.1) :: marksC rs) = _
    rw [List.filter_cons_of_pos (by exact decide_eq_true h1), marks_none fun z => h (List.mem_cons_of_mem _ z)]
    rfl
theorem marks_pop : ∀ {rs : List Row} {i : Nat} {r : Row}, (rs.map Row.L).Nodup → rs[i]? = some r → (marksC rs).filter (fun kv => decide (kv.1 ≠ r.2.1)) = marksC (rs.eraseIdx i)
  | [], _, _, _, h => by cases h
  | a :: rs, 0, r, nd, h => by
    cases h
    rw [List.map_cons, List.nodup_cons] at nd
    show List.filter _ ((a.2.1, mk a.1) :: marksC rs) = _
    rw [List.filter_cons_of_neg (by simp), marks_none nd.1]; rfl
  | a :: rs, i + 1, r, nd, h => by
    rw [List.map_cons, List.nodup_cons] at nd
    have h' : rs[i]? = some r := h
    have h1 : a.2.1 ≠ r.2.1 := fun z => nd.1 (List.mem_map.mpr ⟨_, List.mem_of_getElem? h', z.symm⟩)
    show List.filter _ ((a.2.1, mk a.1) :: marksC rs) = (a.2.1, mk a.1) :: marksC (rs.eraseIdx i)
    rw [List.filter_cons_of_pos (by exact decide_eq_true h1), marks_pop nd.2 h']
/-- one turn of the loop over the letters met -/
theorem first_step {known : List Int} {ds cs : List Row} {i : Nat} {x : Int} (nd : known.Nodup) (hx : known[i]? = some x) (h1 : (ds.map Row.L).Sublist (known.take i)) (h2 : (cs.map Row.L).Sublist (known.drop i)) :
    (x ∉ (ds ++ cs).map Row.L ∧ (ds.map Row.L).Sublist (known.take (i + 1)) ∧ (cs.map Row.L).Sublist (known.drop (i + 1))) ∨ ∃ r cs', cs = r :: cs' ∧ r.2.1 = x ∧ ((ds ++ [r]).map Row.L).Sublist (known.take (i + 1)) ∧ (cs'.map Row.L).Sublist (known.drop (i + 1)) := by
  obtain ⟨hi, hxi⟩ := List.getElem?_eq_some_iff.mp hx
  have ed : known.drop i = x :: known.drop (i + 1) := by rw [List.drop_eq_getElem_cons hi, hxi]
  have et : known.take (i + 1) = known.take i ++ [x] := by rw [List.take_add_one, hx]; rfl
  have ek : (known.take i ++ x :: known.drop (i + 1)).Nodup := by rw [← ed, List.take_append_drop]; exact nd
  have nx : x ∉ known.take i := fun z => (List.nodup_append.mp ek).2.2 x z x (List.mem_cons_self ..) rfl
  have ny : x ∉ known.drop (i + 1) := (List.nodup_cons.mp (List.nodup_append.mp ek).2.1).1
  rw [ed] at h2
  rw [et]
  cases cs with
  | nil => exact .inl ⟨by rw [List.append_nil]; exact fun z => nx (h1.subset z), h1.trans (List.sublist_append_left ..), List.nil_sublist _⟩
  | cons r cs =>
    rw [List.map_cons] at h2
    by_cases q : r.2.1 = x
    · refine .inr ⟨r, cs, rfl, q, ?_, ?_⟩
      · rw [List.map_append]; exact h1.append (by rw [← q]; exact List.Sublist.refl _)
      · cases h2 with
        | cons _ h => exact absurd (q ▸ h.subset (List.mem_cons_self ..)) ny
        | cons_cons _ h => exact h
    · have h3 : (Row.L r :: cs.map Row.L).Sublist (known.drop (i + 1)) := by
        cases h2 with
        | cons _ h => exact h
        | cons_cons _ h => exact absurd rfl q
      refine .inl ⟨fun z => ?_, h1.trans (List.sublist_append_left ..), h3⟩
      rw [List.map_append, List.mem_append] at z
      rcases z with z | z
      · exact nx (h1.subset z)
      · exact ny (h3.subset z)
/-! ### what holds between the deeds -/
structure SInv (s : Dk) (dn : List Int) (N : Nat) : Prop where
  nd : s.known.Nodup
  sub : (s.rows.map Row.L).Sublist s.known
  fl : ∀ r ∈ s.rows, r.2.2 = decide (r.2.1 ∈ dn)
  dk : ∀ l ∈ dn, l ∈ s.known
  gl : s.gone.length + s.rows.length ≤ N
  kn : s.known.length ≤ N
  dl : dn.length ≤ N
theorem SInv.nr {s : Dk} {dn : List Int} {N : Nat} (X : SInv s dn N) : (s.rows.map Row.L).Nodup := X.nd.sublist X.sub
theorem Del.sub {a r : List Row} {f : List Int} (h : Del a f r) : r.Sublist a ∧ f.length + r.length = a.length := by
  induction h with
  | nil => exact ⟨List.Sublist.refl _, rfl⟩
  | stop _ _ _ => exact ⟨List.Sublist.refl _, Nat.zero_add _⟩
  | go h1 h2 _ ih =>
    have := (List.getElem?_eq_some_iff.mp h2).1
    refine ⟨ih.1.trans (List.eraseIdx_sublist ..), ?_⟩
    rw [List.length_eraseIdx, if_pos this] at ih
    rw [List.length_cons]; omega
theorem set_map_L {rs : List Row} {i : Nat} {l : Int} {m m0 : Int × Int} {b b' : Bool} (h : rs[i]? = some (m0, l, b)) : (rs.set i (m, l, b')).map Row.L = rs.map Row.L := by
  rw [List.map_set]
  obtain ⟨hi, e⟩ := List.getElem?_eq_some_iff.mp h
  refine List.ext_getElem? fun j => ?_
  rw [List.getElem?_set]
  split
  · next z => subst z; rw [if_pos (by rw [List.length_map]; exact hi), List.getElem?_map, h]; rfl
  · rfl
theorem mem_set' {rs : List Row} {i : Nat} {x r : Row} (h : r ∈ rs.set i x) : r = x ∨ ∃ j, j ≠ i ∧ rs[j]? = some r := by
  obtain ⟨j, hj⟩ := List.mem_iff_getElem?.mp h
  rw [List.getElem?_set] at hj
  split at hj
  · split at hj
    · exact .inl (Option.some.inj hj).symm
    · cases hj
  · next z => exact .inr ⟨j, fun e => z e.symm, hj⟩
theorem nodup_at {rs : List Row} {i j : Nat} {r q : Row} (nd : (rs.map Row.L).Nodup) (h1 : rs[i]? = some r) (h2 : rs[j]? = some q) (e : r.2.1 = q.2.1) : i = j := by
  have g1 : (rs.map Row.L)[i]? = some r.2.1 := by rw [List.getElem?_map, h1]; rfl
  have g2 : (rs.map Row.L)[j]? = some r.2.1 := by rw [List.getElem?_map, h2, e]; rfl
  have hi := (List.getElem?_eq_some_iff.mp g1).1
  exact (List.getElem?_inj hi nd).mp (g1.trans g2.symm)
theorem SInv.settle {s : Dk} {dn : List Int} {N i : Nat} {l : Int} {m m0 : Int × Int} (X : SInv s dn N) (h : s.rows[i]? = some (m0, l, false)) : SInv ⟨s.hand, max s.hours m.1, s.rows.set i (m, l, true), s.known, s.gone⟩ (dn ++ [l]) (N + 1) := by
  refine ⟨X.nd, ?_, fun r hr => ?_, fun k hk => ?_, ?_, Nat.le_succ_of_le X.kn, ?_⟩
  · show ((s.rows.set i (m, l, true)).map Row.L).Sublist _
    rw [set_map_L h]; exact X.sub
  · rcases mem_set' hr with rfl | ⟨j, hj, hr⟩
    · exact (decide_eq_true (List.mem_append_right _ (List.mem_cons_self ..))).symm
    · rw [X.fl r (List.mem_of_getElem? hr)]
      refine decide_eq_decide.mpr ⟨fun z => List.mem_append_left _ z, fun z => ?_⟩
      rcases List.mem_append.mp z with z | z
      · exact z
      · exact absurd (nodup_at X.nr hr h (List.mem_singleton.mp z)) hj
  · rcases List.mem_append.mp hk with z | z
    · exact X.dk k z
    · rw [List.mem_singleton.mp z]; exact X.sub.subset (List.mem_map.mpr ⟨_, List.mem_of_getElem? h, rfl⟩)
  · show s.gone.length + (s.rows.set i (m, l, true)).length ≤ _
    rw [List.length_set]; exact Nat.le_succ_of_le X.gl
  · rw [List.length_append]; exact Nat.succ_le_succ X.dl
theorem SInv.out {s s' : Dk} {dn dn' : List Int} {l : Int} {m : Option (Int × Int)} {r : Res} {N : Nat} (X : SInv s dn N) (h : Out s dn l m r s' dn') : SInv s' dn' (N + 1) := by
  have up : SInv s dn (N + 1) := ⟨X.nd, X.sub, X.fl, X.dk, Nat.le_succ_of_le X.gl, Nat.le_succ_of_le X.kn, Nat.le_succ_of_le X.dl⟩
  cases m with
  | none =>
    rcases h with ⟨_, _, rfl, rfl⟩ | ⟨h, _, rfl, rfl⟩
    · exact up
    refine ⟨?_, ?_, fun r hr => ?_, fun k hk => List.mem_append_left _ (X.dk k hk), ?_, ?_, up.dl⟩
    · exact List.nodup_append.mpr ⟨X.nd, List.nodup_cons.mpr ⟨List.not_mem_nil, List.nodup_nil⟩, fun a ha b hb => by rw [List.mem_singleton.mp hb]; exact fun z => h (z ▸ ha)⟩
    · show (((s.rows ++ [_]).map Row.L)).Sublist _
      rw [List.map_append]; exact X.sub.append (List.Sublist.refl _)
    · rcases List.mem_append.mp hr with z | z
      · exact X.fl r z
      · rw [List.mem_singleton.mp z]; exact (decide_eq_false fun z => h (X.dk _ z)).symm
    · show s.gone.length + (s.rows ++ [_]).length ≤ _
      rw [List.length_append, ← Nat.add_assoc]; exact Nat.succ_le_succ X.gl
    · show (s.known ++ [_]).length ≤ _
      rw [List.length_append]; exact Nat.succ_le_succ X.kn
  | some m =>
    rcases h with ⟨_, _, rfl, rfl⟩ | ⟨i, m0, h1, h2, ⟨_, _, rfl, rfl⟩ | ⟨_, fs, rows', h4, _, rfl, rfl⟩⟩
    · exact up
    · exact up
    have Y := X.settle (m := m) h2
    obtain ⟨e1, e2⟩ := h4.sub
    refine ⟨Y.nd, (e1.map Row.L).trans Y.sub, fun r hr => Y.fl r (e1.subset hr), Y.dk, ?_, Y.kn, Y.dl⟩
    have := Y.gl
    show (s.gone ++ fs).length + rows'.length ≤ _
    rw [List.length_append, Nat.add_assoc, e2]; exact this
/-- a letter that stands open, as the other tells it -/
theorem SInv.open_ {s : Dk} {dn : List Int} {N : Nat} {l : Int} (X : SInv s dn N) (h1 : l ∈ s.rows.map Row.L) (h2 : l ∉ dn) : ∃ i m0, OpenAt s.rows l i ∧ s.rows[i]? = some (m0, l, false) := by
  obtain ⟨⟨m0, l', b⟩, hr, rfl⟩ := List.mem_map.mp h1
  have hb : b = false := (X.fl _ hr).trans (decide_eq_false h2)
  subst hb
  obtain ⟨i, hi⟩ := List.mem_iff_getElem?.mp hr
  exact ⟨i, m0, ⟨⟨m0, hi⟩, fun j q hj hq z => absurd (nodup_at X.nr hq hi z.1) (Nat.ne_of_lt hj)⟩, hi⟩
end Mine
set_option maxRecDepth 100000
set_option linter.unusedSimpArgs false
set_option linter.unusedVariables false
namespace Mine
open PySem PyProof.Rows

/-! ### drawers -/
theorem pigeon (n : Nat) (l : List Int) (nd : l.Nodup) (h : ∀ x ∈ l, 0 ≤ x ∧ x < n) : l.length ≤ n := by
  have := nd.length_le_of_subset (l₂ := (List.range n).map Int.ofNat) fun x hx =>
    (Int.eq_ofNat_of_zero_le (h x hx).1).elim fun k e => List.mem_map.mpr ⟨k, List.mem_range.mpr (Int.ofNat_lt.mp (e ▸ (h x hx).2)), e.symm⟩
  rwa [List.length_map, List.length_range] at this
noncomputable def grid (n : Nat) : Nat → List (Nat × Nat)
  | 0 => []
  | m + 1 => grid n m ++ (List.range n).map fun i => (m, i)
theorem grid_len (n : Nat) : ∀ m, (grid n m).length = m * n
  | 0 => (Nat.zero_mul n).symm
  | m + 1 => by rw [grid, List.length_append, grid_len n m, List.length_map, List.length_range, Nat.succ_mul]
theorem grid_mem {n i : Nat} (hi : i < n) : ∀ {m l : Nat}, l < m → (l, i) ∈ grid n m
  | 0, l, h => absurd h (Nat.not_lt_zero _)
  | m + 1, l, h => (Nat.lt_or_eq_of_le (Nat.le_of_lt_succ h)).elim (fun z => List.mem_append_left _ (grid_mem hi z)) fun z => List.mem_append_right _ (List.mem_map.mpr ⟨i, List.mem_range.mpr hi, by rw [z]⟩)
theorem le_tr {x y z : Mark} (u : ltM x y = false) (v : ltM y z = false) : ltM x z = false := by
  unfold ltM at *
  split at u <;> split at v <;> split <;> simp at * <;> omega
theorem big_ge {ms : List Mark} {p : Mark} (h : p ∈ ms) : ltM (big ms) p = false := by
  have key : ∀ (l : List Mark) a, ltM (l.foldl step1 a) a = false ∧ ∀ p ∈ l, ltM (l.foldl step1 a) p = false := by
    intro l
    induction l with
    | nil => exact fun a => ⟨ltM_irr _, fun p h => nomatch h⟩
    | cons b l ih =>
      intro a
      rw [List.foldl_cons]
      obtain ⟨h1, h2⟩ := ih (step1 a b)
      have h3 : ltM (step1 a b) a = false ∧ ltM (step1 a b) b = false := by
        unfold step1
        split
        · next q => exact ⟨by unfold ltM at *; split at q <;> split <;> simp at * <;> omega, ltM_irr _⟩
        · next q => exact ⟨ltM_irr _, eq_false_of_ne_true q⟩
      exact ⟨le_tr h1 h3.1, fun p hp => (List.mem_cons.mp hp).elim (fun z => by rw [z]; exact le_tr h1 h3.2) (h2 p)⟩
  cases ms with
  | nil => exact nomatch h
  | cons m ms => exact (key (m :: ms) m).2 p h
/-! ### one desk -/
structure D8 (L i : Nat) (s : Dk) : Prop where
  hand : s.hand = i
  knd : s.known.Nodup
  kr : ∀ a ∈ s.known, 0 ≤ a ∧ a < (L : Int)
  sub : (s.rows.map Row.L).Sublist s.known
  gl : s.gone.length + s.rows.length ≤ s.known.length
/-- a desk turns: by proposing a letter, by settling one -/
structure Turn (l : Int) (b : Bool) (s s' : Dk) : Prop where
  rows : ∀ p a, (p, a, false) ∈ s.rows → (b = true → a ≠ l) → (p, a, false) ∈ s'.rows
  kn : ∀ a ∈ s'.known, a ∈ s.known ∨ a = l ∧ b = false
  up : ∀ a ∈ s.known, a ∈ s'.known
section
variable {L i : Nat} {s s' : Dk} {l : Int} {m : Mark}
theorem D8.len (D : D8 L i s) : s.known.length ≤ L := pigeon L _ D.knd D.kr
theorem D8.mono {M : Nat} (D : D8 L i s) (h : L ≤ M) : D8 M i s := ⟨D.hand, D.knd, fun a ha => ⟨(D.kr a ha).1, Int.lt_of_lt_of_le (D.kr a ha).2 (Int.ofNat_le.mpr h)⟩, D.sub, D.gl⟩
theorem one_nd {α : Type} {l : List α} {a : α} (nd : l.Nodup) (h : a ∉ l) : (l ++ [a]).Nodup := List.nodup_append.mpr ⟨nd, List.nodup_cons.mpr ⟨List.not_mem_nil, List.nodup_nil⟩, fun b hb c hc => by rw [List.mem_singleton.mp hc]; exact fun z => h (z ▸ hb)⟩
theorem D8.propose (D : D8 L i s) (hl : l ∉ s.known) (h0 : 0 ≤ l) (h1 : l < L) : D8 L i (s.propose l) :=
  ⟨D.hand, one_nd D.knd hl, fun a ha => (List.mem_append.mp ha).elim (D.kr a) fun z => List.mem_singleton.mp z ▸ ⟨h0, h1⟩, by show ((s.rows ++ [_]).map Row.L).Sublist _; rw [List.map_append]; exact D.sub.append (List.Sublist.refl _), by show s.gone.length + (s.rows ++ [_]).length ≤ (s.known ++ [l]).length; rw [List.length_append, List.length_append, ← Nat.add_assoc]; exact Nat.succ_le_succ D.gl⟩
theorem Turn.propose : Turn l false s (s.propose l) := ⟨fun p a h _ => List.mem_append_left _ h, fun a h => (List.mem_append.mp h).imp id fun z => ⟨List.mem_singleton.mp z, rfl⟩, fun a h => List.mem_append_left _ h⟩
theorem Del.keep {rows rows' : List Row} {fs : List Int} (h : Del rows fs rows') {p : Mark} {a : Int} : (p, a, false) ∈ rows → (p, a, false) ∈ rows' := by
  induction h with
  | nil => exact id
  | stop _ _ _ => exact id
  | go _ h2 _ ih => exact fun z => (List.mem_iff_getElem?.mp z).elim fun j hj => ih (List.mem_eraseIdx_iff_getElem?.mpr ⟨j, ⟨fun e => (by rw [e, h2] at hj; cases hj), hj⟩⟩)
theorem Settles.turn (h : Settles s l m s') : Turn l true s s' := by
  obtain ⟨i, m0, fs, rows', h1, h2, h3, h4, rfl⟩ := h
  refine ⟨fun p a h hb => h4.keep ?_, fun a h => .inl h, fun a h => h⟩
  obtain ⟨j, hj⟩ := List.mem_iff_getElem?.mp h
  refine List.mem_iff_getElem?.mpr ⟨j, ?_⟩
  rw [List.getElem?_set_ne fun e => ?_]
  · exact hj
  · rw [← e, h2] at hj; cases hj; exact hb rfl rfl
theorem D8.settle (D : D8 L i s) (h : Settles s l m s') : D8 L i s' := by
  obtain ⟨j, m0, fs, rows', h1, h2, h3, h4, rfl⟩ := h
  obtain ⟨e1, e2⟩ := h4.sub
  refine ⟨D.hand, D.knd, D.kr, (e1.map Row.L).trans ?_, ?_⟩
  · rw [set_map_L h2]; exact D.sub
  · show (s.gone ++ fs).length + rows'.length ≤ _
    rw [List.length_append, Nat.add_assoc, e2, List.length_set]; exact D.gl
theorem can_settle {p : Mark} (D : D8 L i s) (hp : (p, l, false) ∈ s.rows) (hm : ltM m p = false) : CanSettle s l m := by
  obtain ⟨j, hj⟩ := List.mem_iff_getElem?.mp hp
  refine ⟨fun z => z j _ hj ⟨rfl, rfl⟩, fun i m0 _ h => ?_⟩
  have := nodup_at (D.knd.sublist D.sub) h hj rfl
  subst this
  rw [h] at hj; cases hj; exact hm
end
/-! ### the house -/
noncomputable def POk (H : Hs) (l i : Nat) : Ph → Prop
  | .letter => ∀ s, H.desks[i]? = some s → (l : Int) ∉ s.known
  | .number p => p.2 = i ∧ H.finals[l]? = some none ∧ (∀ s, H.desks[i]? = some s → (p, (l : Int), false) ∈ s.rows) ∧ ∀ ms, H.told[l]? = some ms → ∀ q ∈ ms, q.2 ≠ i
  | .mark m => H.finals[l]? = some (some m) ∧ ∀ s, H.desks[i]? = some s → ∃ p, (p, (l : Int), false) ∈ s.rows ∧ ltM m p = false
abbrev Ml.key (q : Ml) : Nat × Nat := (q.1, q.2.2.1)
structure HInv (n : Nat) (H : Hs) (X : Nat → Prop) (qs : List Ml) : Prop where
  lenT : H.told.length = H.owners.length
  lenF : H.finals.length = H.owners.length
  lenW : H.wrote.length = H.owners.length
  dl : H.desks.length = n
  desk : ∀ i s, H.desks[i]? = some s → D8 H.owners.length i s
  tn : ∀ (l : Nat) ms, H.told[l]? = some ms → (ms.map (·.2)).Nodup
  tr : ∀ (l : Nat) ms p, H.told[l]? = some ms → p ∈ ms → ∃ (i : Nat) (s : Dk), p.2 = (i : Int) ∧ H.desks[i]? = some s ∧ (l : Int) ∈ s.known ∧ (H.finals[l]? = some none → (p, (l : Int), false) ∈ s.rows)
  fn : ∀ (l : Nat) ms, H.told[l]? = some ms → H.finals[l]? = some none → ¬ X l → ms.length < n
  ff : ∀ (l : Nat) ms m, H.told[l]? = some ms → H.finals[l]? = some (some m) → ¬ ms.length < n
  ow : ∀ (l : Nat) a, H.owners[l]? = some a → ∃ i : Nat, a = (i : Int) ∧ i < n
  ot : ∀ (l : Nat) a ms, H.owners[l]? = some a → H.told[l]? = some ms → ¬ X l → ∃ p ∈ ms, p.2 = a
  rd : H.road = qs.map toMail
  ok : ∀ q ∈ qs, H.owners[q.1]? = some (q.2.1 : Int) ∧ q.2.2.1 < n ∧ POk H q.1 q.2.2.1 q.2.2.2
  ks : (qs.map Ml.key).Nodup
section
variable {n : Nat} {H : Hs} {X : Nat → Prop} {qs : List Ml}
/-- all numbers are told -/
theorem HInv.full {l i : Nat} {ms : List Mark} (I : HInv n H X qs) (h : H.told[l]? = some ms) (hf : ¬ ms.length < n) (hi : i < n) : ∃ p ∈ ms, p.2 = (i : Int) := by
  refine Classical.byContradiction fun z => hf ?_
  have := pigeon n ((i : Int) :: ms.map (·.2)) (List.nodup_cons.mpr ⟨fun w => z ((List.mem_map.mp w).imp fun _ w => w), I.tn l ms h⟩) fun x hx => by
    rcases List.mem_cons.mp hx with rfl | hx
    · exact ⟨Int.natCast_nonneg _, Int.ofNat_lt.mpr hi⟩
    · obtain ⟨p, hp, rfl⟩ := List.mem_map.mp hx
      obtain ⟨j, s, e, hs, _⟩ := I.tr l ms p h hp
      exact ⟨by show 0 ≤ p.2; rw [e]; exact Int.natCast_nonneg _, by show p.2 < _; rw [e, ← I.dl]; exact Int.ofNat_lt.mpr (List.getElem?_eq_some_iff.mp hs).1⟩
  rw [List.length_cons, List.length_map] at this; exact this
/-- no mail is left of one that was told -/
theorem HInv.nokey {l i : Nat} {ms : List Mark} {p : Mark} (I : HInv n H X qs) (h : H.told[l]? = some ms) (hf : H.finals[l]? = some none) (hp : p ∈ ms) (e : p.2 = (i : Int)) : ∀ q ∈ qs, q.key ≠ (l, i) := by
  rintro ⟨l', a, i', ph⟩ hq z
  cases z
  obtain ⟨_, _, h3⟩ := I.ok _ hq
  cases ph with
  | letter =>
    obtain ⟨j, s, e', hs, hk, _⟩ := I.tr _ ms p h hp
    rw [e] at e'
    cases Int.ofNat.inj e'
    exact h3 s hs hk
  | number p' => exact h3.2.2.2 ms h p hp e
  | mark m => have := h3.1.symm.trans hf; cases this
/-- a desk turns -/
theorem HInv.turn {l h : Nat} {s s' : Dk} {b : Bool} (I : HInv n H X qs) (hs : H.desks[h]? = some s) (T : Turn l b s s') (D : D8 H.owners.length h s') (nk : ∀ q ∈ qs, q.key ≠ (l, h)) (nf : b = true → H.finals[l]? ≠ some none) : HInv n { H with desks := H.desks.set h s' } X qs := by
  have hh := (List.getElem?_eq_some_iff.mp hs).1
  have get : ∀ {j t}, (H.desks.set h s')[j]? = some t → (j = h ∧ t = s') ∨ (j ≠ h ∧ H.desks[j]? = some t) := fun e => (set_get e).imp (fun z => ⟨z.1, z.2.1⟩) id
  refine ⟨I.lenT, I.lenF, I.lenW, by show (H.desks.set h s').length = n; rw [List.length_set]; exact I.dl, fun j t e => ?_, I.tn, fun l' ms p h1 h2 => ?_, I.fn, I.ff, I.ow, I.ot, I.rd, fun q hq => ?_, I.ks⟩
  · rcases get e with ⟨rfl, rfl⟩ | ⟨_, e⟩
    · exact D
    · exact I.desk j t e
  · obtain ⟨j, t, e, ht, hk, hr⟩ := I.tr l' ms p h1 h2
    by_cases z : h = j
    · subst z
      rw [hs] at ht; cases ht
      refine ⟨h, s', e, List.getElem?_set_self hh, T.up _ hk, fun w => T.rows _ _ (hr w) fun hb e => nf hb ?_⟩
      cases Int.ofNat.inj e; exact w
    · exact ⟨j, t, e, (List.getElem?_set_ne z).trans ht, hk, hr⟩
  · obtain ⟨h1, h2, h3⟩ := I.ok q hq
    obtain ⟨l', a, i, ph⟩ := q
    have ne : ∀ {t}, (H.desks.set h s')[i]? = some t → (t = s' ∧ H.desks[i]? = some s ∧ (l' : Int) ≠ l) ∨ H.desks[i]? = some t := fun e => by
      rcases get e with ⟨z1, z2⟩ | ⟨_, z⟩
      · exact .inl ⟨z2, z1 ▸ hs, fun w => nk _ hq (by cases Int.ofNat.inj w; cases z1; rfl)⟩
      · exact .inr z
    refine ⟨h1, h2, ?_⟩
    cases ph with
    | letter => exact fun t e w => (ne e).elim (fun z => Or.elim (T.kn _ (z.1 ▸ w)) (h3 s z.2.1) fun v => z.2.2 v.1) fun z => h3 t z w
    | number p => exact ⟨h3.1, h3.2.1, fun t e => (ne e).elim (fun z => z.1 ▸ T.rows _ _ (h3.2.2.1 s z.2.1) fun _ => z.2.2) fun z => h3.2.2.1 t z, h3.2.2.2⟩
    | mark m => exact ⟨h3.1, fun t e => (ne e).elim (fun z => (h3.2 s z.2.1).imp fun p w => ⟨z.1 ▸ T.rows _ _ w.1 fun _ => z.2.2, w.2⟩) fun z => h3.2 t z⟩
theorem HInv.take {k : Nat} {q : Ml} (I : HInv n H X qs) (hq : qs[k]? = some q) : HInv n { H with road := H.road.eraseIdx k } X (qs.eraseIdx k) ∧ ∀ r ∈ qs.eraseIdx k, r.key ≠ q.key := by
  refine ⟨⟨I.lenT, I.lenF, I.lenW, I.dl, I.desk, I.tn, I.tr, I.fn, I.ff, I.ow, I.ot, ?_, fun r hr => I.ok r (List.mem_of_mem_eraseIdx hr), I.ks.sublist ((List.eraseIdx_sublist ..).map _)⟩, fun r hr z => ?_⟩
  · show H.road.eraseIdx k = _
    rw [I.rd, eraseIdx_map']
  · obtain ⟨j, hj, hr⟩ := List.mem_eraseIdx_iff_getElem?.mp hr
    have g1 : (qs.map Ml.key)[j]? = some r.key := by rw [List.getElem?_map, hr]; rfl
    have g2 : (qs.map Ml.key)[k]? = some r.key := by rw [List.getElem?_map, hq, z]; rfl
    exact hj ((List.getElem?_inj (List.getElem?_eq_some_iff.mp g1).1 I.ks).mp (g1.trans g2.symm))
theorem HInv.put {rs : List Ml} (I : HInv n H X qs) (h : ∀ q ∈ rs, H.owners[q.1]? = some (q.2.1 : Int) ∧ q.2.2.1 < n ∧ POk H q.1 q.2.2.1 q.2.2.2) (nd : (rs.map Ml.key).Nodup) (ne : ∀ r ∈ rs, ∀ q ∈ qs, q.key ≠ r.key) : HInv n { H with road := H.road ++ rs.map toMail } X (qs ++ rs) := by
  refine ⟨I.lenT, I.lenF, I.lenW, I.dl, I.desk, I.tn, I.tr, I.fn, I.ff, I.ow, I.ot, ?_, fun q hq => (List.mem_append.mp hq).elim (I.ok q) (h q), ?_⟩
  · show H.road ++ _ = _
    rw [I.rd, List.map_append]
  · rw [List.map_append]
    exact List.nodup_append.mpr ⟨I.ks, nd, fun a ha b hb z => by
      obtain ⟨q, hq, rfl⟩ := List.mem_map.mp ha
      obtain ⟨r, hr, rfl⟩ := List.mem_map.mp hb
      exact ne r hr q hq z⟩
/-- a number is told -/
theorem HInv.tell {l i : Nat} {p : Mark} {ms : List Mark} {s : Dk} (I : HInv n H X qs) (hX : ∀ z, X z → z = l) (ht : H.told[l]? = some ms) (hf : H.finals[l]? = some none) (hp : p.2 = (i : Int)) (hs : H.desks[i]? = some s) (hk : (l : Int) ∈ s.known) (hr : (p, (l : Int), false) ∈ s.rows) (hn : ∀ q ∈ ms, q.2 ≠ i) (nk : ∀ q ∈ qs, q.key ≠ (l, i)) : HInv n { H with told := H.told.set l (ms ++ [p]) } (· = l) qs := by
  have get : ∀ {j t}, (H.told.set l (ms ++ [p]))[j]? = some t → (j = l ∧ t = ms ++ [p]) ∨ (j ≠ l ∧ H.told[j]? = some t) := fun e => (set_get e).imp (fun z => ⟨z.1, z.2.1⟩) id
  refine ⟨by show (H.told.set l _).length = _; rw [List.length_set]; exact I.lenT, I.lenF, I.lenW, I.dl, I.desk, fun j t e => ?_, fun j t q e hq => ?_, fun j t e hf' hx => ?_, fun j t m e hf' => ?_, I.ow, fun j a t ho e hx => ?_, I.rd, fun q hq => ?_, I.ks⟩
  · rcases get e with ⟨rfl, rfl⟩ | ⟨_, e⟩
    · rw [List.map_append]
      exact one_nd (I.tn j ms ht) fun z => (List.mem_map.mp z).elim fun q w => hn q w.1 (w.2.trans hp)
    · exact I.tn j t e
  · rcases get e with ⟨rfl, rfl⟩ | ⟨_, e⟩
    · rcases List.mem_append.mp hq with hq | hq
      · exact I.tr j ms q ht hq
      · rw [List.mem_singleton.mp hq]; exact ⟨i, s, hp, hs, hk, fun _ => hr⟩
    · exact I.tr j t q e hq
  · exact (get e).elim (fun z => absurd z.1 hx) fun z => I.fn j t z.2 hf' fun w => hx (hX j w)
  · rcases get e with ⟨rfl, rfl⟩ | ⟨_, e⟩
    · have := hf.symm.trans hf'; cases this
    · exact I.ff j t m e hf'
  · exact (get e).elim (fun z => absurd z.1 hx) fun z => I.ot j a t ho z.2 fun w => hx (hX j w)
  · obtain ⟨h1, h2, h3⟩ := I.ok q hq
    refine ⟨h1, h2, ?_⟩
    obtain ⟨l', a, i', ph⟩ := q
    cases ph with
    | letter => exact h3
    | number p' =>
      refine ⟨h3.1, h3.2.1, h3.2.2.1, fun t e q hq' => ?_⟩
      rcases get e with ⟨rfl, rfl⟩ | ⟨_, e⟩
      · rcases List.mem_append.mp hq' with hq' | hq'
        · exact h3.2.2.2 ms ht q hq'
        · rw [List.mem_singleton.mp hq', hp]
          exact fun z => nk _ hq (by cases Int.ofNat.inj z; rfl)
      · exact h3.2.2.2 t e q hq'
    | mark m => exact h3
/-- a letter gets its final mark -/
theorem HInv.final {l : Nat} {m : Mark} {ms : List Mark} (I : HInv n H (· = l) qs) (ht : H.told[l]? = some ms) (hf : H.finals[l]? = some none) (hfull : ¬ ms.length < n) (ot : ∀ a, H.owners[l]? = some a → ∃ p ∈ ms, p.2 = a) : HInv n { H with finals := H.finals.set l (some m) } (fun _ => False) qs := by
  have hl := (List.getElem?_eq_some_iff.mp hf).1
  have get : ∀ {j t}, (H.finals.set l (some m))[j]? = some t → (j = l ∧ t = some m) ∨ (j ≠ l ∧ H.finals[j]? = some t) := fun e => (set_get e).imp (fun z => ⟨z.1, z.2.1⟩) id
  have none_ : ∀ {j}, (H.finals.set l (some m))[j]? = some none → j ≠ l ∧ H.finals[j]? = some none := fun e => (get e).elim (fun z => nomatch z.2) id
  refine ⟨I.lenT, by show (H.finals.set l _).length = _; rw [List.length_set]; exact I.lenF, I.lenW, I.dl, I.desk, I.tn, fun j t q e hq => ?_, fun j t e hf' _ => ?_, fun j t m' e hf' => ?_, I.ow, fun j a t ho e _ => ?_, I.rd, fun q hq => ?_, I.ks⟩
  · obtain ⟨i, s, e1, e2, e3, e4⟩ := I.tr j t q e hq
    exact ⟨i, s, e1, e2, e3, fun z => e4 (none_ z).2⟩
  · exact I.fn j t e (none_ hf').2 (none_ hf').1
  · rcases get hf' with ⟨rfl, _⟩ | ⟨_, z⟩
    · rw [ht] at e; cases e; exact hfull
    · exact I.ff j t m' e z
  · by_cases z : j = l
    · subst z; rw [ht] at e; cases e; exact ot a ho
    · exact I.ot j a t ho e z
  · obtain ⟨h1, h2, h3⟩ := I.ok q hq
    refine ⟨h1, h2, ?_⟩
    obtain ⟨l', a, i', ph⟩ := q
    cases ph with
    | letter => exact h3
    | number p' =>
      refine ⟨h3.1, (List.getElem?_set_ne fun z => ?_).trans h3.2.1, h3.2.2⟩
      subst z
      obtain ⟨p, hp, e⟩ := I.full ht hfull h2
      exact h3.2.2.2 ms ht p hp e
    | mark m' =>
      refine ⟨(List.getElem?_set_ne fun z => ?_).trans h3.1, h3.2⟩
      subst z
      have := hf.symm.trans h3.1; cases this
/-- one letter more -/
theorem HInv.more {a : Nat} {tx : Str} (I : HInv n H (fun _ => False) qs) (ha : a < n) : HInv n { H with owners := H.owners ++ [(a : Int)], wrote := H.wrote ++ [tx], told := H.told ++ [[]], finals := H.finals ++ [none] } (· = H.owners.length) qs := by
  have lt : ∀ {j : Nat} {t}, (H.told ++ [[]])[j]? = some t → (j = H.owners.length ∧ t = []) ∨ H.told[j]? = some t := fun e => (app_get e).elim (fun z => .inr z.2) fun z => .inl ⟨z.1.trans I.lenT, z.2⟩
  have lf : ∀ {j : Nat} {t}, (H.finals ++ [none])[j]? = some t → (j = H.owners.length ∧ t = none) ∨ H.finals[j]? = some t := fun e => (app_get e).elim (fun z => .inr z.2) fun z => .inl ⟨z.1.trans I.lenF, z.2⟩
  have old : ∀ {α : Type} {l : List α} {b : α}, l.length = H.owners.length → ∀ {j : Nat} {t : α}, j < H.owners.length → (l ++ [b])[j]? = some t → l[j]? = some t := fun {α l b} h {j t} hj e => by rw [List.getElem?_append_left (h ▸ hj)] at e; exact e
  have up : ∀ {x y : Nat}, x = y → x + 1 = y + 1 := fun h => congrArg (· + 1) h
  refine ⟨?_, ?_, ?_, I.dl, fun i s e => (I.desk i s e).mono ?_, fun j t e => ?_, fun j t q e hq => ?_, fun j t e hf' hx => ?_, fun j t m' e hf' => ?_, fun j b e => ?_, fun j b t ho e hx => ?_, I.rd, fun q hq => ?_, I.ks⟩
  · show (H.told ++ [[]]).length = (H.owners ++ [_]).length
    rw [List.length_append, List.length_append]; exact up I.lenT
  · show (H.finals ++ [none]).length = (H.owners ++ [_]).length
    rw [List.length_append, List.length_append]; exact up I.lenF
  · show (H.wrote ++ [tx]).length = (H.owners ++ [_]).length
    rw [List.length_append, List.length_append]; exact up I.lenW
  · show H.owners.length ≤ (H.owners ++ [_]).length
    rw [List.length_append]; exact Nat.le_succ _
  · rcases lt e with ⟨_, rfl⟩ | e
    · exact List.nodup_nil
    · exact I.tn j t e
  · rcases lt e with ⟨_, rfl⟩ | e
    · cases hq
    · obtain ⟨i, s, e1, e2, e3, e4⟩ := I.tr j t q e hq
      exact ⟨i, s, e1, e2, e3, fun z => e4 (old I.lenF (I.lenT ▸ (List.getElem?_eq_some_iff.mp e).1) z)⟩
  · exact (lt e).elim (fun z => absurd z.1 hx) fun e => (lf hf').elim (fun z => absurd z.1 hx) fun z => I.fn j t e z id
  · exact (lf hf').elim (fun z => nomatch z.2) fun z => I.ff j t m' (old I.lenT (I.lenF ▸ (List.getElem?_eq_some_iff.mp z).1) e) z
  · rcases app_get e with ⟨_, e⟩ | ⟨_, rfl⟩
    · exact I.ow j b e
    · exact ⟨a, rfl, ha⟩
  · exact (app_get ho).elim (fun z => (lt e).elim (fun w => absurd w.1 hx) fun w => I.ot j b t z.2 w id) fun z => absurd z.1 hx
  · obtain ⟨h1, h2, h3⟩ := I.ok q hq
    obtain ⟨l', a', i', ph⟩ := q
    have hl := (List.getElem?_eq_some_iff.mp h1).1
    refine ⟨(List.getElem?_append_left hl).trans h1, h2, ?_⟩
    cases ph with
    | letter => exact h3
    | number p' => exact ⟨h3.1, (List.getElem?_append_left (by rw [I.lenF]; exact hl)).trans h3.2.1, h3.2.2.1, fun t e => h3.2.2.2 t (old I.lenT hl e)⟩
    | mark m' => exact ⟨(List.getElem?_append_left (by rw [I.lenF]; exact hl)).trans h3.1, h3.2⟩
end
end Mine
set_option maxRecDepth 100000
set_option linter.unusedSimpArgs false
set_option linter.unusedVariables false
namespace Mine
open PySem PyProof.Rows

/-- the same to all the others -/
noncomputable def oth (n : Nat) (l i : Nat) (ph : Ph) : List Ml := ((List.range n).filter fun (h : Nat) => (h : Int) != (i : Int)).map fun h => (l, i, h, ph)
noncomputable def wt (n : Nat) : Ph → Nat
  | .letter => n + 2
  | .number _ => n + 1
  | .mark _ => 1
noncomputable def mu (n : Nat) (qs : List Ml) : Nat := (qs.map fun q => wt n q.2.2.2).sum
section
variable {n l i : Nat} {ph : Ph}
theorem oth_mem {q : Ml} (h : q ∈ oth n l i ph) : ∃ j : Nat, j < n ∧ j ≠ i ∧ q = (l, i, j, ph) := by
  obtain ⟨j, hj, rfl⟩ := List.mem_map.mp h
  obtain ⟨h1, h2⟩ := List.mem_filter.mp hj
  exact ⟨j, List.mem_range.mp h1, fun z => (by rw [z, bne_self_eq_false] at h2; cases h2), rfl⟩
theorem oth_keys : ((oth n l i ph).map Ml.key).Nodup := by
  have h : ((List.range n).filter fun (h : Nat) => (h : Int) != (i : Int)).Nodup := List.nodup_range.sublist List.filter_sublist
  unfold oth
  rw [List.map_map]
  exact List.pairwise_map.mpr (List.Pairwise.imp (fun hne z => hne (congrArg Prod.snd z)) h)
theorem oth_mail {w : Str} {m : Option Mark} (h : ∀ j : Nat, mailOf l i j ph = (w, (l : Int), (i : Int), (j : Int), m)) : (oth n l i ph).map toMail = others n i w l m := by
  unfold oth others
  rw [List.map_map]
  exact List.map_congr_left fun j _ => h j
theorem mu_app (qs rs : List Ml) : mu n (qs ++ rs) = mu n qs + mu n rs := by unfold mu; rw [List.map_append, List.sum_append]
theorem mu_take : ∀ {qs : List Ml} {k : Nat} {q : Ml}, qs[k]? = some q → mu n (qs.eraseIdx k) + wt n q.2.2.2 = mu n qs
  | [], _, _, h => by cases h
  | b :: qs, 0, q, h => by cases h; exact Nat.add_comm _ _
  | b :: qs, k + 1, q, h => (Nat.add_assoc _ _ _).trans (congrArg _ (mu_take (qs := qs) (k := k) h))
theorem mu_marks {m : Mark} : mu n (oth n l i (.mark m)) ≤ n := by
  have h : ∀ L : List Nat, mu n (L.map fun h => (l, i, h, Ph.mark m)) = L.length := fun L => by
    induction L with
    | nil => rfl
    | cons a L ih => exact (congrArg (1 + ·) ih).trans (Nat.add_comm _ _)
  unfold oth
  rw [h]
  exact Nat.le_trans (List.length_filter_le _ _) (Nat.le_of_eq List.length_range)
end
section
variable {n : Nat} {H H' : Hs} {X : Nat → Prop} {qs : List Ml} {l : Nat}
theorem HInv.drop {ms : List Mark} (I : HInv n H (· = l) qs) (ht : H.told[l]? = some ms) (h : ms.length < n) (ot : ∀ a, H.owners[l]? = some a → ∃ p ∈ ms, p.2 = a) : HInv n H (fun _ => False) qs := by
  refine ⟨I.lenT, I.lenF, I.lenW, I.dl, I.desk, I.tn, I.tr, fun j t e hf _ => ?_, I.ff, I.ow, fun j a t ho e _ => ?_, I.rd, I.ok, I.ks⟩
  · by_cases z : j = l
    · subst z; rw [ht] at e; cases e; exact h
    · exact I.fn j t e hf z
  · by_cases z : j = l
    · subst z; rw [ht] at e; cases e; exact ot a ho
    · exact I.ot j a t ho e z
theorem HInv.can_close {ms : List Mark} (I : HInv n H X qs) (ht : H.told[l]? = some ms) (hf : H.finals[l]? = some none) (ot : ∀ a, H.owners[l]? = some a → ∃ p ∈ ms, p.2 = a) : ∃ ow s, CanClose H l ow ms s := by
  have hl : l < H.owners.length := I.lenT ▸ (List.getElem?_eq_some_iff.mp ht).1
  have ho : H.owners[l]? = some H.owners[l] := List.getElem?_eq_getElem hl
  obtain ⟨i, e, hi⟩ := I.ow l _ ho
  obtain ⟨p, hp, ep⟩ := ot _ ho
  obtain ⟨j, s, ej, hs, _, hr⟩ := I.tr l ms p ht hp
  cases Int.ofNat.inj ((ej.symm.trans ep).trans e)
  refine ⟨_, s, ht, ho, by rw [e]; exact Int.natCast_nonneg _, by rw [e]; exact hs, (List.getElem?_eq_some_iff.mp hf).1, fun z => ?_, fun _ => can_settle (I.desk _ s hs) (hr hf) (big_ge hp)⟩
  rw [z] at hp; cases hp
theorem HInv.close (I : HInv n H (· = l) qs) (hf : H.finals[l]? = some none) (ot : ∀ ms a, H.told[l]? = some ms → H.owners[l]? = some a → ∃ p ∈ ms, p.2 = a) (hC : Closes H l H') : ∃ rs, HInv n H' (fun _ => False) (qs ++ rs) ∧ H'.owners = H.owners ∧ mu n rs ≤ n := by
  obtain ⟨ms, ht, h⟩ := hC
  rcases h with ⟨h, rfl⟩ | ⟨h, ow, s, s', how, hs, hS, rfl⟩
  · rw [I.dl] at h
    exact ⟨[], by rw [List.append_nil]; exact I.drop ht h fun a => ot ms a ht, rfl, Nat.zero_le _⟩
  rw [I.dl] at h
  obtain ⟨i, rfl, hi⟩ := I.ow l ow how
  rw [Int.toNat_natCast] at hs ⊢
  obtain ⟨p, hp, ep⟩ := ot ms _ ht how
  have full := fun {j} => I.full (i := j) ht h
  have hl := (List.getElem?_eq_some_iff.mp hf).1
  have I1 : HInv n ⟨H.desks.set i s', H.road, H.owners, H.wrote, H.told, H.finals.set l (some (big ms))⟩ (fun _ => False) qs := (I.final (m := big ms) ht hf h fun a => ot ms a ht).turn hs hS.turn ((I.desk i s hs).settle hS) (I.nokey ht hf hp ep) fun _ z => by
    have : (H.finals.set l (some (big ms)))[l]? = some none := z
    rw [List.getElem?_set_self hl] at this; cases this
  have I2 : HInv n ⟨H.desks.set i s', H.road ++ (oth n l i (.mark (big ms))).map toMail, H.owners, H.wrote, H.told, H.finals.set l (some (big ms))⟩ (fun _ => False) (qs ++ oth n l i (.mark (big ms))) := I1.put (fun q hq => ?_) oth_keys fun r hr q hq => ?_
  · rw [oth_mail fun j => rfl] at I2
    have e : (H.desks.set i s').length = n := by rw [List.length_set]; exact I.dl
    refine ⟨oth n l i (.mark (big ms)), ?_, rfl, mu_marks⟩
    show HInv n ⟨H.desks.set i s', H.road ++ others (H.desks.set i s').length i (Str.ofString "mark") l (some (big ms)), H.owners, H.wrote, H.told, H.finals.set l (some (big ms))⟩ _ _
    rw [e]; exact I2
  · obtain ⟨j, hj, ne, rfl⟩ := oth_mem hq
    refine ⟨how, hj, List.getElem?_set_self hl, fun t e => ?_⟩
    obtain ⟨p', hp', ep'⟩ := full hj
    obtain ⟨j', s1, e1, e2, _, e4⟩ := I.tr l ms p' ht hp'
    cases Int.ofNat.inj (ep'.symm.trans e1)
    have e : (H.desks.set i s')[j]? = some t := e
    rw [List.getElem?_set_ne (Ne.symm ne), e2] at e
    cases e
    exact ⟨p', e4 hf, big_ge hp'⟩
  · obtain ⟨j, hj, ne, rfl⟩ := oth_mem hr
    obtain ⟨p', hp', ep'⟩ := full hj
    exact I.nokey ht hf hp' ep' q hq
theorem HInv.numb {k a i : Nat} {p : Mark} {ms : List Mark} (I : HInv n H (fun _ => False) qs) (hq : qs[k]? = some (l, a, i, .number p)) (ht : H.told[l]? = some ms) : HInv n { H with road := H.road.eraseIdx k, told := H.told.set l (ms ++ [p]) } (· = l) (qs.eraseIdx k) ∧ ms.length < n := by
  obtain ⟨h1, h2, hp, hf, hr, hn⟩ := I.ok _ (List.mem_of_getElem? hq)
  obtain ⟨J, nk⟩ := I.take hq
  have hs : H.desks[i]? = some (H.desks[i]'(by rw [I.dl]; exact h2)) := List.getElem?_eq_getElem _
  have hrow := hr _ hs
  exact ⟨J.tell (fun z w => w.elim) ht hf hp hs ((I.desk i _ hs).sub.subset (List.mem_map.mpr ⟨_, hrow, rfl⟩)) hrow (hn _ ht) nk, Classical.byContradiction fun z => (I.full ht z h2).elim fun q w => hn _ ht q w.1 w.2⟩
/-- a mail that is under way can be brought -/
theorem HInv.bring {k a i : Nat} {ph : Ph} (I : HInv n H (fun _ => False) qs) (hq : qs[k]? = some (l, a, i, ph)) : CanBring H k l a i ph ∧ ∀ H', Brings H k l a i H' ph → ∃ qs', HInv n H' (fun _ => False) qs' ∧ H'.owners = H.owners ∧ mu n qs' < mu n qs := by
  obtain ⟨h1, h2, h3⟩ := I.ok _ (List.mem_of_getElem? hq)
  obtain ⟨J, nk⟩ := I.take hq
  have hm := mu_take (n := n) hq
  have hs : H.desks[i]? = some (H.desks[i]'(by rw [I.dl]; exact h2)) := List.getElem?_eq_getElem _
  have D := I.desk i _ hs
  have hl := (List.getElem?_eq_some_iff.mp h1).1
  have ht : H.told[l]? = some (H.told[l]'(by rw [I.lenT]; exact hl)) := List.getElem?_eq_getElem _
  cases ph with
  | letter =>
    have nt : ∀ ms, H.told[l]? = some ms → ∀ q ∈ ms, q.2 ≠ (i : Int) := fun ms ht q hq e => by
      obtain ⟨j, s, e1, e2, e3, _⟩ := I.tr l ms q ht hq
      cases Int.ofNat.inj (e1.symm.trans e)
      exact h3 s e2 e3
    have hf : H.finals[l]? = some (H.finals[l]'(by rw [I.lenF]; exact hl)) := List.getElem?_eq_getElem _
    have hf0 : H.finals[l]? = some none := by
      cases z : H.finals[l]'(by rw [I.lenF]; exact hl) with
      | none => rw [hf, z]
      | some m =>
        rw [z] at hf
        obtain ⟨p, hp, e⟩ := I.full ht (I.ff l _ m ht hf) h2
        exact absurd e (nt _ ht p hp)
    refine ⟨⟨_, hs, h3 _ hs⟩, fun H' hB => ?_⟩
    obtain ⟨s, hs', rfl⟩ := hB
    rw [hs] at hs'; cases hs'
    have J1 := (J.turn hs (.propose (l := l)) (D.propose (h3 _ hs) (Int.natCast_nonneg _) (Int.ofNat_lt.mpr hl)) nk nofun).put (rs := [(l, a, i, .number ((H.desks[i]'(by rw [I.dl]; exact h2)).hours + 1, (H.desks[i]'(by rw [I.dl]; exact h2)).hand))]) (fun q hq => ?_) (List.nodup_cons.mpr ⟨List.not_mem_nil, List.nodup_nil⟩) fun r hr q hq => ?_
    · refine ⟨_, J1, rfl, ?_⟩
      rw [mu_app, ← hm]; exact Nat.lt_succ_self _
    · rw [List.mem_singleton.mp hq]
      refine ⟨h1, h2, D.hand, hf0, fun t e => ?_, nt⟩
      have e : (H.desks.set i _)[i]? = some t := e
      rw [List.getElem?_set_self (List.getElem?_eq_some_iff.mp hs).1] at e
      cases e
      exact List.mem_append_right _ (List.mem_cons_self ..)
    · rw [List.mem_singleton.mp hr]; exact nk q hq
  | number p =>
    have hf := h3.2.1
    obtain ⟨J1, hsh⟩ := I.numb hq ht
    have ht1 : (H.told.set l ((H.told[l]'(by rw [I.lenT]; exact hl)) ++ [p]))[l]? = some ((H.told[l]'(by rw [I.lenT]; exact hl)) ++ [p]) := List.getElem?_set_self (List.getElem?_eq_some_iff.mp ht).1
    have ot : ∀ a, H.owners[l]? = some a → ∃ q ∈ (H.told[l]'(by rw [I.lenT]; exact hl)) ++ [p], q.2 = a := fun a ho => (I.ot l a _ ho ht id).imp fun q z => ⟨List.mem_append_left _ z.1, z.2⟩
    obtain ⟨ow, s, C⟩ := J1.can_close ht1 hf ot
    refine ⟨⟨ow, _, s, ht, by rw [I.dl]; exact hsh, C⟩, fun H' hB => ?_⟩
    obtain ⟨ms, ht', hC⟩ := hB
    rw [ht] at ht'; cases ht'
    obtain ⟨rs, J2, e, hr⟩ := J1.close hf (fun ms a h => by cases h.symm.trans ht1; exact ot a) hC
    refine ⟨_, J2, e, ?_⟩
    rw [mu_app, ← hm]; exact Nat.add_lt_add_left (Nat.lt_succ_of_le hr) _
  | mark m =>
    obtain ⟨p, hp, hle⟩ := h3.2 _ hs
    refine ⟨⟨_, hs, can_settle D hp hle⟩, fun H' hB => ?_⟩
    obtain ⟨s, s', hs', hS, rfl⟩ := hB
    rw [hs] at hs'; cases hs'
    refine ⟨_, J.turn hs hS.turn (D.settle hS) nk fun _ z => ?_, rfl, by rw [← hm]; exact Nat.lt_succ_self _⟩
    have := h3.1.symm.trans z; cases this
/-- a letter can be sent -/
theorem HInv.send {i : Nat} {s : Dk} {text : Str} (I : HInv n H (fun _ => False) qs) (hs : H.desks[i]? = some s) : (H.owners.length : Int) ∉ s.known ∧ (∃ rs, HInv n (H.sent i s text) (· = H.owners.length) rs) ∧ (∃ ow ms s₁, CanClose (H.sent i s text) H.owners.length ow ms s₁) ∧
    ∀ H', Closes (H.sent i s text) H.owners.length H' → ∃ qs', HInv n H' (fun _ => False) qs' ∧ H'.owners = H.owners ++ [(i : Int)] := by
  have hi := (List.getElem?_eq_some_iff.mp hs).1
  have D := I.desk i s hs
  have hk : (H.owners.length : Int) ∉ s.known := fun z => absurd (D.kr _ z).2 (Int.lt_irrefl _)
  have hlt : H.owners.length < (H.owners ++ [(i : Int)]).length := by rw [List.length_append]; exact Nat.lt_succ_self _
  have nk : ∀ {j}, ∀ q ∈ qs, q.key ≠ (H.owners.length, j) := fun q hq z => Nat.lt_irrefl H.owners.length (by have e : q.1 = H.owners.length := (Prod.mk.inj z).1; have := (List.getElem?_eq_some_iff.mp (I.ok q hq).1).1; rwa [e] at this)
  have hn : i < n := I.dl ▸ hi
  have eT : (H.told ++ [[]]).set H.owners.length ([] ++ [(s.hours + 1, s.hand)]) = H.told ++ [[(s.hours + 1, s.hand)]] := by
    rw [← I.lenT, List.set_append_right _ _ (Nat.le_refl _), Nat.sub_self]; rfl
  have gT : (H.told ++ [[(s.hours + 1, s.hand)]])[H.owners.length]? = some [(s.hours + 1, s.hand)] := by rw [← I.lenT]; exact get_mid _ [] _
  have gF : (H.finals ++ [none])[H.owners.length]? = some none := by rw [← I.lenF]; exact get_mid _ [] _
  have gO : (H.owners ++ [(i : Int)])[H.owners.length]? = some (i : Int) := get_mid _ [] _
  have J : HInv n ⟨H.desks.set i (s.propose H.owners.length), H.road, H.owners ++ [(i : Int)], H.wrote ++ [text], (H.told ++ [[]]).set H.owners.length ([] ++ [(s.hours + 1, s.hand)]), H.finals ++ [none]⟩ (· = H.owners.length) qs := ((I.more (tx := text) hn).turn hs (.propose (l := H.owners.length)) ((D.mono (Nat.le_of_lt hlt)).propose hk (Int.natCast_nonneg _) (Int.ofNat_lt.mpr hlt)) nk nofun).tell (p := (s.hours + 1, s.hand)) (ms := []) (fun z w => w) (by show (H.told ++ [[]])[_]? = _; rw [← I.lenT]; exact get_mid _ [] _) gF D.hand (List.getElem?_set_self hi) (List.mem_append_right _ (List.mem_cons_self ..)) (List.mem_append_right _ (List.mem_cons_self ..)) nofun nk
  rw [eT] at J
  have J1 : HInv n ⟨H.desks.set i (s.propose H.owners.length), H.road ++ (oth n H.owners.length i .letter).map toMail, H.owners ++ [(i : Int)], H.wrote ++ [text], H.told ++ [[(s.hours + 1, s.hand)]], H.finals ++ [none]⟩ (· = H.owners.length) (qs ++ oth n H.owners.length i .letter) := J.put (fun q hq => ?_) oth_keys fun r hr q hq => ?_
  · rw [oth_mail fun j => rfl] at J1
    have e : (H.desks.set i (s.propose H.owners.length)).length = n := by rw [List.length_set]; exact I.dl
    have J2 : HInv n (H.sent i s text) (· = H.owners.length) (qs ++ oth n H.owners.length i .letter) := by
      show HInv n ⟨H.desks.set i (s.propose H.owners.length), H.road ++ others (H.desks.set i (s.propose H.owners.length)).length i (Str.ofString "letter") H.owners.length none, H.owners ++ [(i : Int)], H.wrote ++ [text], H.told ++ [[(s.hours + 1, s.hand)]], H.finals ++ [none]⟩ _ _
      rw [e]; exact J1
    have ot : ∀ a, (H.sent i s text).owners[H.owners.length]? = some a → ∃ p ∈ [(s.hours + 1, s.hand)], p.2 = a := fun a e => ⟨_, List.mem_cons_self .., by
      have e : (H.owners ++ [(i : Int)])[H.owners.length]? = some a := e
      rw [gO] at e; cases e; exact D.hand⟩
    refine ⟨hk, ⟨_, J2⟩, (J2.can_close gT gF ot).elim fun ow z => z.elim fun s₁ C => ⟨ow, _, s₁, C⟩, fun H' hC => ?_⟩
    obtain ⟨rs, J3, e3, _⟩ := J2.close gF (fun ms a h => by cases h.symm.trans gT; exact ot a) hC
    exact ⟨_, J3, e3⟩
  · obtain ⟨j, hj, ne, rfl⟩ := oth_mem hq
    refine ⟨gO, hj, fun t e z => ?_⟩
    have e : (H.desks.set i _)[j]? = some t := e
    rw [List.getElem?_set_ne (Ne.symm ne)] at e
    exact absurd ((I.desk j t e).kr _ z).2 (Int.lt_irrefl _)
  · obtain ⟨j, hj, ne, rfl⟩ := oth_mem hr
    exact nk q hq
/-! ### bounds -/
theorem HInv.small (I : HInv n H X qs) (hd : n ≤ 40) (ho : H.owners.length ≤ 2000) : Small H := by
  have b : ∀ {x}, x ≤ H.owners.length → x < 9000 := fun h => Nat.lt_of_le_of_lt (Nat.le_trans h ho) (by decide)
  refine ⟨by rw [I.dl]; exact Nat.lt_of_le_of_lt hd (by decide), ?_, b (Nat.le_refl _), b (Nat.le_of_eq I.lenT), b (Nat.le_of_eq I.lenW), b (Nat.le_of_eq I.lenF), fun s hs => ?_, fun ms hms => ?_⟩
  · have h := I.ks.length_le_of_subset (l₂ := grid n H.owners.length) fun x hx => by
      obtain ⟨q, hq, rfl⟩ := List.mem_map.mp hx
      exact grid_mem (I.ok q hq).2.1 (List.getElem?_eq_some_iff.mp (I.ok q hq).1).1
    rw [grid_len, List.length_map] at h
    rw [I.rd, List.length_map]
    exact Nat.lt_of_le_of_lt (Nat.le_trans h (Nat.mul_le_mul ho hd)) (by decide)
  · obtain ⟨i, hi⟩ := List.mem_iff_getElem?.mp hs
    have D := I.desk i s hi
    have h := Nat.le_trans D.gl D.len
    exact ⟨b (Nat.le_trans (Nat.le_add_left _ _) h), b (Nat.le_trans (Nat.le_add_right _ _) h), b D.len⟩
  · obtain ⟨l, hl⟩ := List.mem_iff_getElem?.mp hms
    have := pigeon n _ (I.tn l ms hl) fun x hx => by
      obtain ⟨p, hp, rfl⟩ := List.mem_map.mp hx
      obtain ⟨j, s, e, hs, _⟩ := I.tr l ms p hl hp
      exact ⟨by show 0 ≤ p.2; rw [e]; exact Int.natCast_nonneg _, by show p.2 < _; rw [e, ← I.dl]; exact Int.ofNat_lt.mpr (List.getElem?_eq_some_iff.mp hs).1⟩
    rw [List.length_map] at this
    rw [I.dl]; exact this
theorem no_get {α : Type} {l : Nat} {a : α} {P : Prop} (h : ([] : List α)[l]? = some a) : P := nomatch h
theorem empty_inv (n : Nat) : HInv n (emptyHouse n) (fun _ => False) [] :=
  ⟨rfl, rfl, rfl, empty_len n, fun i s h => (empty_desk h).2 ▸ ⟨rfl, List.nodup_nil, nofun, List.Sublist.refl _, Nat.le_refl _⟩, fun l ms h => no_get h, fun l ms p h => no_get h, fun l ms h => no_get h, fun l ms m h => no_get h, fun l a h => no_get h, fun l a ms h => no_get h, rfl, nofun, List.nodup_nil⟩
end
end Mine
set_option maxRecDepth 100000
set_option linter.unusedSimpArgs false
set_option linter.unusedVariables false
namespace Mine
open PySem PyProof.Rows

section
variable {G : PG} {n : Nat} {ρ : Loc} {σ : Sto} {Φ : PE} {Ψ : PY} {f CH CD : Addr} {o : Own} {b : Nat} {A : HA} {H : Hs} {ΦP : Bool → Prop}
theorem road_nil {a c : Addr} {ms : List Mail} (ha : lstOf σ a = some (ms.map mailAV)) (hc : lstOf σ c = some []) (hw : ∀ m ∈ ms, PyData.strOk m.1 = true) (p : ΦP ms.isEmpty) : eqV σ (.ref a) (.ref c) ΦP := by
  have e1 := datum_lst ha (mapO_map (f := datum σ 5) mailAV (fun m => mailD m.1 m.2.1 m.2.2.1 m.2.2.2.1 m.2.2.2.2) ms fun m _ => datum_mail _ _ _ _ _)
  have e2 : datum σ 6 (.ref c) = some (.list []) := datum_lst hc rfl
  refine eq_refs e1 e2 (canAll _ _ fun m hm => can_mail (hw m hm)) rfl ?_ p
  cases ms with
  | nil => rfl
  | cons a r => simp [PyData.eqv, PyData.eqvAll]
theorem HInv.words {X : Nat → Prop} {qs : List Ml} (I : HInv n H X qs) : ∀ m ∈ H.road, PyData.strOk m.1 = true := fun m hm => by
  rw [I.rd] at hm
  obtain ⟨⟨l, a, i, ph⟩, _, rfl⟩ := List.mem_map.mp hm
  cases ph with
  | letter => exact (by decide +kernel : PyData.strOk (Str.ofString "letter") = true)
  | number _ => exact (by decide +kernel : PyData.strOk (Str.ofString "number") = true)
  | mark _ => exact (by decide +kernel : PyData.strOk (Str.ofString "mark") = true)
end
noncomputable def cHouse_rest : List Sm := [.asg "many" (.cst (.int (0))), .while_ (.cmp .Gt (.bi "len" [(.attr (.nm "self") "road")]) (.cst (.int (0)))) [.expr (.meth (.nm "self") "bring" [(.cst (.int (0)))]), .asg "many" (.bin .Add (.nm "many") (.cst (.int (1))))], .ret (some (.nm "many"))]
/-- a house that stands well -/
structure HOk (CH CD : Addr) (b : Nat) (x : Addr) (many : Nat) (o : Own) (σ : Sto) (H : Hs) : Prop where
  at_ : ∃ A, A.x = x ∧ HouseAt CH CD o σ b A H
  inv : ∃ qs, HInv many H (fun _ => False) qs
  d40 : many ≤ 40
  ol : H.owners.length ≤ 1000
/-- the methods that a law calls -/
structure HM (G : PG) (CH CD : Addr) : Prop where
  hf : HF G CH CD
  send : ∃ f, Mt G CH "send" ["self", "hand", "text"] cHouse_send f
  bring : ∃ f, Mt G CH "bring" ["self", "place"] cHouse_bring f
  mails : ∃ f, Mt G CH "mails" ["self"] cHouse_mails f
  handed : ∃ f, Mt G CH "handed" ["self", "hand"] cHouse_handed f
section
variable {G : PG} {n : Nat} {ρ : Loc} {σ σ' : Sto} {CH CD x : Addr} {o o' : Own} {b many : Nat} {H : Hs} {T : Tag → Prop}
theorem HOk.chg (X : HOk CH CD b x many o σ H) (c : Chg T o σ o' σ') (h : ∀ j, ¬ T (b, j)) : HOk CH CD b x many o' σ' H :=
  let ⟨A, e, a⟩ := X.at_; ⟨⟨A, e, a.chg c h⟩, X.inv, X.d40, X.ol⟩
theorem HOk.dl (X : HOk CH CD b x many o σ H) : H.desks.length = many := X.inv.elim fun _ I => I.dl
theorem HOk.small (X : HOk CH CD b x many o σ H) : Small H := X.inv.elim fun _ I => I.small X.d40 (Nat.le_trans X.ol (by decide))
theorem HOk.words (X : HOk CH CD b x many o σ H) : ∀ m ∈ H.road, PyData.strOk m.1 = true := X.inv.elim fun _ I => I.words
end
section
variable {G : PG} {n : Nat} {ρ : Loc} {σ : Sto} {Φ : PS} {Ψ : PX} {CH CD x l f : Addr} {o : Own} {b many : Nat} {H : Hs} {a e c : Ex} {as es : List Ex} {us vs : List AV} {r body : List Sm} {y : Str}
/-- a new house by its name -/
theorem g_house {tk : Tok} {fa : Addr} (hn : 14 ≤ n) (MH : Mk G "House" CH ["self", "many"] cHouse___init__) (MD : Mk G "Desk" CD ["self", "hand"] cDesk___init__) (Z : HF G CH CD) (most : G.mg "MOST_HANDS" = some (.int 40 tk)) (h1 : 1 ≤ many) (h40 : many ≤ 40) (he : Ev G n ρ σ e (.int many))
    (k : ∀ x o' σ', Chg (·.1 = b) o σ o' σ' → HOk CH CD b x many o' σ' (emptyHouse many) → tss G n r (putA y (.ref x) ρ) σ' Φ Ψ) : tss G n (.asg y (.call "House" [e]) :: r) ρ σ Φ Ψ := by
  obtain ⟨n, rfl⟩ : ∃ j, n = j + 2 := by first | with_reducible exact Nat.exists_eq_add_of_le' (Nat.le_trans (by decide) hn) | exact ⟨n - 2, (by first | decide | (with_reducible first | exact lv hn | exact lv1 hn | exact lv2 hn | exact Int.natCast_nonneg _ | assumption) | omega)⟩
  rw [bl_asg]
  exact mk_call MH (es_cons he es_nil _ _ (house_new (n := n) (o := o) (b := b) (f := fa) (lv2 hn) MH MD Z most h1 h40 fun A o₂ σ₂ c₂ X₂ => k A.x o₂ σ₂ c₂ ⟨⟨A, rfl, X₂⟩, ⟨[], empty_inv many⟩, h40, Nat.zero_le _⟩))
end
end Mine
set_option maxRecDepth 100000
set_option linter.unusedSimpArgs false
set_option linter.unusedVariables false
namespace Mine
open PySem PyProof.Rows

/-! ### rules for laws -/
section
variable {G : PG} {n : Nat} {ρ : Loc} {σ : Sto} {Φ : PE} {Ψ : PY} {ΦB : Bool → Sto → Prop} {x l f : Addr} {o : Own} {a e c : Ex} {as es : List Ex} {op : Operator} {u v : AV} {us vs : List AV} {t : Tag} {ns : List Int}
theorem x_bin (ha : Ev G n ρ σ a u) (p : (tr G n e).v ρ σ (fun w σ₂ => binV op u w σ₂ Φ) Ψ) : (tr G n (.bin op a e)).v ρ σ Φ Ψ := ha _ _ p
theorem x_subL (p : (tr G n a).v ρ σ (fun u σ₁ => (tr G n e).v ρ σ₁ (fun k σ₂ => subV u k σ₂ Φ) Ψ) Ψ) : (tr G n (.sub a e)).v ρ σ Φ Ψ := p
/-- a display of what is known -/
theorem x_list (t : Tag) (hs : Es G n ρ σ es us) (hz : us.length < 1000000) (p : ∀ a o' σ', Chg (fun _ => False) o σ o' σ' → At o' σ' t a (.list us) → Φ (.ref a) σ') : (tr G n (.list es)).v ρ σ Φ Ψ := by
  rw [tv_list]
  exact hs _ _ (new_own t (Nat.le_of_lt (Nat.lt_trans hz (by decide))) p)
theorem d_fmod {i j : Int} (h : j ≠ 0) : BinIs σ .Mod (.int i) (.int j) (.int (Int.fmod i j)) := fun _ p => ⟨h, p⟩
theorem d_fdiv {i j : Int} (h : j ≠ 0) (h' : j.natAbs < 2 ^ 200) : BinIs σ .FloorDiv (.int i) (.int j) (.int (Int.fdiv i j)) := fun _ p => ⟨h, h', p⟩
theorem lst_r {a : Addr} {vs : List AV} (x : At o σ t a (.rlist vs)) : lstOf σ a = some vs := by unfold lstOf; rw [x.at_]
theorem d_ints {i : Nat} (B : At o σ t l (.rlist (ns.map .int))) (hz : ns.length ≤ 63) (h : i < ns.length) : SubIs σ (.ref l) (.int i) (.int ns[i]) := d_get (lst_r B) (by rw [List.length_map]; exact Nat.lt_of_le_of_lt hz (by decide)) (by rw [List.getElem?_map, List.getElem?_eq_getElem h]; rfl)
/-- the script's cell -/
theorem ev_cell (C : Fn1 G "_law_cell_at" ["_law_script", "_law_k"] c_law_cell_at f) (B : At o σ t l (.rlist (ns.map .int))) (hz : ns.length ≤ 63) (l1 : ρ.lookup (Str.ofString "_law_script") = some (.ref l)) : ∃ v : Int, Ev G (n + 1) ρ σ (.call "_law_cell_at" [(.nm "_law_script"), (.cst (.int (0)))]) (.int v) := by
  have h : ∃ v : Int, CallIs G (n + 1) f [.ref l, .int 0] σ (.int v) := by
    cases hn : ns with
    | nil => exact ⟨0, fun Φ Ψ p => C.bd rfl fun ρ K X L hr _ _ => g_if0 (et_cmp (ev_nm (L _ _ rfl)) (ev_bi (es_cons (ev_nm (L _ _ rfl)) es_nil) (d_lenM (lst_r B) (by rw [hn]; decide))) (d_ltF (by rw [hn]; decide))) (g_ret ev_cst (hr _ _ _ p))⟩
    | cons v r =>
      have h0 : 0 < ns.length := by rw [hn]; exact Nat.succ_pos _
      exact ⟨_, fun Φ Ψ p => C.bd rfl fun ρ K X L hr _ _ => g_ifR (et_cmp (ev_nm (L _ _ rfl)) (ev_bi (es_cons (ev_nm (L _ _ rfl)) es_nil) (d_lenM (lst_r B) (Nat.lt_of_le_of_lt hz (by decide)))) (d_ltT (Int.ofNat_lt.mpr h0))) (ev_sub (ev_nm (L _ _ rfl)) (ev_nm (L _ _ rfl)) (d_ints B hz h0)) (hr _ _ _ p)⟩
  exact h.elim fun v h => ⟨v, ev_call C (es_cons (ev_nm l1) (es_cons ev_cst es_nil)) h⟩
/-- one of a display's whole numbers -/
theorem x_pick {P : Int → Prop} {is : List Int} (t : Tag) (hs : Es G n ρ σ es (is.map .int)) (hz : is.length ≤ 1000) (he : ∀ o' σ', Chg (fun _ => False) o σ o' σ' → ∃ i : Int, 0 ≤ i ∧ i < is.length ∧ Ev G n ρ σ' e (.int i)) (hP : ∀ i ∈ is, P i) (p : ∀ N o' σ', Chg (fun _ => False) o σ o' σ' → P N → Φ (.int N) σ') : (tr G n (.sub (.list es) e)).v ρ σ Φ Ψ := by
  refine x_subL (x_list (o := o) t hs (by rw [List.length_map]; exact Nat.lt_of_le_of_lt hz (by decide)) fun a o' σ' c A => ?_)
  obtain ⟨i, h0, h1, he⟩ := he o' σ' c
  refine he _ _ (sb_any (P := fun v => ∃ N, v = .int N ∧ P N) A.lst h0 (by rw [List.length_map]; exact h1) (by rw [List.length_map]; exact hz) (fun v hv => ?_) fun v hv => ?_)
  · obtain ⟨N, hN, rfl⟩ := List.mem_map.mp hv
    exact ⟨N, rfl, hP N hN⟩
  · obtain ⟨N, rfl, hN⟩ := hv
    exact p N o' σ' c hN
end
section
variable {G : PG} {n : Nat} {ρ : Loc} {σ : Sto} {Φ : PS} {Ψ : PX} {x l f : Addr} {o : Own} {a e c : Ex} {as es : List Ex} {us vs : List AV} {r body : List Sm} {y : Str}
theorem g_forR (hn : 10 ≤ n) (hs : Es G n ρ σ as us) (hr : ∀ P : List AV → Prop, P vs → rangeV us P) (I : Nat → Loc → Sto → Prop) (i0 : I 0 ρ σ)
    (turn : ∀ (i : Nat) (v : AV) (K : PS) ρ₂ σ₂, i < vs.length → vs[i]? = some v → I i ρ₂ σ₂ → (∀ ρ₄ σ₄, I (i + 1) ρ₄ σ₄ → K .next ρ₄ σ₄) → (∀ v ρ₄ σ₄, Φ (.ret v) ρ₄ σ₄ → K (.ret v) ρ₄ σ₄) → tss G n body (putA y v ρ₂) σ₂ K Ψ)
    (fin : ∀ ρ₂ σ₂, I vs.length ρ₂ σ₂ → tss G n r ρ₂ σ₂ Φ Ψ) : tss G n (.for_ y (.bi "range" as) body :: r) ρ σ Φ Ψ := by
  rw [bl_for, ti_range]
  exact hs _ _ ⟨hn, hr _ ⟨rfl, loop_ix (vs := vs) I i0 (fun _ _ _ _ => rfl) (fun i v J ρ₂ σ₂ hi hv hI k => ⟨_, rfl, turn i v _ ρ₂ σ₂ hi hv hI k fun v ρ₄ σ₄ p => p⟩) fin⟩⟩
end
end Mine
set_option maxRecDepth 100000
set_option linter.unusedSimpArgs false
set_option linter.unusedVariables false
namespace Mine
open PySem PyProof.Rows

/-- the exception classes, as an error of one of them is asked about them -/
structure Errs (G : PG) (nn : Addr) (w : Str) : Prop where
  ex : ExcK G.K nn
  k1 : ∃ C, G.mg "BadCount" = some (.ref C) ∧ W.kitOne G.K (.ref nn) (.ref C) = some (Str.ofString "BadCount" == w)
  k2 : ∃ C, G.mg "NoHand" = some (.ref C) ∧ W.kitOne G.K (.ref nn) (.ref C) = some (Str.ofString "NoHand" == w)
  k3 : ∃ C, G.mg "NoLetter" = some (.ref C) ∧ W.kitOne G.K (.ref nn) (.ref C) = some (Str.ofString "NoLetter" == w)
  k4 : ∃ C, G.mg "NoMail" = some (.ref C) ∧ W.kitOne G.K (.ref nn) (.ref C) = some (Str.ofString "NoMail" == w)
  k5 : ∃ C, G.mg "Twice" = some (.ref C) ∧ W.kitOne G.K (.ref nn) (.ref C) = some (Str.ofString "Twice" == w)
  k6 : ∃ C, G.mg "NotOpen" = some (.ref C) ∧ W.kitOne G.K (.ref nn) (.ref C) = some (Str.ofString "NotOpen" == w)
  k7 : ∃ C, G.mg "BadMark" = some (.ref C) ∧ W.kitOne G.K (.ref nn) (.ref C) = some (Str.ofString "BadMark" == w)
  k8 : ∃ C, G.mg "NoNote" = some (.ref C) ∧ W.kitOne G.K (.ref nn) (.ref C) = some (Str.ofString "NoNote" == w)
  ve : G.mg "ValueError" = none
  kv : W.kitOne G.K (.ref nn) (.type "ValueError") = some true
  bell : ∃ C, G.mg "BellError" = some (.ref C) ∧ W.exmOne G.K (.ref nn) (.ref C) = some true

section
variable {G : PG} {n : Nat} {ρ : Loc} {σ : Sto} {Φ : PE} {Ψ : PY} {f nn : Addr}
theorem bi_isiR {e C : Addr} {b : Bool} (hx : ExcK G.K nn) (h2 : W.kitOne G.K (.ref nn) (.ref C) = some b) (p : Φ (.bool b) σ) : biV G n "isinstance" [.exn e (.ref nn), .ref C] σ Φ := by
  unfold biV
  rw [if_neg (by rw [strQ]; decide), if_pos rfl]
  exact Exists.intro (.ref nn) (Exists.intro b ⟨rfl, h2, ⟨nn, rfl, hx⟩, p⟩)
theorem bi_isiT {e : Addr} {T : String} {b : Bool} (hx : ExcK G.K nn) (h2 : W.kitOne G.K (.ref nn) (.type T) = some b) (p : Φ (.bool b) σ) : biV G n "isinstance" [.exn e (.ref nn), .val (.type T)] σ Φ := by
  unfold biV
  rw [if_neg (by rw [strQ]; decide), if_pos rfl]
  exact Exists.intro T (Exists.intro (.ref nn) (Exists.intro b ⟨rfl, rfl, h2, ⟨nn, rfl, hx⟩, p⟩))
theorem glob_ve {ΦA : AV → Prop} (h : G.mg "ValueError" = none) (p : ΦA (.val (.type "ValueError"))) : globV G "ValueError" ΦA := by
  unfold globV
  rw [h]
  exact ⟨_, by decide +kernel, p⟩
end
end Mine
set_option maxRecDepth 100000
set_option linter.unusedSimpArgs false
set_option linter.unusedVariables false
namespace Mine
open PySem PyProof.Rows

/-! ### a deed of the house has one outcome -/
theorem Settles.one {s s1 s2 : Dk} {l : Int} {m : Mark} (x : Settles s l m s1) (y : Settles s l m s2) : s1 = s2 := by
  obtain ⟨i, m0, fs, rs, h1, _, _, h4, rfl⟩ := x
  obtain ⟨j, m1, gs, us, g1, _, _, g4, rfl⟩ := y
  have := h1.one g1; subst this
  obtain ⟨e1, e2⟩ := h4.one g4
  subst e1; subst e2; rfl
theorem Closes.one {H H1 H2 : Hs} {l : Nat} (x : Closes H l H1) (y : Closes H l H2) : H1 = H2 := by
  obtain ⟨ms, h, x⟩ := x
  obtain ⟨ms', g, y⟩ := y
  rw [h] at g; cases g
  rcases x with ⟨hx, rfl⟩ | ⟨hx, ow, s, s', h1, h2, h3, rfl⟩
  · rcases y with ⟨_, rfl⟩ | ⟨hy, _⟩
    · rfl
    · exact absurd hx hy
  · rcases y with ⟨hy, _⟩ | ⟨_, ow', t, t', g1, g2, g3, rfl⟩
    · exact absurd hy hx
    · rw [h1] at g1; cases g1
      rw [h2] at g2; cases g2
      rw [h3.one g3]
theorem Brings.one {H H1 H2 : Hs} {k l a i : Nat} {ph : Ph} (x : Brings H k l a i H1 ph) (y : Brings H k l a i H2 ph) : H1 = H2 := by
  cases ph with
  | letter =>
    obtain ⟨s, h, rfl⟩ := x
    obtain ⟨t, g, rfl⟩ := y
    rw [h] at g; cases g; rfl
  | number p =>
    obtain ⟨ms, h, x⟩ := x
    obtain ⟨ms', g, y⟩ := y
    rw [h] at g; cases g
    exact x.one y
  | mark m =>
    obtain ⟨s, s', h, x, rfl⟩ := x
    obtain ⟨t, t', g, y, rfl⟩ := y
    rw [h] at g; cases g
    rw [x.one y]
/-- all mails are brought, the first one first -/
inductive Rests : Hs → Nat → Hs → Prop
  | nil {H} : H.road = [] → Rests H 0 H
  | go {H l a i ph H1 c H'} : H.road[0]? = some (mailOf l a i ph) → Brings H 0 l a i H1 ph → Rests H1 c H' → Rests H (c + 1) H'
theorem mailOf_inj {l a i l' a' i' : Nat} {ph ph' : Ph} (h : mailOf l a i ph = mailOf l' a' i' ph') : l = l' ∧ a = a' ∧ i = i' ∧ ph = ph' := by
  have e : ∀ {w w' : Str} {x y z x' y' z' : Nat} {u u' : Option Mark}, ((w, (x : Int), (y : Int), (z : Int), u) : Mail) = (w', (x' : Int), (y' : Int), (z' : Int), u') → x = x' ∧ y = y' ∧ z = z' ∧ u = u' := fun h => by
    obtain ⟨_, h1, h2, h3, h4⟩ : _ ∧ _ ∧ _ ∧ _ ∧ _ := ⟨congrArg (·.1) h, congrArg (·.2.1) h, congrArg (·.2.2.1) h, congrArg (·.2.2.2.1) h, congrArg (·.2.2.2.2) h⟩
    exact ⟨Int.ofNat.inj h1, Int.ofNat.inj h2, Int.ofNat.inj h3, h4⟩
  have w : ∀ {w w' : Str} {x y : Int × Int × Int × Option Mark} {P : Prop}, ((w, x) : Mail) = (w', y) → w ≠ w' → P := fun h n => absurd (congrArg Prod.fst h) n
  cases ph with
  | letter => cases ph' with
    | letter => exact ⟨(e h).1, (e h).2.1, (e h).2.2.1, rfl⟩
    | number _ => exact w h (by decide)
    | mark _ => exact w h (by decide)
  | number p => cases ph' with
    | letter => exact w h (by decide)
    | number p' => exact ⟨(e h).1, (e h).2.2.1, (e h).2.1, congrArg _ (Option.some.inj (e h).2.2.2)⟩
    | mark _ => exact w h (by decide)
  | mark m => cases ph' with
    | letter => exact w h (by decide)
    | number _ => exact w h (by decide)
    | mark m' => exact ⟨(e h).1, (e h).2.1, (e h).2.2.1, congrArg _ (Option.some.inj (e h).2.2.2)⟩
theorem Rests.one {H H1 H2 : Hs} {c1 c2 : Nat} (x : Rests H c1 H1) (y : Rests H c2 H2) : c1 = c2 ∧ H1 = H2 := by
  induction x generalizing c2 H2 with
  | nil h => cases y with
    | nil g => exact ⟨rfl, rfl⟩
    | go g1 g2 g3 => rw [h] at g1; cases g1
  | go h1 h2 h3 ih => cases y with
    | nil g => rw [g] at h1; cases h1
    | go g1 g2 g3 =>
      rw [h1] at g1
      obtain ⟨rfl, rfl, rfl, rfl⟩ := mailOf_inj (Option.some.inj g1)
      have := h2.one g2; subst this
      obtain ⟨e1, e2⟩ := ih g3
      exact ⟨by rw [e1], e2⟩
/-- on the way: so many are brought, so much is left -/
structure Way (n : Nat) (H : Hs) (q : Nat) (H₂ : Hs) (qs : List Ml) (c : Nat) : Prop where
  mu : mu n qs = q
  inv : HInv n H₂ (fun _ => False) qs
  own : H₂.owners = H.owners
  go : ∀ c' H', Rests H₂ c' H' → Rests H (c' + c) H'
section
variable {n q c lt ha hb : Nat} {H H₂ H₃ : Hs} {rd qs : List Ml} {ph : Ph}
theorem Way.step (W : Way n H q H₂ ((lt, ha, hb, ph) :: rd) c) (h : Brings H₂ 0 lt ha hb H₃ ph) : ∃ qs' q', q' < q ∧ Way n H q' H₃ qs' (c + 1) := by
  obtain ⟨qs', I, e, hm⟩ := (W.inv.bring (k := 0) rfl).2 H₃ h
  exact ⟨qs', _, W.mu ▸ hm, rfl, I, e.trans W.own, fun c' H' z => (Nat.add_right_comm c' 1 c ▸ W.go _ _ (.go (by rw [W.inv.rd]; rfl) h z) : Rests H (c' + c + 1) H')⟩
theorem Way.fin (W : Way n H q H₂ [] c) : H₂.road = [] ∧ Rests H c H₂ := ⟨W.inv.rd, Nat.zero_add c ▸ W.go 0 _ (.nil W.inv.rd)⟩
theorem Way.new (I : HInv n H (fun _ => False) qs) : Way n H (Mine.mu n qs) H qs 0 := ⟨rfl, I, rfl, fun _ _ z => z⟩
end
/-! ### what holds of a desk and of what was settled there -/
structure SI (s : Dk) (dn : List Int) : Prop where
  fl : ∀ r ∈ s.rows, r.2.2 = decide (r.2.1 ∈ dn)
  dk : ∀ l ∈ dn, l ∈ s.known
  dd : dn.Nodup
section
variable {L i : Nat} {s s' : Dk} {dn : List Int} {l : Int} {m m0 : Mark}
theorem SI.inv (X : SI s dn) (D : D8 L i s) : SInv s dn L :=
  have h := D.len
  ⟨D.knd, D.sub, X.fl, X.dk, Nat.le_trans D.gl h, h, pigeon L _ X.dd fun x hx => D.kr x (X.dk x hx)⟩
theorem SI.prop (X : SI s dn) (D : D8 L i s) (h : l ∉ s.known) : SI (s.propose l) dn :=
  have Y := (X.inv D).out (.prop h)
  ⟨Y.fl, Y.dk, X.dd⟩
theorem SI.shut {j : Nat} (X : SI s dn) (h : s.rows[j]? = some (m0, l, false)) : l ∉ dn := fun z => by
  have := X.fl _ (List.mem_of_getElem? h)
  rw [decide_eq_true z] at this; cases this
theorem SI.settle {j : Nat} {fs : List Int} {rows' : List Row} (X : SI s dn) (D : D8 L i s) (h1 : OpenAt s.rows l j) (h2 : s.rows[j]? = some (m0, l, false)) (h3 : ltM m m0 = false) (h4 : Del (s.rows.set j (m, l, true)) fs rows') : SI ⟨s.hand, max s.hours m.1, rows', s.known, s.gone ++ fs⟩ (dn ++ [l]) :=
  have Y := (X.inv D).out (.settle h1 h2 h3 h4)
  ⟨Y.fl, Y.dk, one_nd X.dd (X.shut h2)⟩
theorem SI.can (X : SI s dn) (D : D8 L i s) (C : CanSettle s l m) : ∃ j m0, OpenAt s.rows l j ∧ s.rows[j]? = some (m0, l, false) ∧ ltM m m0 = false := by
  obtain ⟨r, hr, e1, e2⟩ : ∃ r ∈ s.rows, r.2.1 = l ∧ r.2.2 = false := Classical.byContradiction fun z => C.1 fun j r hr hz => z ⟨r, List.mem_of_getElem? hr, hz⟩
  have h2 : l ∉ dn := fun z => by have := X.fl r hr; rw [e1, e2, decide_eq_true z] at this; cases this
  obtain ⟨j, m0, h3, h4⟩ := (X.inv D).open_ (List.mem_map.mpr ⟨r, hr, e1⟩) h2
  exact ⟨j, m0, h3, h4, C.2 j m0 h3 h4⟩
end
end Mine
set_option maxRecDepth 100000
set_option linter.unusedSimpArgs false
set_option linter.unusedVariables false
namespace Mine
open PySem PyProof.Rows

noncomputable def c_law_desk : List Sm := [.ret (some (.dict [(.cst (.str "hand")), (.cst (.str "time")), (.cst (.str "met")), (.cst (.str "marks")), (.cst (.str "done")), (.cst (.str "row"))] [(.nm "_law_hand_here"), (.cst (.int (0))), (.list []), (.dict [] []), (.dict [] []), (.list [])]))]
noncomputable def c_law_first : List Sm := [.asg "_law_found" (.cst .none), .for_ "_law_letter_here" (.sub (.nm "_law_d") (.cst (.str "met"))) [.ite (.and_ [(.cmp .In (.nm "_law_letter_here") (.sub (.nm "_law_d") (.cst (.str "marks")))), (.or_ [(.cmp .Is (.nm "_law_found") (.cst .none)), (.cmp .Lt (.sub (.sub (.nm "_law_d") (.cst (.str "marks"))) (.nm "_law_letter_here")) (.sub (.sub (.nm "_law_d") (.cst (.str "marks"))) (.nm "_law_found")))])]) [.asg "_law_found" (.nm "_law_letter_here")] []], .ret (some (.nm "_law_found"))]

section
variable {G : PG} {n : Nat} {ρ : Loc} {σ : Sto} {x d l : Addr} {k : Int} {q : Bool} {v : AV} {ΦP : Bool → Prop}
theorem d_keyS {kvs : List (Str × AV)} {k : Str} (hd : σ d = some (.dictS kvs)) (hl : kvs.lookup k = some v) : SubIs σ (.ref d) (.str k) v := fun _ p => sb_dictS hd hl p
theorem d_keyI {kvs : List (Int × AV)} (hd : σ d = some (.dictI kvs)) (hl : kvs.lookup k = some v) : SubIs σ (.ref d) (.int k) v := fun _ p => sb_dictI hd hl p
theorem d_inM {rs : List Row} (hd : σ d = some (.dictI (marksC rs))) (e : (rs.map Row.L).contains k = q) : CmpIs G σ .In (.int k) (.ref d) q := fun _ p => in_dictI (G := G) hd (by rw [marks_any, e]; exact p)
theorem d_inK {ks : List Int} (hd : σ d = some (.dictI (knownC ks))) (e : ks.contains k = q) : CmpIs G σ .In (.int k) (.ref d) q := fun _ p => in_dictI (G := G) hd (by rw [known_any, e]; exact p)
theorem d_ltM {a b : Int × Int} (e : ltM a b = q) : CmpIs G σ .Lt (mk a) (mk b) q := fun P p => ⟨a, b, rfl, rfl, by rw [e]; exact p⟩
theorem con_T {l : List Int} (h : k ∈ l) : l.contains k = true := List.contains_iff_mem.mpr h
theorem con_F {l : List Int} (h : k ∉ l) : l.contains k = false := eq_false_of_ne_true fun z => h (List.contains_iff_mem.mp z)
/-- for x in d['k'] -/
theorem g_forE {vs : List AV} {y : Str} {a i : Ex} {body r : List Sm} {Φ : PS} {Ψ : PX} (h : Ev G n ρ σ (.sub a i) (.ref l)) (hl : lstOf σ l = some vs) (I : Nat → Loc → Prop) (i0 : I 0 ρ)
    (turn : ∀ (i : Nat) (v : AV) (K : PS) ρ₂, vs[i]? = some v → I i ρ₂ → (∀ ρ₄, I (i + 1) ρ₄ → K .next ρ₄ σ) → (∀ v ρ₄ σ₄, Φ (.ret v) ρ₄ σ₄ → K (.ret v) ρ₄ σ₄) → tss G n body (putA y v ρ₂) σ K Ψ)
    (fin : ∀ ρ₂, I vs.length ρ₂ → tss G n r ρ₂ σ Φ Ψ) : tss G n (.for_ y (.sub a i) body :: r) ρ σ Φ Ψ := by
  rw [bl_for]
  refine h _ _ ⟨rfl, loop_ix (vs := vs) (fun i ρ₂ σ₂ => σ₂ = σ ∧ I i ρ₂) ⟨rfl, i0⟩ (fun i ρ₂ σ₂ hI => by rw [hI.1]; exact hl) (fun i v J ρ₂ σ₂ hi hv hI k => ⟨_, rfl, ?_⟩) fun ρ₂ σ₂ hI => by rw [hI.1]; exact fin ρ₂ hI.2⟩
  rw [hI.1]
  exact turn i v _ ρ₂ hv hI.2 (fun ρ₄ h' => k ρ₄ σ ⟨rfl, h'⟩) fun v ρ₄ σ₄ p => p
end
noncomputable def bestAV : Option Row → AV
  | none => .none
  | some r => .int r.2.1
section
variable {G : PG} {n : Nat} {ρ : Loc} {σ : Sto} {Φ : PE} {Ψ : PY} {f d m k : Addr}
theorem first_is {kvs : List (Str × AV)} {known : List Int} {rows : List Row} (F : Fn1 G "_law_first" ["_law_d"] c_law_first f) (hd : σ d = some (.dictS kvs)) (hm : kvs.lookup (Str.ofString "met") = some (.ref m)) (hk : kvs.lookup (Str.ofString "marks") = some (.ref k)) (hml : lstOf σ m = some (known.map .int)) (hkl : σ k = some (.dictI (marksC rows))) (nd : known.Nodup) (sub : (rows.map Row.L).Sublist known) : CallIs G (n + 1) f [.ref d] σ (bestAV (best rows)) := fun Φ Ψ h =>
  F.bd rfl fun ρ K X L hr _ _ => by
    have l1 := L "_law_d" _ rfl
    have nr : (rows.map Row.L).Nodup := nd.sublist sub
    refine g_asg ev_cst (g_forE (ev_sub (ev_nm (lk_ne (by decide) l1)) ev_cst (d_keyS hd hm)) hml (fun i ρ₂ => ρ₂.lookup (Str.ofString "_law_d") = some (.ref d) ∧ ∃ ds cs, rows = ds ++ cs ∧ (ds.map Row.L).Sublist (known.take i) ∧ (cs.map Row.L).Sublist (known.drop i) ∧ ρ₂.lookup (Str.ofString "_law_found") = some (bestAV (best ds))) ⟨lk_ne (by decide) l1, [], rows, rfl, List.nil_sublist _, sub, lk_eq⟩ ?_ ?_)
    · rintro i v K₂ ρ₂ hv ⟨l1, ds, cs, e, h1, h2, l2⟩ k1 _
      rw [List.getElem?_map] at hv
      obtain ⟨x, hx, rfl⟩ := Option.map_eq_some_iff.mp hv
      have l1' : (putA "_law_letter_here" (.int x) ρ₂).lookup (Str.ofString "_law_d") = some (.ref d) := lk_ne (by decide) l1
      have l2' : (putA "_law_letter_here" (.int x) ρ₂).lookup (Str.ofString "_law_found") = some (bestAV (best ds)) := lk_ne (by decide) l2
      have em : Ev G n (putA "_law_letter_here" (.int x) ρ₂) σ (.sub (.nm "_law_d") (.cst (.str "marks"))) (.ref k) := ev_sub (ev_nm l1') ev_cst (d_keyS hd hk)
      rcases first_step nd hx h1 h2 with ⟨nx, g1, g2⟩ | ⟨r, cs', rfl, rfl, g1, g2⟩
      · exact g_if0 (et_and (ea_F (et_cmp (ev_nm lk_eq) em (d_inM hkl (con_F (e ▸ nx)))))) (k1 _ ⟨l1', ds, cs, e, g1, g2, l2'⟩)
      · have hin : r ∈ rows := by rw [e]; exact List.mem_append_right _ (List.mem_cons_self ..)
        have e2 : rows = (ds ++ [r]) ++ cs' := by rw [e, List.append_assoc]; rfl
        have hin' := con_T (List.mem_map.mpr ⟨r, hin, rfl⟩ : r.2.1 ∈ rows.map Row.L)
        have go : ∀ {ρ₄ : Loc}, ρ₄.lookup (Str.ofString "_law_d") = some (.ref d) → ρ₄.lookup (Str.ofString "_law_found") = some (bestAV (bst (best ds) r)) → K₂ .next ρ₄ σ := fun a b => k1 _ ⟨a, _, cs', e2, g1, g2, by rw [best_snoc]; exact b⟩
        cases eb : best ds with
        | none =>
          rw [eb] at l2' go
          exact g_iteT (et_and (ea_T (et_cmp (ev_nm lk_eq) em (d_inM hkl hin')) (ea_T (et_or (eo_T (et_cmp (ev_nm l2') ev_cst (d_none rfl)))) ea_nil))) (g_asg (ev_nm lk_eq) (go (lk_ne (by decide) l1') lk_eq))
        | some b =>
          have hb : b ∈ rows := by
            rcases best_is ds with ⟨_, z⟩ | ⟨j, r', _, hj, z⟩
            · rw [eb] at z; cases z
            · rw [eb] at z; cases z; rw [e]; exact List.mem_append_left _ (List.mem_of_getElem? hj)
          rw [eb] at l2' go
          have c : ∀ {q}, ltM r.1 b.1 = q → Et G n (putA "_law_letter_here" (.int r.2.1) ρ₂) σ (.and_ [(.cmp .In (.nm "_law_letter_here") (.sub (.nm "_law_d") (.cst (.str "marks")))), (.or_ [(.cmp .Is (.nm "_law_found") (.cst .none)), (.cmp .Lt (.sub (.sub (.nm "_law_d") (.cst (.str "marks"))) (.nm "_law_letter_here")) (.sub (.sub (.nm "_law_d") (.cst (.str "marks"))) (.nm "_law_found")))])]) q := fun {q} z => by
            have t := et_cmp (ev_sub em (ev_nm (lk_eq (x := Str.ofString "_law_letter_here") (a := .int r.2.1) (ρ := ρ₂))) (d_keyI hkl (marks_look nr hin))) (ev_sub em (ev_nm l2') (d_keyI hkl (marks_look nr hb))) (d_ltM (G := G) z)
            have t0 := et_cmp (G := G) (n := n) (σ := σ) (ev_nm l2') ev_cst (d_none rfl)
            refine et_and (ea_T (et_cmp (ev_nm lk_eq) em (d_inM hkl hin')) ?_)
            cases q with
            | true => exact ea_T (et_or (eo_F t0 (eo_T t))) ea_nil
            | false => exact ea_F (et_or (eo_F t0 (eo_F t eo_nil)))
          by_cases z : ltM r.1 b.1 = true
          · exact g_iteT (c z) (g_asg (ev_nm lk_eq) (go (lk_ne (by decide) l1') (by rw [bst, if_pos z]; exact lk_eq)))
          · exact g_if0 (c (eq_false_of_ne_true z)) (go l1' (by rw [bst, if_neg z]; exact l2'))
    · rintro ρ₂ ⟨l1, ds, cs, e, h1, h2, l2⟩
      rw [List.length_map, List.drop_length] at h2
      have : cs = [] := List.map_eq_nil_iff.mp (List.sublist_nil.mp h2)
      rw [this, List.append_nil] at e
      exact g_ret (ev_nm l2) (hr _ _ _ (by rw [← e]; exact h))
end
end Mine
set_option maxRecDepth 100000
set_option linter.unusedSimpArgs false
set_option linter.unusedVariables false
namespace Mine
open PySem PyProof.Rows

noncomputable def c_law_proposed : List Sm := [.sitem (.nm "_law_d") (.cst (.str "time")) (.bin .Add (.sub (.nm "_law_d") (.cst (.str "time"))) (.cst (.int (1)))), .expr (.meth (.sub (.nm "_law_d") (.cst (.str "met"))) "append" [(.nm "_law_letter_here")]), .sitem (.sub (.nm "_law_d") (.cst (.str "marks"))) (.nm "_law_letter_here") (.tup [(.sub (.nm "_law_d") (.cst (.str "time"))), (.sub (.nm "_law_d") (.cst (.str "hand")))]), .ret (some (.sub (.sub (.nm "_law_d") (.cst (.str "marks"))) (.nm "_law_letter_here")))]
noncomputable def c_law_settled : List Sm := [.sitem (.sub (.nm "_law_d") (.cst (.str "marks"))) (.nm "_law_letter_here") (.nm "_law_mark_here"), .sitem (.sub (.nm "_law_d") (.cst (.str "done"))) (.nm "_law_letter_here") (.cst (.bool true)), .sitem (.nm "_law_d") (.cst (.str "time")) (.bi "max" [(.sub (.nm "_law_d") (.cst (.str "time"))), (.sub (.nm "_law_mark_here") (.cst (.int (0))))]), .asg "_law_found" (.list []), .while_ (.and_ [(.cmp .IsNot (.call "_law_first" [(.nm "_law_d")]) (.cst .none)), (.cmp .In (.call "_law_first" [(.nm "_law_d")]) (.sub (.nm "_law_d") (.cst (.str "done"))))]) [.expr (.meth (.nm "_law_found") "append" [(.call "_law_first" [(.nm "_law_d")])]), .expr (.meth (.sub (.nm "_law_d") (.cst (.str "marks"))) "pop" [(.sub (.nm "_law_found") (.neg (.cst (.int (1)))))])], .sitem (.nm "_law_d") (.cst (.str "row")) (.bin .Add (.sub (.nm "_law_d") (.cst (.str "row"))) (.nm "_law_found")), .ret (some (.nm "_law_found"))]

/-- the law's own desk: where its objects lie -/
structure RA where
  d : Addr
  m : Addr
  k : Addr
  e : Addr
  r : Addr
noncomputable def RA.setR (A : RA) (r : Addr) : RA := ⟨A.d, A.m, A.k, A.e, r⟩
noncomputable def refC (A : RA) (hand time : Int) (ex : List (Str × AV)) : List (Str × AV) := (Str.ofString "hand", .int hand) :: (Str.ofString "time", .int time) :: (Str.ofString "met", .ref A.m) :: (Str.ofString "marks", .ref A.k) :: (Str.ofString "done", .ref A.e) :: (Str.ofString "row", .ref A.r) :: ex
structure RefAt (u : Tag) (o : Own) (σ : Sto) (A : RA) (s : Dk) (dn : List Int) (ex : List (Str × AV)) : Prop where
  d : At o σ u A.d (.dictS (refC A s.hand s.hours ex))
  m : At o σ u A.m (.list (s.known.map .int))
  k : At o σ u A.k (.dictI (marksC s.rows))
  e : At o σ u A.e (.dictI (knownC dn))
  r : At o σ u A.r (.list (s.gone.map .int))
  ne : A.m ≠ A.r
  nk : A.k ≠ A.e
theorem RefAt.chg {u : Tag} {o o' : Own} {σ σ' : Sto} {A : RA} {s : Dk} {dn : List Int} {ex : List (Str × AV)} {T : Tag → Prop} (x : RefAt u o σ A s dn ex) (h : Chg T o σ o' σ') (n : ¬ T u) : RefAt u o' σ' A s dn ex :=
  ⟨x.d.chg h n, x.m.chg h n, x.k.chg h n, x.e.chg h n, x.r.chg h n, x.ne, x.nk⟩
section
variable {G : PG} {n : Nat} {ρ : Loc} {σ : Sto} {Φ : PE} {Ψ : PY} {f : Addr} {o : Own} {u tf : Tag} {A : RA} {s : Dk} {dn : List Int} {ex : List (Str × AV)} {N : Nat}
theorem put_time (A : RA) (a t t' : Int) : putI (Str.ofString "time") (.int t') (refC A a t ex) = refC A a t' ex := by simp [refC, putI, strQ]
theorem put_row (A : RA) (a t : Int) (r : Addr) : putI (Str.ofString "row") (.ref r) (refC A a t ex) = refC (A.setR r) a t ex := by simp [refC, putI, strQ, RA.setR]
theorem RefAt.setTime (S : RefAt u o σ A s dn ex) (t : Int) : RefAt u o (upd σ A.d (.dictS (refC A s.hand t ex))) A { s with hours := t } dn ex ∧ Chg (· = u) o σ o (upd σ A.d (.dictS (refC A s.hand t ex))) :=
  ⟨⟨S.d.put, S.m.upd (S.m.ne_kind S.d (by simp)), S.k.upd (S.k.ne_kind S.d (by simp)), S.e.upd (S.e.ne_kind S.d (by simp)), S.r.upd (S.r.ne_kind S.d (by simp)), S.ne, S.nk⟩, .put S.d rfl⟩
theorem RefAt.setMarks (S : RefAt u o σ A s dn ex) (rs : List Row) : RefAt u o (upd σ A.k (.dictI (marksC rs))) A { s with rows := rs } dn ex ∧ Chg (· = u) o σ o (upd σ A.k (.dictI (marksC rs))) :=
  ⟨⟨S.d.upd (S.d.ne_kind S.k (by simp)), S.m.upd (S.m.ne_kind S.k (by simp)), S.k.put, S.e.upd (Ne.symm S.nk), S.r.upd (S.r.ne_kind S.k (by simp)), S.ne, S.nk⟩, .put S.k rfl⟩
theorem RefAt.setDone (S : RefAt u o σ A s dn ex) (ds : List Int) : RefAt u o (upd σ A.e (.dictI (knownC ds))) A s ds ex ∧ Chg (· = u) o σ o (upd σ A.e (.dictI (knownC ds))) :=
  ⟨⟨S.d.upd (S.d.ne_kind S.e (by simp)), S.m.upd (S.m.ne_kind S.e (by simp)), S.k.upd S.nk, S.e.put, S.r.upd (S.r.ne_kind S.e (by simp)), S.ne, S.nk⟩, .put S.e rfl⟩
theorem RefAt.setMet (S : RefAt u o σ A s dn ex) (ks : List Int) : RefAt u o (upd σ A.m (.list (ks.map .int))) A { s with known := ks } dn ex ∧ Chg (· = u) o σ o (upd σ A.m (.list (ks.map .int))) :=
  ⟨⟨S.d.upd (S.d.ne_kind S.m (by simp)), S.m.put, S.k.upd (S.k.ne_kind S.m (by simp)), S.e.upd (S.e.ne_kind S.m (by simp)), S.r.upd (Ne.symm S.ne), S.ne, S.nk⟩, .put S.m rfl⟩
/-- d['k'] -/
theorem RefAt.key {k : Str} {v : AV} (S : RefAt u o σ A s dn ex) (l1 : ρ.lookup (Str.ofString "_law_d") = some (.ref A.d)) (h : (refC A s.hand s.hours ex).lookup k = some v) : Ev G n ρ σ (.sub (.nm "_law_d") (.cst (.str k))) v := ev_sub (ev_nm l1) ev_cst (d_keyS S.d.at_ h)
theorem RefAt.first (S : RefAt u o σ A s dn ex) (X : SInv s dn N) (F : Fn1 G "_law_first" ["_law_d"] c_law_first f) (l1 : ρ.lookup (Str.ofString "_law_d") = some (.ref A.d)) : Ev G (n + 1) ρ σ (.call "_law_first" [(.nm "_law_d")]) (bestAV (best s.rows)) :=
  ev_call F (es_cons (ev_nm l1) es_nil) (first_is F S.d.at_ rfl rfl S.m.lst S.k.at_ X.nd X.sub)
theorem mk_len (rs : List Row) : (marksC rs).length = rs.length := List.length_map ..
theorem kn_len (ks : List Int) : (knownC ks).length = ks.length := List.length_map ..
theorem big_line {a : Nat} (h : a < 10000) : a < sizeLine := Nat.lt_trans h (by decide)
theorem SInv.rl (X : SInv s dn N) (h : N < 1000) : s.rows.length < 10000 := Nat.lt_of_le_of_lt (Nat.le_trans (Nat.le_add_left _ _) X.gl) (Nat.lt_trans h (by decide))
theorem ex6 (h : ex.length < 1000) : ex.length + 6 < sizeLine := big_line (Nat.lt_trans (Nat.add_lt_add_right h 6) (by decide))
theorem proposed_ok {l : Int} (F : Fn1 G "_law_proposed" ["_law_d", "_law_letter_here"] c_law_proposed f) (S : RefAt u o σ A s dn ex) (X : SInv s dn N) (hN : N < 1000) (hx : ex.length < 1000) (hl : l ∉ s.known)
    (h : ∀ σ', Chg (· = u) o σ o σ' → RefAt u o σ' A (s.propose l) dn ex → Φ (mk (s.hours + 1, s.hand)) σ') : WC G (n + 1) (.ref f) [.ref A.d, .int l] σ Φ Ψ :=
  F.bd rfl fun ρ K X' L hr _ _ => by
    have l1 := L "_law_d" _ rfl
    have l2 := L "_law_letter_here" _ rfl
    refine g_sitem (ev_bin (S.key l1 rfl) ev_cst d_add) (ev_nm l1) ev_cst (si_dictS S.d.at_ (ex6 hx) ?_)
    rw [put_time]
    obtain ⟨S1, c1⟩ := S.setTime (s.hours + 1)
    generalize upd σ A.d (.dictS (refC A s.hand (s.hours + 1) ex)) = σ₁ at S1 c1
    have e : s.known.map AV.int ++ [AV.int l] = (s.known ++ [l]).map .int := by rw [List.map_append]; rfl
    refine g_app (vs := s.known.map .int) (S1.key l1 rfl) S1.m.at_ (ev_nm l2) (by rw [List.length_map]; exact big_line (Nat.lt_of_le_of_lt X.kn (Nat.lt_trans hN (by decide)))) ?_
    rw [e]
    obtain ⟨S2, c2⟩ := S1.setMet (s.known ++ [l])
    have c2 := c1.trans c2
    generalize upd σ₁ A.m (.list ((s.known ++ [l]).map .int)) = σ₂ at S2 c2
    have nl : l ∉ s.rows.map Row.L := fun z => hl (X.sub.subset z)
    have hm : Ev G n ρ σ₂ (.tup [(.sub (.nm "_law_d") (.cst (.str "time"))), (.sub (.nm "_law_d") (.cst (.str "hand")))]) (mk (s.hours + 1, s.hand)) := ev_tup (es_cons (S2.key l1 rfl) (es_cons (S2.key l1 rfl) es_nil)) (Nat.le_of_ble_eq_true rfl)
    refine g_sitem hm (S2.key l1 rfl) (ev_nm l2) (si_dictI (kvs := marksC s.rows) S2.k.at_ (by rw [mk_len]; exact big_line (X.rl hN)) ?_)
    rw [marks_new (b := false) nl]
    obtain ⟨S3, c3⟩ := S2.setMarks (s.rows ++ [((s.hours + 1, s.hand), l, false)])
    have c3 := c2.trans c3
    generalize upd σ₂ A.k (.dictI (marksC (s.rows ++ [((s.hours + 1, s.hand), l, false)]))) = σ₃ at S3 c3
    have Y := X.out (.prop hl)
    exact g_ret (ev_sub (S3.key l1 rfl) (ev_nm l2) (d_keyI S3.k.at_ (marks_look (r := ((s.hours + 1, s.hand), l, false)) Y.nr (List.mem_append_right _ (List.mem_cons_self ..))))) (hr _ _ _ (h _ c3 S3))
end
end Mine
set_option maxRecDepth 100000
set_option linter.unusedSimpArgs false
set_option linter.unusedVariables false
namespace Mine
open PySem PyProof.Rows

section
variable {G : PG} {n : Nat} {ρ : Loc} {σ : Sto} {x : Addr} {a e ob : Ex} {v w : AV} {r : List Sm} {Φ : PS} {Ψ : PX} {o : Own}
theorem ev_neg {i : Int} (h : Ev G n ρ σ a (.int i)) : Ev G n ρ σ (.neg a) (.int (-i)) := fun Φ Ψ p => h _ Ψ p
theorem d_last {vs : List AV} (hl : lstOf σ x = some (vs ++ [v])) (hz : vs.length < 10000) : SubIs σ (.ref x) (.int (-1)) v := fun Φ p => sb_lst hl (by decide) (by decide) (by
  unfold idx seqIndex?
  rw [List.length_append]
  have h1 : (-1 : Int) + ((vs.length + [v].length : Nat) : Int) = vs.length := by rw [List.length_singleton]; omega
  simp only [show ((-1 : Int) < 0) = True from eq_true (by decide), if_true, h1]
  rw [if_pos (by rw [Bool.and_eq_true, decide_eq_true_eq, decide_eq_true_eq]; exact ⟨Int.natCast_nonneg _, by rw [List.length_singleton]; omega⟩), Option.bind_some, Int.toNat_natCast]
  exact get_mid vs [] v) p
/-- d.pop(k) -/
theorem mt_dpop {i : Int} {kvs : List (Int × AV)} {P : PE} {Q : PY} (ha : Ev G n ρ σ a (.ref x)) (hx : σ x = some (.dictI kvs)) (he : Ev G n ρ σ e (.int i)) (hz : kvs.length < 10000) (hl : kvs.lookup i = some v) (p : P v (upd σ x (.dictI (kvs.filter fun kv => decide (kv.1 ≠ i))))) : (tr G n (.meth a "pop" [e])).v ρ σ P Q := by
  rw [tv_meth]
  refine ha _ _ ?_
  unfold methV
  simp only [hx]
  refine ⟨trivial, ?_⟩
  rw [sq_cons]
  exact he _ _ ⟨kvs, i, v, hx, rfl, hl, Nat.le_of_lt (big_line hz), p⟩
theorem g_dpop {i : Int} {kvs : List (Int × AV)} (ha : Ev G n ρ σ a (.ref x)) (hx : σ x = some (.dictI kvs)) (he : Ev G n ρ σ e (.int i)) (hz : kvs.length < 10000) (hl : kvs.lookup i = some v) (p : tss G n r ρ (upd σ x (.dictI (kvs.filter fun kv => decide (kv.1 ≠ i)))) Φ Ψ) : tss G n (.expr (.meth a "pop" [e]) :: r) ρ σ Φ Ψ := by
  rw [bl_expr]
  exact mt_dpop ha hx he hz hl p
/-- d['k'] = two lists, one behind the other -/
theorem g_addI {b i : Ex} {u : AV} {vs us : List AV} {y z : Addr} (t : Tag) (ho : ∀ {σ'}, Ev G n ρ σ' ob w) (hi : ∀ {σ'}, Ev G n ρ σ' i u) (ha : Ev G n ρ σ a (.ref y)) (hb : Ev G n ρ σ b (.ref z)) (hy : lstOf σ y = some vs) (hz : lstOf σ z = some us) (hl : (vs ++ us).length ≤ sizeLine) (p : ∀ a o' σ', σ a = none → Chg (fun _ => False) o σ o' σ' → At o' σ' t a (.list (vs ++ us)) → sitemV w u (.ref a) σ' fun σ₃ => tss G n r ρ σ₃ Φ Ψ) : tss G n (.sitem ob i (.bin .Add a b) :: r) ρ σ Φ Ψ := by
  rw [bl_sitem, tv_bin]
  refine ha _ _ (hb _ _ ?_)
  rw [bn_lst hy hz]
  exact new_lst hl fun a ha _ => ho _ _ (hi _ _ (p a _ _ ha (.new (t := t) ha) .new))
end
section
variable {G : PG} {n : Nat} {ρ : Loc} {σ : Sto} {Φ : PE} {Ψ : PY} {f : Addr} {o : Own} {u tf : Tag} {A : RA} {s : Dk} {dn : List Int} {ex : List (Str × AV)} {N : Nat}
theorem SInv.erase (X : SInv s dn N) (k : Nat) : SInv { s with rows := s.rows.eraseIdx k } dn N :=
  ⟨X.nd, ((List.eraseIdx_sublist ..).map _).trans X.sub, fun r hr => X.fl r ((List.eraseIdx_sublist ..).subset hr), X.dk, Nat.le_trans (Nat.add_le_add_left (List.Sublist.length_le (List.eraseIdx_sublist ..)) _) X.gl, X.kn, X.dl⟩
/-- the loop that hands out, of the law -/
theorem law_out {ff b : Addr} {r : List Sm} {Φ : PS} {Ψ : PX} (F : Fn1 G "_law_first" ["_law_d"] c_law_first ff) (S : RefAt u o σ A s dn ex) (X : SInv s dn N) (hN : N < 1000) (htf : tf ≠ u)
    (B : At o σ tf b (.list [])) (l1 : ρ.lookup (Str.ofString "_law_d") = some (.ref A.d)) (l2 : ρ.lookup (Str.ofString "_law_found") = some (.ref b))
    (k : ∀ fs rows' ρ' σ', Del s.rows fs rows' → ChgB (· = u) b o σ o σ' → RefAt u o σ' A { s with rows := rows' } dn ex → At o σ' tf b (.list (fs.map .int)) → ρ'.lookup (Str.ofString "_law_d") = some (.ref A.d) → ρ'.lookup (Str.ofString "_law_found") = some (.ref b) → tss G (n + 1) r ρ' σ' Φ Ψ) :
    tss G (n + 1) (.while_ (.and_ [(.cmp .IsNot (.call "_law_first" [(.nm "_law_d")]) (.cst .none)), (.cmp .In (.call "_law_first" [(.nm "_law_d")]) (.sub (.nm "_law_d") (.cst (.str "done"))))]) [.expr (.meth (.nm "_law_found") "append" [(.call "_law_first" [(.nm "_law_d")])]), .expr (.meth (.sub (.nm "_law_d") (.cst (.str "marks"))) "pop" [(.sub (.nm "_law_found") (.neg (.cst (.int (1)))))])] :: r) ρ σ Φ Ψ := by
  refine g_while (fun k ρ₂ σ₂ => ∃ rows fs, rows.length = k ∧ rows.length + fs.length = s.rows.length ∧ RefAt u o σ₂ A { s with rows := rows } dn ex ∧ SInv { s with rows := rows } dn N ∧ ChgB (· = u) b o σ o σ₂ ∧ At o σ₂ tf b (.list (fs.map .int)) ∧ (ρ₂.lookup (Str.ofString "_law_d") = some (.ref A.d) ∧ ρ₂.lookup (Str.ofString "_law_found") = some (.ref b)) ∧
      ∀ f' r', Del rows f' r' → Del s.rows (fs ++ f') r') s.rows.length ⟨s.rows, [], rfl, rfl, S, X, Chg.refl.toB, B, ⟨l1, l2⟩, fun f' r' z => z⟩ ?_
  rintro kk ρ₂ σ₂ K ⟨rows, fs, rfl, hlen, S₂, X₂, c₂, B₂, ⟨l1, l2⟩, hD⟩ kJ
  have ef := S₂.first (n := n) X₂ F l1
  have hl1 : rows.length < 10000 := Nat.lt_of_le_of_lt (hlen ▸ Nat.le_add_right _ _) (X.rl hN)
  have hl0 : fs.length < 10000 := Nat.lt_of_le_of_lt (hlen ▸ Nat.le_add_left _ _) (X.rl hN)
  rcases best_is rows with ⟨e, eb⟩ | ⟨j, r0, hj, hrow, eb⟩
  · subst e
    rw [eb] at ef
    refine .inl ⟨et_and (ea_F (et_cmp ef ev_cst (d_some rfl))), k fs [] ρ₂ σ₂ ?_ c₂ S₂ B₂ l1 l2⟩
    have := hD [] [] .nil
    rw [List.append_nil] at this; exact this
  · replace ef : Ev G (n + 1) ρ₂ σ₂ (.call "_law_first" [(.nm "_law_d")]) (.int r0.2.1) := by rw [show (AV.int r0.2.1) = bestAV (best rows) by rw [eb]; rfl]; exact ef
    have hm := List.mem_of_getElem? hrow
    have hfl := X₂.fl r0 hm
    have cc : ∀ {q}, dn.contains r0.2.1 = q → Et G (n + 1) ρ₂ σ₂ (.and_ [(.cmp .IsNot (.call "_law_first" [(.nm "_law_d")]) (.cst .none)), (.cmp .In (.call "_law_first" [(.nm "_law_d")]) (.sub (.nm "_law_d") (.cst (.str "done"))))]) q := fun {q} z => by
      have t := et_cmp (G := G) ef (S₂.key (k := Str.ofString "done") l1 rfl) (d_inK S₂.e.at_ z)
      refine et_and (ea_T (et_cmp ef ev_cst (d_some rfl)) ?_)
      cases q with
      | true => exact ea_T t ea_nil
      | false => exact ea_F t
    by_cases q : r0.2.1 ∈ dn
    · rw [decide_eq_true q] at hfl
      refine .inr ⟨cc (con_T q), g_app (ev_nm l2) B₂.at_ ef (by rw [List.length_map]; exact big_line hl0) ?_⟩
      have c3 : Chg (· = tf) o σ₂ o (upd σ₂ b (.list (fs.map .int ++ [.int r0.2.1]))) := .put B₂ rfl
      have B₃ : At o (upd σ₂ b (.list (fs.map .int ++ [.int r0.2.1]))) tf b (.list (fs.map .int ++ [.int r0.2.1])) := B₂.put
      have S₃ := S₂.chg c3 (Ne.symm htf)
      have c₃ : ChgB (· = u) b o σ o (upd σ₂ b (.list (fs.map .int ++ [.int r0.2.1]))) := c₂.trans .put
      clear c3
      generalize upd σ₂ b (.list (fs.map .int ++ [.int r0.2.1])) = σ₃ at S₃ c₃ B₃
      refine g_dpop (kvs := marksC rows) (S₃.key l1 rfl) S₃.k.at_ (ev_sub (ev_nm l2) (ev_neg ev_cst) (d_last B₃.lst (by rw [List.length_map]; exact hl0))) (by rw [mk_len]; exact hl1) (marks_look X₂.nr hm) ?_
      rw [marks_pop X₂.nr hrow]
      obtain ⟨S₄, c4⟩ := S₃.setMarks (rows.eraseIdx j)
      have B₄ := B₃.chg c4 htf
      have c₄ := c₃.trans c4.toB
      have hjl := (List.getElem?_eq_some_iff.mp hrow).1
      have hle : (rows.eraseIdx j).length + 1 = rows.length := erase_len hjl
      refine g_nil (kJ (rows.eraseIdx j).length _ _ (Nat.lt_of_succ_le (Nat.le_of_eq hle)) ⟨rows.eraseIdx j, fs ++ [r0.2.1], rfl, ?_, S₄, X₂.erase j, c₄, ?_, ⟨l1, l2⟩, fun f' r' z => ?_⟩)
      · rw [List.length_append, ← hlen, ← hle, Nat.add_right_comm]; rfl
      · rw [List.map_append]; exact B₄
      · have := hD (r0.2.1 :: f') r' (.go (m := r0.1) hj (by rw [hrow, ← hfl]) z)
        rw [List.append_assoc]; exact this
    · rw [decide_eq_false q] at hfl
      refine .inl ⟨cc (con_F q), k fs rows ρ₂ σ₂ ?_ c₂ S₂ B₂ l1 l2⟩
      have := hD [] rows (.stop hj hrow hfl)
      rw [List.append_nil] at this; exact this
theorem settled_ok {l : Int} {m m0 : Int × Int} {ff : Addr} {i : Nat} (hn : 10 ≤ n) (F : Fn1 G "_law_settled" ["_law_d", "_law_letter_here", "_law_mark_here"] c_law_settled f) (F1 : Fn1 G "_law_first" ["_law_d"] c_law_first ff) (tf : Tag) (S : RefAt u o σ A s dn ex) (X : SInv s dn N) (hN : N < 999) (hx : ex.length < 1000) (htf : tf ≠ u) (hr : s.rows[i]? = some (m0, l, false)) (hd : l ∉ dn)
    (h : ∀ fs rows' b r' o' σ', Del (s.rows.set i (m, l, true)) fs rows' → Chg (· = u) o σ o' σ' → RefAt u o' σ' (A.setR r') ⟨s.hand, max s.hours m.1, rows', s.known, s.gone ++ fs⟩ (dn ++ [l]) ex → σ b = none → At o' σ' tf b (.list (fs.map .int)) → Φ (.ref b) σ') : WC G (n + 1) (.ref f) [.ref A.d, .int l, mk m] σ Φ Ψ := by
  obtain ⟨n, rfl⟩ : ∃ j, n = j + 1 := by first | with_reducible exact Nat.exists_eq_add_of_le' (Nat.le_trans (by decide) hn) | exact ⟨n - 1, (by first | decide | (with_reducible first | exact lv hn | exact lv1 hn | exact lv2 hn | exact Int.natCast_nonneg _ | assumption) | omega)⟩
  refine F.bd rfl fun ρ K X' L hret _ _ => ?_
  have l1 := L "_law_d" _ rfl
  have l2 := L "_law_letter_here" _ rfl
  have l3 := L "_law_mark_here" _ rfl
  clear L
  have Y := X.settle (m := m) hr
  refine g_sitem (ev_nm l3) (S.key l1 rfl) (ev_nm l2) (si_dictI S.k.at_ (by rw [mk_len]; exact big_line (X.rl (Nat.lt_succ_of_lt hN))) ?_)
  rw [marks_set (b' := true) X.nr hr]
  obtain ⟨S1, c1⟩ := S.setMarks (s.rows.set i (m, l, true))
  generalize upd σ A.k (.dictI (marksC (s.rows.set i (m, l, true)))) = σ₁ at S1 c1
  refine g_sitem ev_cst (S1.key l1 rfl) (ev_nm l2) (si_dictI S1.e.at_ (by rw [kn_len]; exact big_line (Nat.lt_of_le_of_lt X.dl (Nat.lt_trans hN (by decide)))) ?_)
  rw [known_put _ _ hd]
  obtain ⟨S2, c2⟩ := S1.setDone (dn ++ [l])
  have c₂ := c1.trans c2
  clear c1 c2
  generalize upd σ₁ A.e (.dictI (knownC (dn ++ [l]))) = σ₂ at S2 c₂
  refine g_sitem (ev_bi (es_cons (S2.key l1 rfl) (es_cons (ev_sub (ev_nm l3) ev_cst d_0) es_nil)) fun P p => bi_max2 hn p) (ev_nm l1) ev_cst (si_dictS S2.d.at_ (ex6 hx) ?_)
  rw [put_time]
  obtain ⟨S3, c3⟩ := S2.setTime (max s.hours m.1)
  have c₃ := c₂.trans c3
  clear c3 c₂
  generalize upd σ₂ A.d (.dictS (refC A s.hand (max s.hours m.1) ex)) = σ₃ at S3 c₃
  refine g_asgL (o := o) tf fun b o₄ σ₄ hb cb B₄ => ?_
  have hσb : σ b = none := c₃.none hb
  have S4 := S3.chg cb id
  have c₄ := c₃.trans (cb.mono fun _ z => z.elim)
  refine law_out (tf := tf) F1 S4 Y (Nat.succ_lt_succ hN) htf B₄ (lk_ne (by decide) l1) lk_eq fun fs rows' ρ' σ₅ hD c5 S5 B5 l1 l2 => ?_
  have hds := hD.sub
  refine g_addI (o := o₄) u (ev_nm l1) ev_cst (S5.key l1 rfl) (ev_nm l2) S5.r.lst B5.lst ?_ fun r' o₆ σ₆ hr' cg G₆ => ?_
  · rw [List.length_append, List.length_map, List.length_map]
    have h2 := hds.2
    rw [show ({s with hours := max s.hours m.1, rows := s.rows.set i (m, l, true)} : Dk).rows = s.rows.set i (m, l, true) from rfl, List.length_set] at h2
    exact Nat.le_of_lt (big_line (Nat.lt_of_le_of_lt (Nat.le_trans (Nat.add_le_add_left (h2 ▸ Nat.le_add_right _ _) _) X.gl) (Nat.lt_trans hN (by decide))))
  rw [← List.map_append] at G₆
  have S6 := S5.chg cg id
  have B6 := B5.chg cg id
  have hge := S5.m.off hr'
  have c₆ := c5.trans (cg.mono (T' := (· = u)) fun _ z => z.elim).toB
  refine si_dictS S6.d.at_ (ex6 hx) ?_
  rw [put_row]
  have c7 : Chg (· = u) o₆ σ₆ o₆ (upd σ₆ A.d (.dictS (refC (A.setR r') s.hand (max s.hours m.1) ex))) := .put S6.d rfl
  exact g_ret (ev_nm l2) (hret _ _ _ (h fs rows' b r' o₆ _ hD ((c₄.toB.trans (c₆.trans c7.toB)).chg hσb) ⟨S6.d.put, S6.m.upd (S6.m.ne_kind S6.d (by simp)), S6.k.upd (S6.k.ne_kind S6.d (by simp)), S6.e.upd (S6.e.ne_kind S6.d (by simp)), G₆.upd (G₆.ne_kind S6.d (by simp)), hge, S6.nk⟩ hσb (B6.chg c7 htf)))
end
end Mine
set_option maxRecDepth 100000
set_option linter.unusedSimpArgs false
set_option linter.unusedVariables false
namespace Mine
open PySem PyProof.Rows

/-- the law's own house: where its objects lie -/
structure RH where
  d : Addr
  ds : Addr
  se : Addr
  ml : Addr
  D : List RA
  S : List (Addr × Addr)
noncomputable def rhC (A : RH) (ex : List (Str × AV)) : List (Str × AV) := (Str.ofString "desks", .ref A.ds) :: (Str.ofString "sent", .ref A.se) :: (Str.ofString "mails", .ref A.ml) :: ex
/-- one letter, as the law keeps it -/
structure SentAt (t : Tag) (o : Own) (σ : Sto) (p : Addr × Addr) (ow : Int) (tx : Str) (ms : List Mark) (fm : Option Mark) : Prop where
  a : At o σ t p.1 (.list [.int ow, .str tx, .ref p.2, finAV fm])
  b : At o σ t p.2 (.list (ms.map mk))
  ne : p.1 ≠ p.2
theorem SentAt.chg {t : Tag} {o o' : Own} {σ σ' : Sto} {p : Addr × Addr} {ow : Int} {tx : Str} {ms : List Mark} {fm : Option Mark} {T : Tag → Prop} (x : SentAt t o σ p ow tx ms fm) (h : Chg T o σ o' σ') (n : ¬ T t) : SentAt t o' σ' p ow tx ms fm := ⟨x.a.chg h n, x.b.chg h n, x.ne⟩
structure RHAt (o : Own) (σ : Sto) (b : Nat) (A : RH) (H : Hs) (ex : List (Str × AV)) : Prop where
  d : At o σ (b, 0) A.d (.dictS (rhC A ex))
  ds : At o σ (b, 1) A.ds (.list (A.D.map fun D => .ref D.d))
  ml : At o σ (b, 2) A.ml (.list (H.road.map mailAV))
  se : At o σ (b, 3) A.se (.list (A.S.map fun p => .ref p.1))
  len : A.D.length = H.desks.length
  lenS : A.S.length = H.owners.length
  desk : ∀ i D s, A.D[i]? = some D → H.desks[i]? = some s → ∃ dn, RefAt (b, 4 + 2 * i) o σ D s dn [] ∧ SI s dn
  sent : ∀ l p, A.S[l]? = some p → ∃ ow tx ms fm, H.owners[l]? = some ow ∧ H.wrote[l]? = some tx ∧ H.told[l]? = some ms ∧ H.finals[l]? = some fm ∧ SentAt (b, 5 + 2 * l) o σ p ow tx ms fm
theorem tk_d {a i : Nat} (h : a < 4) : a ≠ 4 + 2 * i := by omega
theorem tk_s {a i : Nat} (h : a < 4) : a ≠ 5 + 2 * i := by omega
theorem tk_ds (i j : Nat) : 4 + 2 * i ≠ 5 + 2 * j := by omega
theorem tk_dd {i j : Nat} (h : i ≠ j) : 4 + 2 * i ≠ 4 + 2 * j := by omega
theorem tk_ss {i j : Nat} (h : i ≠ j) : 5 + 2 * i ≠ 5 + 2 * j := by omega
section
variable {o o' : Own} {σ σ' : Sto} {b j : Nat} {A : RH} {H : Hs} {T : Tag → Prop} {ex : List (Str × AV)}
theorem RHAt.chg (x : RHAt o σ b A H ex) (c : Chg T o σ o' σ') (n : ∀ j, ¬ T (b, j)) : RHAt o' σ' b A H ex :=
  ⟨x.d.chg c (n _), x.ds.chg c (n _), x.ml.chg c (n _), x.se.chg c (n _), x.len, x.lenS, fun i D s h1 h2 => (x.desk i D s h1 h2).imp fun dn z => ⟨z.1.chg c (n _), z.2⟩, fun l p h => (x.sent l p h).imp fun _ z => z.imp fun _ z => z.imp fun _ z => z.imp fun _ z => ⟨z.1, z.2.1, z.2.2.1, z.2.2.2.1, z.2.2.2.2.chg c (n _)⟩⟩
/-- what stays where one part changes -/
structure But (o : Own) (σ : Sto) (b j : Nat) (A : RH) (H : Hs) (ex : List (Str × AV)) : Prop where
  d : j ≠ 0 → At o σ (b, 0) A.d (.dictS (rhC A ex))
  ds : j ≠ 1 → At o σ (b, 1) A.ds (.list (A.D.map fun D => .ref D.d))
  ml : j ≠ 2 → At o σ (b, 2) A.ml (.list (H.road.map mailAV))
  se : j ≠ 3 → At o σ (b, 3) A.se (.list (A.S.map fun p => .ref p.1))
  desk : ∀ i D s, j ≠ 4 + 2 * i → A.D[i]? = some D → H.desks[i]? = some s → ∃ dn, RefAt (b, 4 + 2 * i) o σ D s dn [] ∧ SI s dn
  sent : ∀ l p, j ≠ 5 + 2 * l → A.S[l]? = some p → ∃ ow tx ms fm, H.owners[l]? = some ow ∧ H.wrote[l]? = some tx ∧ H.told[l]? = some ms ∧ H.finals[l]? = some fm ∧ SentAt (b, 5 + 2 * l) o σ p ow tx ms fm
theorem RHAt.but (x : RHAt o σ b A H ex) (c : Chg (· = (b, j)) o σ o' σ') : But o' σ' b j A H ex :=
  have n : ∀ {i}, j ≠ i → ¬ ((b, i) = (b, j)) := fun h z => h (congrArg Prod.snd z).symm
  ⟨fun h => x.d.chg c (n h), fun h => x.ds.chg c (n h), fun h => x.ml.chg c (n h), fun h => x.se.chg c (n h), fun i D s h h1 h2 => (x.desk i D s h1 h2).imp fun dn z => ⟨z.1.chg c (n h), z.2⟩, fun l p h h1 => (x.sent l p h1).imp fun _ z => z.imp fun _ z => z.imp fun _ z => z.imp fun _ z => ⟨z.1, z.2.1, z.2.2.1, z.2.2.2.1, z.2.2.2.2.chg c (n h)⟩⟩
theorem RHAt.mails (x : RHAt o σ b A H ex) (r : List Mail) : RHAt o (upd σ A.ml (.list (r.map mailAV))) b A { H with road := r } ex ∧ Chg (·.1 = b) o σ o (upd σ A.ml (.list (r.map mailAV))) := by
  have c : Chg (· = (b, 2)) o σ o (upd σ A.ml (.list (r.map mailAV))) := .put x.ml rfl
  have k := x.but c
  exact ⟨⟨k.d (by decide), k.ds (by decide), x.ml.put, k.se (by decide), x.len, x.lenS, fun i D s => k.desk i D s (tk_d (by decide)), fun l p => k.sent l p (tk_s (by decide))⟩, fam c⟩
theorem RHAt.setEx (x : RHAt o σ b A H ex) (ex' : List (Str × AV)) : RHAt o (upd σ A.d (.dictS (rhC A ex'))) b A H ex' ∧ Chg (·.1 = b) o σ o (upd σ A.d (.dictS (rhC A ex'))) := by
  have c : Chg (· = (b, 0)) o σ o (upd σ A.d (.dictS (rhC A ex'))) := .put x.d rfl
  have k := x.but c
  exact ⟨⟨x.d.put, k.ds (by decide), k.ml (by decide), k.se (by decide), x.len, x.lenS, fun i D s => k.desk i D s (tk_d (by decide)), fun l p => k.sent l p (tk_s (by decide))⟩, fam c⟩
theorem map_set_d {Ds : List RA} {i : Nat} {D D' : RA} (h : Ds[i]? = some D) (e : D'.d = D.d) : (Ds.set i D').map (fun D => AV.ref D.d) = Ds.map fun D => .ref D.d := by
  rw [List.map_set]
  refine List.ext_getElem? fun j => ?_
  rw [List.getElem?_set]
  split
  · next z => subst z; rw [if_pos (by rw [List.length_map]; exact (List.getElem?_eq_some_iff.mp h).1), List.getElem?_map, h]; exact congrArg (fun x => some (AV.ref x)) e
  · rfl
/-- a desk has turned -/
theorem RHAt.setDesk {i : Nat} {D D' : RA} {s' : Dk} {dn : List Int} (x : RHAt o σ b A H ex) (c : Chg (· = (b, 4 + 2 * i)) o σ o' σ') (hD : A.D[i]? = some D) (e : D'.d = D.d) (R : RefAt (b, 4 + 2 * i) o' σ' D' s' dn []) (Y : SI s' dn) :
    RHAt o' σ' b { A with D := A.D.set i D' } { H with desks := H.desks.set i s' } ex := by
  have k := x.but c
  refine ⟨k.d (Ne.symm (tk_d (by decide))), ?_, k.ml (Ne.symm (tk_d (by decide))), k.se (Ne.symm (tk_d (by decide))), ?_, x.lenS, fun j D₁ s₁ h1 h2 => ?_, fun l p => k.sent l p (tk_ds _ _)⟩
  · show At o' σ' (b, 1) A.ds (.list ((A.D.set i D').map fun D => .ref D.d))
    rw [map_set_d hD e]; exact k.ds (Ne.symm (tk_d (by decide)))
  · show (A.D.set i D').length = (H.desks.set i s').length
    rw [List.length_set, List.length_set]; exact x.len
  · rcases set_get h1 with ⟨rfl, rfl, _⟩ | ⟨q, h1⟩
    · rcases set_get h2 with ⟨_, rfl, _⟩ | ⟨q, _⟩
      · exact ⟨dn, R, Y⟩
      · exact absurd rfl q
    · rcases set_get h2 with ⟨z, _⟩ | ⟨_, h2⟩
      · exact absurd z q
      · exact k.desk j D₁ s₁ (tk_dd (Ne.symm q)) h1 h2
/-- a letter has turned -/
theorem RHAt.setSent {l : Nat} {p : Addr × Addr} {ow : Int} {tx : Str} {ms : List Mark} {fm : Option Mark} (x : RHAt o σ b A H ex) (c : Chg (· = (b, 5 + 2 * l)) o σ o' σ') (hp : A.S[l]? = some p) (ho : H.owners[l]? = some ow) (ht : H.wrote[l]? = some tx) (hm : l < H.told.length) (hf : l < H.finals.length) (R : SentAt (b, 5 + 2 * l) o' σ' p ow tx ms fm) :
    RHAt o' σ' b A { H with told := H.told.set l ms, finals := H.finals.set l fm } ex := by
  have k := x.but c
  refine ⟨k.d (Ne.symm (tk_s (by decide))), k.ds (Ne.symm (tk_s (by decide))), k.ml (Ne.symm (tk_s (by decide))), k.se (Ne.symm (tk_s (by decide))), x.len, x.lenS, fun i D s => k.desk i D s (Ne.symm (tk_ds _ _)), fun j q hq => ?_⟩
  by_cases e : l = j
  · subst e
    rw [hp] at hq; cases hq
    exact ⟨ow, tx, ms, fm, ho, ht, List.getElem?_set_self hm, List.getElem?_set_self hf, R⟩
  · obtain ⟨a1, a2, a3, a4, h1, h2, h3, h4, h5⟩ := k.sent j q (tk_ss e) hq
    exact ⟨a1, a2, a3, a4, h1, h2, by rw [← h3]; exact List.getElem?_set_ne e, by rw [← h4]; exact List.getElem?_set_ne e, h5⟩
theorem get_app {α : Type} {l : List α} {i : Nat} {a b : α} (h : l[i]? = some a) : (l ++ [b])[i]? = some a := by rw [List.getElem?_append_left (List.getElem?_eq_some_iff.mp h).1]; exact h
theorem get_end {α : Type} (l : List α) (a : α) {n : Nat} (h : l.length = n) : (l ++ [a])[n]? = some a := by rw [← h]; exact get_mid l [] a
/-- one more letter -/
theorem RHAt.addSent {p : Addr × Addr} {ow : Int} {tx : Str} {ms : List Mark} (x : RHAt o σ b A H ex) (hT : H.told.length = H.owners.length) (hF : H.finals.length = H.owners.length) (hW : H.wrote.length = H.owners.length) (R : SentAt (b, 5 + 2 * H.owners.length) o σ p ow tx ms none) :
    RHAt o (upd σ A.se (.list ((A.S ++ [p]).map fun p => .ref p.1))) b { A with S := A.S ++ [p] } { H with owners := H.owners ++ [ow], wrote := H.wrote ++ [tx], told := H.told ++ [ms], finals := H.finals ++ [none] } ex ∧ Chg (·.1 = b) o σ o (upd σ A.se (.list ((A.S ++ [p]).map fun p => .ref p.1))) := by
  have c : Chg (· = (b, 3)) o σ o (upd σ A.se (.list ((A.S ++ [p]).map fun p => .ref p.1))) := .put x.se rfl
  have k := x.but c
  refine ⟨⟨k.d (by decide), k.ds (by decide), k.ml (by decide), x.se.put, x.len, ?_, fun i D s => k.desk i D s (tk_d (by decide)), fun l q hq => ?_⟩, fam c⟩
  · show (A.S ++ [p]).length = (H.owners ++ [ow]).length
    rw [List.length_append, List.length_append, x.lenS]; rfl
  · rcases app_get hq with ⟨_, h⟩ | ⟨rfl, rfl⟩
    · obtain ⟨a1, a2, a3, a4, h1, h2, h3, h4, h5⟩ := k.sent l q (tk_s (by decide)) h
      exact ⟨a1, a2, a3, a4, get_app h1, get_app h2, get_app h3, get_app h4, h5⟩
    · rw [x.lenS]
      exact ⟨ow, tx, ms, none, get_end _ _ rfl, get_end _ _ hW, get_end _ _ hT, get_end _ _ hF, R.chg c fun z => absurd (congrArg Prod.snd z) (Ne.symm (tk_s (a := 3) (by decide)))⟩
end
end Mine
set_option maxRecDepth 100000
set_option linter.unusedSimpArgs false
set_option linter.unusedVariables false
namespace Mine
open PySem PyProof.Rows

noncomputable def c_law_to_others : List Sm := [.asg "_law_writer" (.sub (.sub (.sub (.nm "_law_h") (.cst (.str "sent"))) (.nm "_law_letter_here")) (.cst (.int (0)))), .for_ "_law_hand_here" (.bi "range" [(.bi "len" [(.sub (.nm "_law_h") (.cst (.str "desks")))])]) [.ite (.cmp .NotEq (.nm "_law_hand_here") (.nm "_law_writer")) [.expr (.meth (.sub (.nm "_law_h") (.cst (.str "mails"))) "append" [(.tup [(.nm "_law_word"), (.nm "_law_letter_here"), (.nm "_law_writer"), (.nm "_law_hand_here"), (.nm "_law_mark_here")])])] []]]
noncomputable def c_law_look : List Sm := [.asg "_law_one" (.sub (.sub (.nm "_law_h") (.cst (.str "sent"))) (.nm "_law_letter_here")), .ite (.cmp .Eq (.bi "len" [(.sub (.nm "_law_one") (.cst (.int (2))))]) (.bi "len" [(.sub (.nm "_law_h") (.cst (.str "desks")))])) [.sitem (.nm "_law_one") (.cst (.int (3))) (.bi "max" [(.sub (.nm "_law_one") (.cst (.int (2))))]), .expr (.call "_law_settled" [(.sub (.sub (.nm "_law_h") (.cst (.str "desks"))) (.sub (.nm "_law_one") (.cst (.int (0))))), (.nm "_law_letter_here"), (.sub (.nm "_law_one") (.cst (.int (3))))]), .expr (.call "_law_to_others" [(.nm "_law_h"), (.cst (.str "mark")), (.nm "_law_letter_here"), (.sub (.nm "_law_one") (.cst (.int (3))))])] []]
section
variable {G : PG} {n : Nat} {ρ : Loc} {σ : Sto} {Φ : PS} {Ψ : PX} {m y : Str} {ps : List Str} {code r : List Sm} {f : Addr} {as : List Ex} {us : List AV} {o : Own}
theorem g_exprC (F : Fn1 G m ps code f) (hs : Es G n ρ σ as us) (p : WC G n (.ref f) us σ (fun _ σ₁ => tss G n r ρ σ₁ Φ Ψ) (fun c σ₁ => Ψ c ρ σ₁)) : tss G n (.expr (.call m as) :: r) ρ σ Φ Ψ := tv_call F (hs _ _ p)
theorem g_asgC (F : Fn1 G m ps code f) (hs : Es G n ρ σ as us) (p : WC G n (.ref f) us σ (fun v σ₁ => tss G n r (putA y v ρ) σ₁ Φ Ψ) (fun c σ₁ => Ψ c ρ σ₁)) : tss G n (.asg y (.call m as) :: r) ρ σ Φ Ψ := tv_call F (hs _ _ p)
theorem g_retC (F : Fn1 G m ps code f) (hs : Es G n ρ σ as us) (p : WC G n (.ref f) us σ (fun v σ₁ => Φ (.ret v) ρ σ₁) (fun c σ₁ => Ψ c ρ σ₁)) : tss G n (.ret (some (.call m as)) :: r) ρ σ Φ Ψ := tv_call F (hs _ _ p)
end
theorem set_same {α : Type} : ∀ {l : List α} {i : Nat} {a : α}, l[i]? = some a → l.set i a = l
  | [], _, _, h => by cases h
  | b :: l, 0, a, h => by cases h; rfl
  | b :: l, i + 1, a, h => by rw [List.set_cons_succ, set_same (show l[i]? = some a from h)]
theorem big_cons (p : Mark) (ps : List Mark) : big (p :: ps) = ps.foldl step1 p := by
  show (p :: ps).foldl step1 p = _
  rw [List.foldl_cons, step1, if_neg (by rw [ltM_irr]; decide)]
section
variable {G : PG} {n : Nat} {ρ : Loc} {σ : Sto} {Φ : PE} {Ψ : PY} {f : Addr} {o : Own} {b l : Nat} {A : RH} {H : Hs} {ex : List (Str × AV)} {e : Ex} {p : Addr × Addr} {ow : Int} {tx : Str} {ms : List Mark} {fm : Option Mark} {t : Tag}
theorem RHAt.key {k : Str} {v : AV} (X : RHAt o σ b A H ex) (l1 : ρ.lookup (Str.ofString "_law_h") = some (.ref A.d)) (h : (rhC A ex).lookup k = some v) : Ev G n ρ σ (.sub (.nm "_law_h") (.cst (.str k))) v := ev_sub (ev_nm l1) ev_cst (d_keyS X.d.at_ h)
theorem ev_rsent (X : RHAt o σ b A H ex) (hz : H.owners.length < 10000) (hp : A.S[l]? = some p) (l1 : ρ.lookup (Str.ofString "_law_h") = some (.ref A.d)) (he : Ev G n ρ σ e (.int l)) : Ev G n ρ σ (.sub (.sub (.nm "_law_h") (.cst (.str "sent"))) e) (.ref p.1) :=
  ev_sub (X.key l1 rfl) he (d_get X.se.lst (by rw [List.length_map, X.lenS]; exact Nat.lt_trans hz (by decide)) (by rw [List.getElem?_map, hp]; rfl))
theorem ev_rdesk {i : Int} {D : RA} (X : RHAt o σ b A H ex) (hz : H.desks.length < 10000) (h0 : 0 ≤ i) (hD : A.D[i.toNat]? = some D) (l1 : ρ.lookup (Str.ofString "_law_h") = some (.ref A.d)) (he : Ev G n ρ σ e (.int i)) : Ev G n ρ σ (.sub (.sub (.nm "_law_h") (.cst (.str "desks"))) e) (.ref D.d) :=
  ev_sub (X.key l1 rfl) he (d_at X.ds.lst (by rw [List.length_map, X.len]; exact Nat.lt_trans hz (by decide)) h0 (by rw [List.getElem?_map, hD]; rfl))
theorem ev_rhands (X : RHAt o σ b A H ex) (hz : H.desks.length < 10000) (l1 : ρ.lookup (Str.ofString "_law_h") = some (.ref A.d)) : Ev G n ρ σ (.bi "len" [(.sub (.nm "_law_h") (.cst (.str "desks")))]) (.int H.desks.length) := by
  rw [← X.len]
  exact ev_bi (es_cons (X.key l1 rfl) es_nil) (d_lenM X.ds.lst (by rw [X.len]; exact Nat.lt_trans hz (by decide)))
theorem SentAt.p0 (S : SentAt t o σ p ow tx ms fm) (he : Ev G n ρ σ e (.ref p.1)) : Ev G n ρ σ (.sub e (.cst (.int 0))) (.int ow) := ev_sub he ev_cst (d_lst S.a.lst (by decide) (by decide) (idx0 _ _))
theorem SentAt.p1 (S : SentAt t o σ p ow tx ms fm) (he : Ev G n ρ σ e (.ref p.1)) : Ev G n ρ σ (.sub e (.cst (.int 1))) (.str tx) := ev_sub he ev_cst (d_lst S.a.lst (by decide) (by decide) (idx1 _ _ _))
theorem SentAt.p2 (S : SentAt t o σ p ow tx ms fm) (he : Ev G n ρ σ e (.ref p.1)) : Ev G n ρ σ (.sub e (.cst (.int 2))) (.ref p.2) := ev_sub he ev_cst (d_lst S.a.lst (by decide) (by decide) (idx2 _ _ _ _))
theorem SentAt.p3 (S : SentAt t o σ p ow tx ms fm) (he : Ev G n ρ σ e (.ref p.1)) : Ev G n ρ σ (.sub e (.cst (.int 3))) (finAV fm) := ev_sub he ev_cst (d_lst S.a.lst (by decide) (by decide) (idx3 _ _ _ _ _))
/-- a letter that was sent, where its owner is known -/
theorem RHAt.get (X : RHAt o σ b A H ex) (h : H.owners[l]? = some ow) : ∃ p tx ms fm, A.S[l]? = some p ∧ H.wrote[l]? = some tx ∧ H.told[l]? = some ms ∧ H.finals[l]? = some fm ∧ SentAt (b, 5 + 2 * l) o σ p ow tx ms fm := by
  have hl : l < A.S.length := by rw [X.lenS]; exact (List.getElem?_eq_some_iff.mp h).1
  have hp : A.S[l]? = some A.S[l] := List.getElem?_eq_getElem hl
  obtain ⟨ow', tx, ms, fm, h1, h2, h3, h4, h5⟩ := X.sent l _ hp
  rw [h] at h1; cases h1
  exact ⟨_, tx, ms, fm, hp, h2, h3, h4, h5⟩
theorem rto_ok {w : Str} {m : Option Mark} (hn : 10 ≤ n) (F : Fn1 G "_law_to_others" ["_law_h", "_law_word", "_law_letter_here", "_law_mark_here"] c_law_to_others f) (X : RHAt o σ b A H ex) (hw : H.owners[l]? = some ow) (z1 : H.desks.length < 1000) (z2 : H.owners.length < 10000) (z3 : H.road.length < 100000)
    (k : ∀ σ', Chg (·.1 = b) o σ o σ' → RHAt o σ' b A { H with road := H.road ++ others H.desks.length ow w l m } ex → Φ .none σ') : WC G (n + 1) (.ref f) [.ref A.d, .str w, .int l, finAV m] σ Φ Ψ := by
  refine F.bd rfl fun ρ K _ L hr hn' _ => ?_
  have l1 := L "_law_h" _ rfl
  obtain ⟨p, tx, ms, fm, hp, _, _, _, S⟩ := X.get hw
  refine g_asg (S.p0 (ev_rsent X z2 hp l1 (ev_nm (L "_law_letter_here" _ rfl)))) ?_
  refine g_forN hn (ev_rhands X (Nat.lt_trans z1 (by decide)) (lk_ne (by decide) l1)) (Nat.lt_trans z1 (by decide)) (fun i ρ₂ σ₂ => Chg (·.1 = b) o σ o σ₂ ∧ RHAt o σ₂ b A { H with road := H.road ++ others i ow w l m } ex ∧ (ρ₂.lookup (Str.ofString "_law_h") = some (.ref A.d) ∧ ρ₂.lookup (Str.ofString "_law_word") = some (.str w) ∧ ρ₂.lookup (Str.ofString "_law_letter_here") = some (.int l) ∧ ρ₂.lookup (Str.ofString "_law_writer") = some (.int ow) ∧ ρ₂.lookup (Str.ofString "_law_mark_here") = some (finAV m)))
    ⟨.refl, ?_, lk_ne (by decide) l1, lk_ne (by decide) (L "_law_word" _ rfl), lk_ne (by decide) (L "_law_letter_here" _ rfl), lk_eq, lk_ne (by decide) (L "_law_mark_here" _ rfl)⟩ (fun i K₂ ρ₂ σ₂ hi hI k1 _ => ?_) fun ρ₂ σ₂ hI => g_nil (hn' _ _ (k σ₂ hI.1 hI.2.1))
  · show RHAt o σ b A { H with road := H.road ++ [] } ex
    rw [List.append_nil]; exact X
  have X₂ := hI.2.1
  have ll := hI.2.2
  have go : ∀ σ₃, Chg (·.1 = b) o σ o σ₃ → RHAt o σ₃ b A { H with road := H.road ++ others (i + 1) ow w l m } ex → K₂ .next (putA "_law_hand_here" (.int i) ρ₂) σ₃ := fun σ₃ c₃ X₃ => k1 _ _ ⟨c₃, X₃, lk_ne (by decide) ll.1, lk_ne (by decide) ll.2.1, lk_ne (by decide) ll.2.2.1, lk_ne (by decide) ll.2.2.2.1, lk_ne (by decide) ll.2.2.2.2⟩
  by_cases q : (i : Int) = ow
  · refine g_if0 (et_cmp (ev_nm lk_eq) (ev_nm (lk_ne (by decide) ll.2.2.2.1)) (d_neF q)) (go σ₂ hI.1 ?_)
    rw [others_succ, if_pos q, List.append_nil]; exact X₂
  · have e : mailAV (w, l, ow, (i : Int), m) = .tup [.str w, .int l, .int ow, .int i, finAV m] := by cases m <;> rfl
    refine g_iteT (et_cmp (ev_nm lk_eq) (ev_nm (lk_ne (by decide) ll.2.2.2.1)) (d_neT q)) (g_app (X₂.key (lk_ne (by decide) ll.1) rfl) X₂.ml.at_ (ev_tup (es_cons (ev_nm (lk_ne (by decide) ll.2.1)) (es_cons (ev_nm (lk_ne (by decide) ll.2.2.1)) (es_cons (ev_nm (lk_ne (by decide) ll.2.2.2.1)) (es_cons (ev_nm lk_eq) (es_cons (ev_nm (lk_ne (by decide) ll.2.2.2.2)) es_nil))))) (Nat.le_of_ble_eq_true rfl)) ?_ ?_)
    · have hol := others_len i ow w l m
      rw [List.length_map, List.length_append]; unfold sizeLine; omega
    · obtain ⟨X₃, c3⟩ := X₂.mails ((H.road ++ others i ow w l m) ++ [(w, (l : Int), ow, (i : Int), m)])
      rw [List.map_append (l₂ := [_]), List.map_singleton, e] at X₃ c3
      refine go _ (hI.1.trans c3) ?_
      rw [others_succ, if_neg q, ← List.append_assoc]; exact X₃
/-- the functions of the law's own house -/
structure RF (G : PG) : Prop where
  first : ∃ f, Fn1 G "_law_first" ["_law_d"] c_law_first f
  prop : ∃ f, Fn1 G "_law_proposed" ["_law_d", "_law_letter_here"] c_law_proposed f
  sett : ∃ f, Fn1 G "_law_settled" ["_law_d", "_law_letter_here", "_law_mark_here"] c_law_settled f
  toO : ∃ f, Fn1 G "_law_to_others" ["_law_h", "_law_word", "_law_letter_here", "_law_mark_here"] c_law_to_others f
  look : ∃ f, Fn1 G "_law_look" ["_law_h", "_law_letter_here"] c_law_look f
/-- a desk of the law's house settles -/
theorem rsettle_ok {i : Nat} {l : Int} {m : Mark} {D : RA} {s : Dk} {N : Nat} (hn : 10 ≤ n) (Z : RF G) (F : Fn1 G "_law_settled" ["_law_d", "_law_letter_here", "_law_mark_here"] c_law_settled f) (X : RHAt o σ b A H ex) (DI : D8 N i s) (hN : N ≤ 400) (hD : A.D[i]? = some D) (hs : H.desks[i]? = some s) (hc : CanSettle s l m)
    (k : ∀ v A' s' o' σ', Settles s l m s' → A'.d = A.d → Chg (· = (b, 4 + 2 * i)) o σ o' σ' → RHAt o' σ' b A' { H with desks := H.desks.set i s' } ex → A'.S = A.S → Φ v σ') : WC G (n + 1) (.ref f) [.ref D.d, .int l, mk m] σ Φ Ψ := by
  obtain ⟨ff, F1⟩ := Z.first
  obtain ⟨dn, R, Y⟩ := X.desk i D s hD hs
  have I := Y.inv DI
  obtain ⟨j, m0, h1, h2, h3⟩ := Y.can DI hc
  exact settled_ok hn F F1 (b, 0) R I (by first | decide | (with_reducible first | exact lv hn | exact lv1 hn | exact lv2 hn | exact Int.natCast_nonneg _) | omega) (Nat.zero_lt_succ _) (fun z => absurd (congrArg Prod.snd z) (tk_d (a := 0) (by decide))) h2 (Y.shut h2) fun fs rows' a r' o' σ' hd c R' _ _ => k _ { A with D := A.D.set i (D.setR r') } _ o' σ' ⟨j, m0, fs, rows', h1, h2, h3, hd, rfl⟩ rfl c (X.setDesk c hD rfl R' (Y.settle DI h1 h2 h3 hd)) rfl
theorem look_ok {s : Dk} {XX : Nat → Prop} {N : Nat} {qs : List Ml} (hn : 11 ≤ n) (Z : RF G) (F : Fn1 G "_law_look" ["_law_h", "_law_letter_here"] c_law_look f) (X : RHAt o σ b A H ex) (I : HInv N H XX qs) (B : Small H) (hN : H.owners.length ≤ 400) (C : CanClose H l ow ms s)
    (k : ∀ A' H' o' σ', Closes H l H' → A'.d = A.d → Chg (·.1 = b) o σ o' σ' → RHAt o' σ' b A' H' ex → Φ .none σ') : WC G (n + 1) (.ref f) [.ref A.d, .int l] σ Φ Ψ := by
  obtain ⟨n, rfl⟩ : ∃ j, n = j + 1 := by first | with_reducible exact Nat.exists_eq_add_of_le' (Nat.le_trans (by decide) hn) | exact ⟨n - 1, (by first | decide | (with_reducible first | exact lv hn | exact lv1 hn | exact lv2 hn | exact Int.natCast_nonneg _ | assumption) | omega)⟩
  refine F.bd rfl fun ρ K X' L hr hn' hx => ?_
  have l1 := L "_law_h" _ rfl
  have l2 := L "_law_letter_here" _ rfl
  clear L
  obtain ⟨p, tx, ms', fm, hp, hw, hms, hf, S⟩ := X.get C.own
  rw [C.told] at hms; cases hms
  have z1 := Nat.lt_trans B.desks (show 1000 < 10000 by decide)
  have z2 := Nat.lt_trans B.owners (show 9000 < 10000 by decide)
  refine g_asg (ev_rsent X z2 hp l1 (ev_nm l2)) ?_
  have g1 := lk_ne (x := Str.ofString "_law_one") (a := .ref p.1) (by decide) l1
  have g2 := lk_ne (x := Str.ofString "_law_one") (a := .ref p.1) (by decide) l2
  have g3 := lk_eq (x := Str.ofString "_law_one") (a := .ref p.1) (ρ := ρ)
  generalize putA (Str.ofString "_law_one") (.ref p.1) ρ = ρ₁ at g1 g2 g3
  have bm := B.tolds ms (List.mem_of_getElem? C.told)
  have hb : ms.length < 1000000 := Nat.lt_of_le_of_lt bm (Nat.lt_trans z1 (by decide))
  have ct : ∀ {q}, ((ms.length : Int) == (H.desks.length : Int)) = q → Et G (n + 1) ρ₁ σ (.cmp .Eq (.bi "len" [(.sub (.nm "_law_one") (.cst (.int (2))))]) (.bi "len" [(.sub (.nm "_law_h") (.cst (.str "desks")))])) q := fun e => e ▸ et_cmp (ev_bi (es_cons (S.p2 (ev_nm g3)) es_nil) (d_lenM S.b.lst hb)) (ev_rhands X z1 g1) d_eqi
  by_cases q : ms.length = H.desks.length
  · refine g_iteT (ct (beq_iff_eq.mpr (congrArg Nat.cast q))) ?_
    have hmax : Ev G (n + 1) ρ₁ σ (.bi "max" [(.sub (.nm "_law_one") (.cst (.int (2))))]) (mk (big ms)) := by
      cases hm : ms with
      | nil => exact absurd hm C.ne
      | cons p0 ps =>
        rw [big_cons]
        exact ev_bi (es_cons (S.p2 (ev_nm g3)) es_nil) fun P z => bi_maxT (lv hn) (by rw [← hm]; exact S.b.lst) z
    refine g_sitem hmax (ev_nm g3) ev_cst (si_nat (i := 3) S.a.at_ (show 3 < 4 by decide) (show 4 < 1000000 by decide) ?_)
    have c1 : Chg (· = (b, 5 + 2 * l)) o σ o (upd σ p.1 (.list ([.int ow, .str tx, .ref p.2, finAV fm].set 3 (mk (big ms))))) := .put S.a rfl
    have S₁ : SentAt (b, 5 + 2 * l) o (upd σ p.1 (.list ([.int ow, .str tx, .ref p.2, finAV fm].set 3 (mk (big ms))))) p ow tx ms (some (big ms)) := ⟨S.a.put, S.b.upd (Ne.symm S.ne), S.ne⟩
    generalize upd σ p.1 (.list ([.int ow, .str tx, .ref p.2, finAV fm].set 3 (mk (big ms)))) = σ₁ at c1 S₁
    have X₁ := X.setSent c1 hp C.own hw (List.getElem?_eq_some_iff.mp C.told).1 C.fin S₁
    rw [set_same C.told] at X₁
    have hdl := (List.getElem?_eq_some_iff.mp C.desk).1
    have hD : A.D[ow.toNat]? = some (A.D[ow.toNat]'(by rw [X.len]; exact hdl)) := List.getElem?_eq_getElem _
    obtain ⟨fs, Fs⟩ := Z.sett
    obtain ⟨fo, Fo⟩ := Z.toO
    have hfull : ¬ ms.length < H.desks.length := fun z => Nat.lt_irrefl _ (q ▸ z)
    refine g_exprC Fs (es_cons (ev_rdesk X₁ z1 C.ow0 hD g1 (S₁.p0 (ev_nm g3))) (es_cons (ev_nm g2) (es_cons (S₁.p3 (ev_nm g3)) es_nil))) (rsettle_ok (lv1 hn) Z Fs X₁ (I.desk ow.toNat s C.desk) hN hD C.desk (C.can hfull) fun v A₂ s' o₂ σ₂ hS hA c2 X₂ hAS => ?_)
    have S₂ := S₁.chg c2 fun z => absurd (congrArg Prod.snd z) (Ne.symm (tk_ds _ _))
    rw [← hA] at g1
    refine g_exprC Fo (es_cons (ev_nm g1) (es_cons ev_cst (es_cons (ev_nm g2) (es_cons (S₂.p3 (ev_nm g3)) es_nil)))) (rto_ok (n := n) (m := some (big ms)) (lv1 hn) Fo X₂ C.own (by rw [List.length_set]; exact B.desks) z2 (Nat.lt_trans B.road (by decide)) fun σ₃ c3 X₃ => ?_)
    exact g_nil (hn' _ _ (k A₂ _ o₂ σ₃ ⟨ms, C.told, .inr ⟨hfull, ow, s, s', C.own, C.desk, hS, rfl⟩⟩ hA ((fam c1).trans ((fam c2).trans c3)) X₃))
  · exact g_if0 (ct (beq_eq_false_iff_ne.mpr fun z => q (Int.ofNat.inj z))) (g_nil (hn' _ _ (k A H o σ ⟨ms, C.told, .inl ⟨Nat.lt_of_le_of_ne bm q, rfl⟩⟩ rfl .refl X)))
end
end Mine
set_option maxRecDepth 100000
set_option linter.unusedSimpArgs false
set_option linter.unusedVariables false
namespace Mine
open PySem PyProof.Rows

noncomputable def c_law_sent : List Sm := [.asg "_law_letter_here" (.bi "len" [(.sub (.nm "_law_h") (.cst (.str "sent")))]), .expr (.meth (.sub (.nm "_law_h") (.cst (.str "sent"))) "append" [(.list [(.nm "_law_hand_here"), (.nm "_law_text"), (.list [(.call "_law_proposed" [(.sub (.sub (.nm "_law_h") (.cst (.str "desks"))) (.nm "_law_hand_here")), (.nm "_law_letter_here")])]), (.cst .none)])]), .expr (.call "_law_to_others" [(.nm "_law_h"), (.cst (.str "letter")), (.nm "_law_letter_here"), (.cst .none)]), .expr (.call "_law_look" [(.nm "_law_h"), (.nm "_law_letter_here")]), .ret (some (.nm "_law_letter_here"))]
noncomputable def c_law_brought : List Sm := [.asg "_law_mail_here" (.meth (.sub (.nm "_law_h") (.cst (.str "mails"))) "pop" [(.nm "_law_place")]), .ite (.cmp .Eq (.sub (.nm "_law_mail_here") (.cst (.int (0)))) (.cst (.str "letter"))) [.asg "_law_mark_here" (.call "_law_proposed" [(.sub (.sub (.nm "_law_h") (.cst (.str "desks"))) (.sub (.nm "_law_mail_here") (.cst (.int (3))))), (.sub (.nm "_law_mail_here") (.cst (.int (1))))]), .expr (.meth (.sub (.nm "_law_h") (.cst (.str "mails"))) "append" [(.tup [(.cst (.str "number")), (.sub (.nm "_law_mail_here") (.cst (.int (1)))), (.sub (.nm "_law_mail_here") (.cst (.int (3)))), (.sub (.nm "_law_mail_here") (.cst (.int (2)))), (.nm "_law_mark_here")])])] [.ite (.cmp .Eq (.sub (.nm "_law_mail_here") (.cst (.int (0)))) (.cst (.str "number"))) [.expr (.meth (.sub (.sub (.sub (.nm "_law_h") (.cst (.str "sent"))) (.sub (.nm "_law_mail_here") (.cst (.int (1))))) (.cst (.int (2)))) "append" [(.sub (.nm "_law_mail_here") (.cst (.int (4))))]), .expr (.call "_law_look" [(.nm "_law_h"), (.sub (.nm "_law_mail_here") (.cst (.int (1))))])] [.expr (.call "_law_settled" [(.sub (.sub (.nm "_law_h") (.cst (.str "desks"))) (.sub (.nm "_law_mail_here") (.cst (.int (3))))), (.sub (.nm "_law_mail_here") (.cst (.int (1)))), (.sub (.nm "_law_mail_here") (.cst (.int (4))))])]], .ret (some (.nm "_law_mail_here"))]
section
variable {G : PG} {n : Nat} {ρ : Loc} {σ : Sto} {Φ : PE} {Ψ : PY} {o : Own} {x : Addr} {a b c d e : Ex} {r : List Sm}
theorem new_ownN {vs : List AV} (t : Tag) (hz : vs.length ≤ sizeLine) (h : ∀ a o' σ', σ a = none → Chg (fun _ => False) o σ o' σ' → At o' σ' t a (.list vs) → Φ (.ref a) σ') : newList σ vs Φ := new_lst hz fun a ha _ => h a _ _ ha (.new (t := t) ha) .new
theorem x_list1 (p : (tr G n a).v ρ σ (fun u σ₁ => newList σ₁ [u] Φ) Ψ) : (tr G n (.list [a])).v ρ σ Φ Ψ := p
theorem x_list4 (p : (tr G n a).v ρ σ (fun u σ₁ => (tr G n b).v ρ σ₁ (fun v σ₂ => (tr G n c).v ρ σ₂ (fun w σ₃ => (tr G n d).v ρ σ₃ (fun z σ₄ => newList σ₄ [u, v, w, z] Φ) Ψ) Ψ) Ψ) Ψ) : (tr G n (.list [a, b, c, d])).v ρ σ Φ Ψ := p
/-- a thing is put at a list's end, where it has to be made -/
theorem g_appX {vs : List AV} {Φ : PS} {Ψ : PX} (ha : Ev G n ρ σ a (.ref x)) (hx : σ x = some (.list vs)) (he : ∀ P : PE, (∀ v σ₁ us, σ₁ x = some (.list us) → us.length < 10000 → tss G n r ρ (upd σ₁ x (.list (us ++ [v]))) Φ Ψ → P v σ₁) → (tr G n e).v ρ σ P (fun c σ₁ => Ψ c ρ σ₁)) : tss G n (.expr (.meth a "append" [e]) :: r) ρ σ Φ Ψ := by
  rw [bl_expr, tv_meth]
  refine ha _ _ (app_lst hx ?_)
  rw [sq_cons]
  refine he _ fun v σ₁ us h1 h2 h3 => ?_
  rw [sq_nil, h1]
  exact lm_app (big_line h2) h3
end
section
variable {G : PG} {n : Nat} {ρ : Loc} {σ : Sto} {Φ : PE} {Ψ : PY} {f : Addr} {o : Own} {b l : Nat} {A : RH} {H : Hs} {ex : List (Str × AV)} {ow : Int} {ms : List Mark}
theorem sent_ok {i : Nat} {s : Dk} {text : Str} (hn : 12 ≤ n) (Z : RF G) (F : Fn1 G "_law_sent" ["_law_h", "_law_hand_here", "_law_text"] c_law_sent f) {N : Nat} {qs : List Ml} (X : RHAt o σ b A H ex) (I : HInv N H (fun _ => False) qs) (hN : H.owners.length < 400) (hd : N ≤ 40) (hs : H.desks[i]? = some s)
    (k : ∀ A' H' o' σ', Closes (H.sent i s text) H.owners.length H' → A'.d = A.d → Chg (·.1 = b) o σ o' σ' → RHAt o' σ' b A' H' ex → Φ (.int H.owners.length) σ') : WC G (n + 1) (.ref f) [.ref A.d, .int i, .str text] σ Φ Ψ := by
  obtain ⟨n, rfl⟩ : ∃ j, n = j + 1 := by first | with_reducible exact Nat.exists_eq_add_of_le' (Nat.le_trans (by decide) hn) | exact ⟨n - 1, (by first | decide | (with_reducible first | exact lv hn | exact lv1 hn | exact lv2 hn | exact Int.natCast_nonneg _ | assumption) | omega)⟩
  have B := I.small hd (by first | decide | (with_reducible first | exact lv hn | exact lv1 hn | exact lv2 hn | exact Int.natCast_nonneg _) | omega)
  obtain ⟨hk, ⟨_, I'⟩, ⟨ow, ms, s₁, C⟩, _⟩ := I.send (text := text) hs
  have ho : (H.sent i s text).owners = H.owners ++ [(i : Int)] := rfl
  have B' : Small (H.sent i s text) := I'.small hd (by rw [ho, List.length_append]; exact Nat.le_trans hN (by decide))
  have hN' : (H.sent i s text).owners.length ≤ 400 := by rw [ho, List.length_append]; exact hN
  refine F.bd rfl fun ρ K X' L hr _ _ => ?_
  have l1 := L "_law_h" _ rfl
  have l2 := L "_law_hand_here" _ rfl
  have l3 := L "_law_text" _ rfl
  clear L
  have z1 := Nat.lt_trans B.desks (show 1000 < 10000 by decide)
  have z2 := Nat.lt_trans B.owners (show 9000 < 10000 by decide)
  refine g_asg (v := .int H.owners.length) (by rw [← X.lenS]; exact ev_bi (es_cons (X.key l1 rfl) es_nil) (d_lenM X.se.lst (by rw [X.lenS]; exact Nat.lt_trans z2 (by decide)))) ?_
  have g1 := lk_ne (x := Str.ofString "_law_letter_here") (a := .int H.owners.length) (by decide) l1
  have g2 := lk_ne (x := Str.ofString "_law_letter_here") (a := .int H.owners.length) (by decide) l2
  have g3 := lk_ne (x := Str.ofString "_law_letter_here") (a := .int H.owners.length) (by decide) l3
  have g4 := lk_eq (x := Str.ofString "_law_letter_here") (a := .int H.owners.length) (ρ := ρ)
  clear l1 l2 l3
  generalize putA (Str.ofString "_law_letter_here") (.int H.owners.length) ρ = ρ₁ at g1 g2 g3 g4
  obtain ⟨fp, Fp⟩ := Z.prop
  obtain ⟨fo, Fo⟩ := Z.toO
  obtain ⟨fl, Fl⟩ := Z.look
  have hil := (List.getElem?_eq_some_iff.mp hs).1
  have hD : A.D[i]? = some (A.D[i]'(by rw [X.len]; exact hil)) := List.getElem?_eq_getElem _
  obtain ⟨dn, R, Y⟩ := X.desk i _ s hD hs
  have DI := I.desk i s hs
  have hlA : A.S.length < 10000 := by rw [X.lenS]; exact z2
  refine g_appX (X.key g1 rfl) X.se.at_ fun P hP => x_list4 (ev_nm g2 _ _ (ev_nm g3 _ _ (x_list1 (tv_call Fp (es_cons (ev_rdesk X z1 (Int.natCast_nonneg _) (by rw [Int.toNat_natCast]; exact hD) g1 (ev_nm g2)) (es_cons (ev_nm g4) es_nil) _ _ (proposed_ok (n := n) Fp R (Y.inv DI) (by first | decide | (with_reducible first | exact lv hn | exact lv1 hn | exact lv2 hn | exact Int.natCast_nonneg _) | omega) (Nat.zero_lt_succ _) hk fun σ₁ c1 R₁ => ?_))))))
  have X₁ := X.setDesk c1 hD rfl R₁ (Y.prop DI hk)
  refine new_ownN (o := o) (b, 5 + 2 * H.owners.length) (Nat.le_of_ble_eq_true rfl) fun q o₂ σ₂ _ c2 Q₂ => ev_cst _ _ (new_ownN (o := o₂) (b, 5 + 2 * H.owners.length) (Nat.le_of_ble_eq_true rfl) fun p o₃ σ₃ hp c3 P₃ => ?_)
  have X₃ := (X₁.chg c2 fun _ => id).chg c3 fun _ => id
  refine hP _ σ₃ (A.S.map fun p => .ref p.1) X₃.se.at_ (by rw [List.length_map]; exact hlA) ?_
  obtain ⟨X₄, c4⟩ := X₃.addSent (p := (p, q)) (ow := i) (tx := text) (ms := [(s.hours + 1, s.hand)]) I.lenT I.lenF I.lenW ⟨P₃, Q₂.chg c3 id, Ne.symm (Q₂.off hp)⟩
  rw [show ((A.S ++ [(p, q)]).map fun p => AV.ref p.1) = (A.S.map fun p => .ref p.1) ++ [.ref p] by rw [List.map_append]; rfl] at X₄ c4
  have c₄ := ((fam c1).trans ((c2.trans c3).mono fun _ z => z.elim)).trans c4
  clear c1 c2 c3 c4 hP P₃ Q₂ R R₁ X₁ X₃
  obtain ⟨A₄, hA₄, X₄⟩ : ∃ A₄ : RH, A₄.d = A.d ∧ RHAt o₃ (upd σ₃ A.se (.list ((A.S.map fun p => .ref p.1) ++ [.ref p]))) b A₄ ⟨H.desks.set i (s.propose H.owners.length), H.road, H.owners ++ [(i : Int)], H.wrote ++ [text], H.told ++ [[(s.hours + 1, s.hand)]], H.finals ++ [none]⟩ ex := ⟨{ A with D := A.D.set i _, S := A.S ++ [(p, q)] }, rfl, X₄⟩
  rw [← hA₄] at g1
  refine g_exprC Fo (es_cons (ev_nm g1) (es_cons ev_cst (es_cons (ev_nm g4) (es_cons ev_cst es_nil)))) (rto_ok (n := n) (m := none) (ow := (i : Int)) (l := H.owners.length) (lv1 hn) Fo X₄ (get_end _ _ rfl) (by show (H.desks.set i (s.propose H.owners.length)).length < 1000; rw [List.length_set]; exact B.desks) (by rw [List.length_append]; exact Nat.lt_trans (Nat.add_lt_add_right hN 1) (by decide)) (Nat.lt_trans B.road (by decide)) fun σ₅ c5 X₅ => ?_)
  exact g_exprC Fl (es_cons (ev_nm g1) (es_cons (ev_nm g4) es_nil)) (look_ok (n := n) (H := H.sent i s text) (Nat.le_of_succ_le_succ hn) Z Fl X₅ I' B' hN' C fun A' H' o' σ' hC hA c6 X₆ => g_ret (ev_nm g4) (hr _ _ _ (k A' H' o' σ' hC (hA.trans hA₄) ((c₄.trans c5).trans c6) X₆)))
theorem brought_ok {i lt ha hb N : Nat} {ph : Ph} {qs : List Ml} (hn : 12 ≤ n) (Z : RF G) (F : Fn1 G "_law_brought" ["_law_h", "_law_place"] c_law_brought f) (X : RHAt o σ b A H ex) (I : HInv N H (fun _ => False) qs) (hN : H.owners.length ≤ 400) (hd : N ≤ 40) (hq : qs[i]? = some (lt, ha, hb, ph))
    (k : ∀ A' H' o' σ', Brings H i lt ha hb H' ph → A'.d = A.d → Chg (·.1 = b) o σ o' σ' → RHAt o' σ' b A' H' ex → Φ (mailAV (mailOf lt ha hb ph)) σ') : WC G (n + 1) (.ref f) [.ref A.d, .int i] σ Φ Ψ := by
  obtain ⟨n, rfl⟩ : ∃ j, n = j + 1 := by first | with_reducible exact Nat.exists_eq_add_of_le' (Nat.le_trans (by decide) hn) | exact ⟨n - 1, (by first | decide | (with_reducible first | exact lv hn | exact lv1 hn | exact lv2 hn | exact Int.natCast_nonneg _ | assumption) | omega)⟩
  have B := I.small hd (by first | decide | (with_reducible first | exact lv hn | exact lv1 hn | exact lv2 hn | exact Int.natCast_nonneg _) | omega)
  obtain ⟨C, _⟩ := I.bring hq
  have hm : H.road[i]? = some (mailOf lt ha hb ph) := by rw [I.rd, List.getElem?_map, hq]; rfl
  generalize em : mailOf lt ha hb ph = m at hm k
  refine F.bd rfl fun ρ K X' L hr _ _ => ?_
  have l1 := L "_law_h" _ rfl
  refine g_popA (v := mailAV m) (X.key l1 rfl) X.ml.at_ (ev_nm (L "_law_place" _ rfl)) (by rw [List.length_map]; exact Nat.lt_trans B.road (by decide)) (by rw [List.getElem?_map, hm]; rfl) ?_
  clear L
  rw [eraseIdx_map']
  obtain ⟨X₁, c1⟩ := X.mails (H.road.eraseIdx i)
  generalize upd σ A.ml (.list ((H.road.eraseIdx i).map mailAV)) = σ₁ at X₁ c1
  have hel : (H.road.eraseIdx i).length < 90000 := Nat.lt_of_le_of_lt (List.length_eraseIdx_le _ _) B.road
  have z1 := Nat.lt_trans B.desks (show 1000 < 10000 by decide)
  have z2 := Nat.lt_trans B.owners (show 9000 < 10000 by decide)
  have g1 := lk_ne (x := Str.ofString "_law_mail_here") (a := mailAV m) (by decide) l1
  have g2 := lk_eq (x := Str.ofString "_law_mail_here") (a := mailAV m) (ρ := ρ)
  have end_ : ∀ A' H' o' σ' ρ', Brings H i lt ha hb H' ph → A'.d = A.d → Chg (·.1 = b) o σ o' σ' → RHAt o' σ' b A' H' ex → ρ'.lookup (Str.ofString "_law_mail_here") = some (mailAV m) → tss G (n + 1) [.ret (some (.nm "_law_mail_here"))] ρ' σ' K X' := fun A' H' o' σ' ρ' h1 h2 h3 h4 h5 => g_ret (ev_nm h5) (hr _ _ _ (k A' H' o' σ' h1 h2 h3 h4))
  clear hr k l1
  generalize putA (Str.ofString "_law_mail_here") (mailAV m) ρ = ρ₁ at g1 g2
  cases ph with
  | letter =>
    subst em
    obtain ⟨s, hs, hk⟩ := C
    obtain ⟨fp, Fp⟩ := Z.prop
    have hil := (List.getElem?_eq_some_iff.mp hs).1
    have hD : A.D[hb]? = some (A.D[hb]'(by rw [X.len]; exact hil)) := List.getElem?_eq_getElem _
    obtain ⟨dn, R, Y⟩ := X₁.desk hb _ s hD hs
    have DI := I.desk hb s hs
    refine g_iteT (et_cmp (ev_sub (ev_nm g2) ev_cst d_0) ev_cst d_eqsT) (g_asgC Fp (es_cons (ev_rdesk X₁ z1 (Int.natCast_nonneg _) (by rw [Int.toNat_natCast]; exact hD) g1 (ev_sub (ev_nm g2) ev_cst d_3)) (es_cons (ev_sub (ev_nm g2) ev_cst d_1) es_nil)) (proposed_ok (n := n) Fp R (Y.inv DI) (by first | decide | (with_reducible first | exact lv hn | exact lv1 hn | exact lv2 hn | exact Int.natCast_nonneg _) | omega) (Nat.zero_lt_succ _) hk fun σ₂ c2 R₂ => ?_))
    have X₂ := X₁.setDesk c2 hD rfl R₂ (Y.prop DI hk)
    refine g_app (X₂.key (lk_ne (by decide) g1) rfl) X₂.ml.at_ (ev_tup (es_cons ev_cst (es_cons (ev_sub (ev_nm (lk_ne (by decide) g2)) ev_cst d_1) (es_cons (ev_sub (ev_nm (lk_ne (by decide) g2)) ev_cst d_3) (es_cons (ev_sub (ev_nm (lk_ne (by decide) g2)) ev_cst d_2) (es_cons (ev_nm lk_eq) es_nil))))) (Nat.le_of_ble_eq_true rfl)) (by rw [List.length_map]; exact Nat.lt_trans hel (by decide)) ?_
    obtain ⟨X₃, c3⟩ := X₂.mails (H.road.eraseIdx i ++ [(Str.ofString "number", (lt : Int), (hb : Int), (ha : Int), some (s.hours + 1, s.hand))])
    rw [List.map_append (l₂ := [_]), List.map_singleton] at X₃ c3
    exact end_ { A with D := A.D.set hb _ } _ o _ _ ⟨s, hs, rfl⟩ rfl ((c1.trans (fam c2)).trans c3) X₃ (lk_ne (by decide) g2)
  | number p =>
    subst em
    obtain ⟨ow, ms, s, hms, hmz, CC⟩ := C
    obtain ⟨fl, Fl⟩ := Z.look
    obtain ⟨pp, tx, ms', fm, hp, hw, hms', hf, S⟩ := X₁.get CC.own
    rw [show ({ H with road := H.road.eraseIdx i } : Hs).told = H.told from rfl, hms] at hms'; cases hms'
    refine g_iteF (et_cmp (ev_sub (ev_nm g2) ev_cst d_0) ev_cst (d_eqsF (s := Str.ofString "number") (by decide))) (g_iteT (et_cmp (ev_sub (ev_nm g2) ev_cst d_0) ev_cst d_eqsT) (g_app (S.p2 (ev_rsent X₁ z2 hp g1 (ev_sub (ev_nm g2) ev_cst d_1))) S.b.at_ (ev_sub (ev_nm g2) ev_cst d_4) (by rw [List.length_map]; exact Nat.lt_trans hmz (Nat.lt_trans B.desks (by decide))) ?_))
    have c2 : Chg (· = (b, 5 + 2 * lt)) o σ₁ o (upd σ₁ pp.2 (.list (ms.map mk ++ [mk p]))) := .put S.b rfl
    have S₂ : SentAt (b, 5 + 2 * lt) o (upd σ₁ pp.2 (.list (ms.map mk ++ [mk p]))) pp ow tx (ms ++ [p]) fm := ⟨S.a.upd S.ne, by rw [List.map_append]; exact S.b.put, S.ne⟩
    have X₂ := X₁.setSent c2 hp CC.own hw (List.getElem?_eq_some_iff.mp hms).1 CC.fin S₂
    rw [set_same hf] at X₂
    have I₂ := (I.numb hq hms).1
    have B₂ : Small { H with road := H.road.eraseIdx i, told := H.told.set lt (ms ++ [p]) } := I₂.small hd (by show H.owners.length ≤ 2000; (first | with_reducible assumption | with_reducible exact Nat.lt_of_lt_of_le (by assumption) (by decide) | omega))
    exact g_exprC Fl (es_cons (ev_nm g1) (es_cons (ev_sub (ev_nm g2) ev_cst d_1) es_nil)) (look_ok (n := n) (Nat.le_of_succ_le_succ hn) Z Fl X₂ I₂ B₂ hN CC fun A' H' o' σ' hC hA c3 X₃ => end_ A' H' o' σ' _ ⟨ms, hms, hC⟩ hA ((c1.trans (fam c2)).trans c3) X₃ g2)
  | mark p =>
    subst em
    obtain ⟨s, hs, hc⟩ := C
    obtain ⟨fs, Fs⟩ := Z.sett
    have hil := (List.getElem?_eq_some_iff.mp hs).1
    have hD : A.D[hb]? = some (A.D[hb]'(by rw [X.len]; exact hil)) := List.getElem?_eq_getElem _
    exact g_iteF (et_cmp (ev_sub (ev_nm g2) ev_cst d_0) ev_cst (d_eqsF (s := Str.ofString "mark") (by decide))) (g_iteF (et_cmp (ev_sub (ev_nm g2) ev_cst d_0) ev_cst (d_eqsF (s := Str.ofString "mark") (by decide))) (g_exprC Fs (es_cons (ev_rdesk X₁ z1 (Int.natCast_nonneg _) (by rw [Int.toNat_natCast]; exact hD) g1 (ev_sub (ev_nm g2) ev_cst d_3)) (es_cons (ev_sub (ev_nm g2) ev_cst d_1) (es_cons (ev_sub (ev_nm g2) ev_cst d_4) es_nil))) (rsettle_ok (n := n) (lv1 hn) Z Fs X₁ (I.desk hb s hs) hN hD hs hc fun v A₂ s' o₂ σ₂ hS hA c2 X₂ _ => end_ A₂ _ o₂ σ₂ _ ⟨s, s', hs, hS, rfl⟩ hA (c1.trans (fam c2)) X₂ g2)))
end
end Mine
set_option maxRecDepth 100000
set_option linter.unusedSimpArgs false
set_option linter.unusedVariables false
namespace Mine
open PySem PyProof.Rows

noncomputable def c_law_house : List Sm := [.ret (some (.dict [(.cst (.str "desks")), (.cst (.str "sent")), (.cst (.str "mails"))] [(.comp (.call "_law_desk" [(.nm "_law_hand_here")]) "_law_hand_here" (.bi "range" [(.nm "_law_many")]) []), (.list []), (.list [])]))]
section
variable {G : PG} {n : Nat} {ρ : Loc} {σ : Sto} {Φ : PE} {Ψ : PY} {f : Addr} {o : Own} {u : Tag} {e : Ex} {es : List Ex} {us : List AV} {r : List Sm} {b : Nat}
theorem x_listN (t : Tag) (hs : Es G n ρ σ es us) (hz : us.length < 10000) (p : ∀ a o' σ', σ a = none → Chg (fun _ => False) o σ o' σ' → At o' σ' t a (.list us) → Φ (.ref a) σ') : (tr G n (.list es)).v ρ σ Φ Ψ := by
  rw [tv_list]
  exact hs _ _ (new_ownN t (Nat.le_of_lt (big_line hz)) p)
theorem g_retX {Φ : PS} {Ψ : PX} (p : (tr G n e).v ρ σ (fun v σ₁ => Φ (.ret v) ρ σ₁) (fun c σ₁ => Ψ c ρ σ₁)) : tss G n (.ret (some e) :: r) ρ σ Φ Ψ := p
theorem x_dict0 (t : Tag) (p : ∀ a o' σ', σ a = none → Chg (fun _ => False) o σ o' σ' → At o' σ' t a (.dictI []) → Φ (.ref a) σ') : (tr G n (.dict [] [])).v ρ σ Φ Ψ := by
  rw [tv_dict0]
  exact fun a ha => p a _ _ ha (.new (t := t) ha) .new
theorem tv_dictS {k : Ex} {ks vs : List Ex} {l : List Str} (h : strKs (k :: ks) = some l) (p : dictV .dictS l (trs G n vs) ρ σ Φ Ψ) : (tr G n (.dict (k :: ks) vs)).v ρ σ Φ Ψ := by
  show dictD (k :: ks) (trs G n vs) ρ σ Φ Ψ
  unfold dictD
  simp only [h]
  exact p
theorem ldesk_ok {hand : Int} (u : Tag) (F : Fn1 G "_law_desk" ["_law_hand_here"] c_law_desk f) (h : ∀ A o' σ', Chg (fun _ => False) o σ o' σ' → RefAt u o' σ' A ⟨hand, 0, [], [], []⟩ [] [] → Φ (.ref A.d) σ') : WC G (n + 1) (.ref f) [.int hand] σ Φ Ψ :=
  F.bd rfl fun ρ K X' L hr _ _ => by
    refine g_retX (tv_dictS (l := [Str.ofString "hand", Str.ofString "time", Str.ofString "met", Str.ofString "marks", Str.ofString "done", Str.ofString "row"]) rfl ?_)
    intro d hd
    have c0 : Chg (fun _ => False) o σ (setO o d u) (upd σ d (.dictS [])) := .new hd
    have D0 : At (setO o d u) (upd σ d (.dictS [])) u d (.dictS []) := .new
    generalize setO o d u = o₀ at c0 D0
    generalize upd σ d (.dictS []) = σ₀ at c0 D0
    refine ev_nm (L _ _ rfl) _ _ (ev_cst _ _ (x_listN (o := o₀) u es_nil (Nat.le_of_ble_eq_true rfl) fun m o₁ σ₁ hm c1 M1 => x_dict0 (o := o₁) u fun k o₂ σ₂ hk c2 K2 => x_dict0 (o := o₂) u fun e o₃ σ₃ he c3 E3 => x_listN (o := o₃) u es_nil (Nat.le_of_ble_eq_true rfl) fun r o₄ σ₄ hr4 c4 R4 => ?_))
    have M3 := (M1.chg c2 id).chg c3 id
    have K3 := K2.chg c3 id
    have D4 := (((D0.chg c1 id).chg c2 id).chg c3 id).chg c4 id
    have M4 := M3.chg c4 id
    have K4 := K3.chg c4 id
    have E4 := E3.chg c4 id
    refine ⟨D4.at_, ?_⟩
    have e0 : putAll [Str.ofString "hand", Str.ofString "time", Str.ofString "met", Str.ofString "marks", Str.ofString "done", Str.ofString "row"] [.int hand, .int 0, .ref m, .ref k, .ref e, .ref r] [] = refC ⟨d, m, k, e, r⟩ hand 0 [] := by simp [putAll, putI, refC, strQ]
    rw [e0]
    exact hr _ _ _ (h ⟨d, m, k, e, r⟩ o₄ _ ((c0.trans (c1.trans (c2.trans (c3.trans c4)))).over hd) ⟨D4.put, M4.upd (M4.ne_kind D4 (by simp)), K4.upd (K4.ne_kind D4 (by simp)), E4.upd (E4.ne_kind D4 (by simp)), R4.upd (R4.ne_kind D4 (by simp)), M3.off hr4, K2.off he⟩)
theorem si_nil (h : Int) : SI ⟨h, 0, [], [], []⟩ [] := ⟨fun r hr => (by cases hr), fun l hl => (by cases hl), List.nodup_nil⟩
theorem rhouse_ok {many : Nat} {fd : Addr} (hn : 11 ≤ n) (F : Fn1 G "_law_house" ["_law_many"] c_law_house f) (Fd : Fn1 G "_law_desk" ["_law_hand_here"] c_law_desk fd) (h40 : many ≤ 40)
    (k : ∀ A o' σ', Chg (fun _ => False) o σ o' σ' → RHAt o' σ' b A (emptyHouse many) [] → Φ (.ref A.d) σ') : WC G (n + 1) (.ref f) [.int many] σ Φ Ψ := by
  obtain ⟨n, rfl⟩ : ∃ j, n = j + 1 := by first | with_reducible exact Nat.exists_eq_add_of_le' (Nat.le_trans (by decide) hn) | exact ⟨n - 1, (by first | decide | (with_reducible first | exact lv hn | exact lv1 hn | exact lv2 hn | exact Int.natCast_nonneg _ | assumption) | omega)⟩
  refine F.bd rfl fun ρ K X' L hr _ _ => g_retX (tv_dictS (l := [Str.ofString "desks", Str.ofString "sent", Str.ofString "mails"]) rfl ?_)
  intro d hd
  have c0 : Chg (fun _ => False) o σ (setO o d (b, 0)) (upd σ d (.dictS [])) := .new hd
  have D0 : At (setO o d (b, 0)) (upd σ d (.dictS [])) (b, 0) d (.dictS []) := .new
  generalize setO o d (b, 0) = o₀ at c0 D0
  generalize upd σ d (.dictS []) = σ₀ at c0 D0
  rw [sq_cons, tv_compR]
  refine es_cons (ev_nm (L "_law_many" _ rfl)) es_nil _ _ ⟨lv hn, (by first | decide | (with_reducible first | exact lv hn | exact lv1 hn | exact lv2 hn | exact Int.natCast_nonneg _) | omega), (by first | decide | (with_reducible first | exact lv hn | exact lv1 hn | exact lv2 hn | exact Int.natCast_nonneg _ | assumption) | omega), ?_⟩
  rw [range0]
  refine CompOk.ix (vs := (List.range many).map fun (i : Nat) => AV.int i) (by rw [List.length_map, List.length_range]; exact Nat.lt_of_le_of_lt h40 (by decide)) (fun i acc σ₂ => ∃ o₂ Ds, Ds.length = i ∧ acc = Ds.map (fun D : RA => AV.ref D.d) ∧ Chg (fun _ => False) o₀ σ₀ o₂ σ₂ ∧ ∀ (j : Nat) D, Ds[j]? = some D → RefAt (b, 4 + 2 * j) o₂ σ₂ D ⟨(j : Int), 0, [], [], []⟩ [] [])
    ⟨o₀, [], rfl, rfl, .refl, fun j D h => by cases h⟩ ?_ ?_ ?_
  · rintro i acc σ₂ ⟨o₂, Ds, h1, rfl, _⟩
    rw [List.length_map, h1]; exact Nat.le_refl _
  · rintro i v J J' acc σ₂ hi hv ⟨o₂, Ds, hl, rfl, c₂, hD⟩ kJ _
    rw [List.length_map, List.length_range] at hi
    rw [List.getElem?_map, List.getElem?_range hi] at hv
    cases hv
    refine ea_nil _ _ (tv_call Fd (es_cons (ev_nm lk_eq) es_nil _ _ (ldesk_ok (n := n) (o := o₂) (b, 4 + 2 * i) Fd fun D o₃ σ₃ c3 S₃ => kJ _ _ ⟨o₃, Ds ++ [D], by rw [List.length_append, hl]; rfl, by rw [List.map_append]; rfl, c₂.trans c3, fun j D' hj => ?_⟩)))
    rcases app_get hj with ⟨_, hj⟩ | ⟨e, rfl⟩
    · exact (hD j D' hj).chg c3 id
    · rw [hl] at e; subst e; exact S₃
  · rintro acc σ₂ ⟨o₂, Ds, hl, rfl, c₂, hD⟩ a ha
    rw [List.length_map, List.length_range] at hl
    have c3 : Chg (fun _ => False) o₂ σ₂ (setO o₂ a (b, 1)) (upd σ₂ a (.list (Ds.map fun D => AV.ref D.d))) := .new ha
    have A3 : At (setO o₂ a (b, 1)) (upd σ₂ a (.list (Ds.map fun D => AV.ref D.d))) (b, 1) a (.list (Ds.map fun D => AV.ref D.d)) := .new
    generalize upd σ₂ a (.list (Ds.map fun D => AV.ref D.d)) = σ₃ at A3 c3
    generalize setO o₂ a (b, 1) = o₃ at A3 c3
    rw [sq_cons]
    refine x_listN (o := o₃) (b, 3) es_nil (Nat.le_of_ble_eq_true rfl) fun se o₄ σ₄ _ c4 S4 => ?_
    rw [sq_cons]
    refine x_listN (o := o₄) (b, 2) es_nil (Nat.le_of_ble_eq_true rfl) fun ml o₅ σ₅ _ c5 M5 => ?_
    rw [sq_nil]
    have c45 := c4.trans c5
    have q3 := c3.trans c45
    have D5 := D0.chg (c₂.trans q3) id
    have A5 := A3.chg c45 id
    have S5 := S4.chg c5 id
    refine ⟨D5.at_, ?_⟩
    have e0 : putAll [Str.ofString "desks", Str.ofString "sent", Str.ofString "mails"] [.ref a, .ref se, .ref ml] [] = rhC ⟨d, a, se, ml, Ds, []⟩ [] := by simp [putAll, putI, rhC, strQ]
    rw [e0]
    have c6 : Chg (· = (b, 0)) o₅ σ₅ o₅ (upd σ₅ d (.dictS (rhC ⟨d, a, se, ml, Ds, []⟩ []))) := .put D5 rfl
    have ne : ∀ j, ¬ ((b, j + 1) = ((b, 0) : Tag)) := fun j z => Nat.noConfusion (Prod.mk.inj z).2
    exact hr _ _ _ (k ⟨d, a, se, ml, Ds, []⟩ o₅ _ ((c0.trans (c₂.trans q3)).over hd) ⟨D5.put, A5.chg c6 (ne 0), M5.chg c6 (ne 1), S5.chg c6 (ne 2), by rw [hl]; exact (empty_len many).symm, rfl, fun i D s e1 e2 => ⟨[], (empty_desk e2).2 ▸ ((hD i D e1).chg q3 id).chg c6 (fun z => absurd (congrArg Prod.snd z) (Ne.symm (tk_d (a := 0) (by decide)))), (empty_desk e2).2 ▸ si_nil _⟩, fun l p e => by cases e⟩)
end
end Mine
set_option maxRecDepth 100000
set_option linter.unusedSimpArgs false
set_option linter.unusedVariables false
namespace Mine
open PySem PyProof.Rows

noncomputable def c_law_mails : List Sm := [.ite (.or_ [(.not_ (.bi "isinstance" [(.nm "_law_found"), (.gl "list")])), (.cmp .NotEq (.bi "len" [(.nm "_law_found")]) (.bi "len" [(.nm "_law_due")]))]) [.ret (some (.cst (.bool false)))] [], .for_ "_law_one" (.nm "_law_found") [.ite (.not_ (.call "_law_mail" [(.nm "_law_one")])) [.ret (some (.cst (.bool false)))] []], .asg "_law_good" (.cmp .Eq (.nm "_law_found") (.nm "_law_due")), .expr (.meth (.nm "_law_found") "clear" []), .ret (some (.nm "_law_good"))]
noncomputable def c_law_row : List Sm := [.ite (.or_ [(.not_ (.bi "isinstance" [(.nm "_law_found"), (.gl "list")])), (.cmp .NotEq (.bi "len" [(.nm "_law_found")]) (.bi "len" [(.nm "_law_due")]))]) [.ret (some (.cst (.bool false)))] [], .for_ "_law_one" (.nm "_law_found") [.ite (.not_ (.call "_law_whole" [(.nm "_law_one")])) [.ret (some (.cst (.bool false)))] []], .asg "_law_good" (.cmp .Eq (.nm "_law_found") (.nm "_law_due")), .expr (.meth (.nm "_law_found") "clear" []), .ret (some (.nm "_law_good"))]
noncomputable def c_law_hand : List Sm := [.asg "_law_time" (.meth (.nm "_law_house_here") "clock" [(.nm "_law_hand_here")]), .ite (.or_ [(.not_ (.call "_law_whole" [(.nm "_law_time")])), (.cmp .NotEq (.nm "_law_time") (.sub (.sub (.sub (.nm "_law_h") (.cst (.str "desks"))) (.nm "_law_hand_here")) (.cst (.str "time"))))]) [.ret (some (.cst (.bool false)))] [], .ret (some (.call "_law_row" [(.meth (.nm "_law_house_here") "handed" [(.nm "_law_hand_here")]), (.bi "list" [(.sub (.sub (.sub (.nm "_law_h") (.cst (.str "desks"))) (.nm "_law_hand_here")) (.cst (.str "row")))])]))]
noncomputable def c_law_missing : List Sm := [.try_ [.expr (.meth (.nm "_law_house_here") "bring" [(.nm "_law_place")])] "BellError" "error" [.ret (some (.and_ [(.bi "isinstance" [(.nm "error"), (.gl "NoMail")]), (.bi "isinstance" [(.nm "error"), (.gl "ValueError")])]))], .ret (some (.cst (.bool false)))]
noncomputable def c_law_letter : List Sm := [.asg "_law_mark_here" (.meth (.nm "_law_house_here") "mark" [(.nm "_law_letter_here")]), .asg "_law_sender" (.meth (.nm "_law_house_here") "sender" [(.nm "_law_letter_here")]), .asg "_law_text" (.meth (.nm "_law_house_here") "text" [(.nm "_law_letter_here")]), .ite (.or_ [(.not_ (.call "_law_whole" [(.nm "_law_sender")])), (.cmp .NotEq (.nm "_law_sender") (.sub (.sub (.sub (.nm "_law_h") (.cst (.str "sent"))) (.nm "_law_letter_here")) (.cst (.int (0)))))]) [.ret (some (.cst (.bool false)))] [], .ite (.or_ [(.not_ (.bi "isinstance" [(.nm "_law_text"), (.gl "str")])), (.cmp .NotEq (.nm "_law_text") (.sub (.sub (.sub (.nm "_law_h") (.cst (.str "sent"))) (.nm "_law_letter_here")) (.cst (.int (1)))))]) [.ret (some (.cst (.bool false)))] [], .ite (.cmp .Is (.sub (.sub (.sub (.nm "_law_h") (.cst (.str "sent"))) (.nm "_law_letter_here")) (.cst (.int (3)))) (.cst .none)) [.ret (some (.cmp .Is (.nm "_law_mark_here") (.cst .none)))] [], .ret (some (.and_ [(.call "_law_mark" [(.nm "_law_mark_here")]), (.cmp .Eq (.nm "_law_mark_here") (.sub (.sub (.sub (.nm "_law_h") (.cst (.str "sent"))) (.nm "_law_letter_here")) (.cst (.int (3)))))]))]
section
variable {G : PG} {n : Nat} {ρ : Loc} {σ σ' : Sto} {Φ : PE} {Ψ : PY} {f fd dd : Addr} {v : AV} {a : Ex}
theorem d_list : GlIs G "list" (.val (.type "list")) := fun Φ p => by rw [glob_list]; exact p
theorem d_eqL {vs : List AV} {ds : List PyData} (ha : lstOf σ fd = some vs) (hb : lstOf σ dd = some vs) (e : mapO (datum σ 5) vs = some ds) (c : PyData.canLayAll0 ds = true) : CmpIs G σ .Eq (.ref fd) (.ref dd) true := fun P p => by rw [cm_eq]; exact eq_lst ha hb e c p
theorem g_clear {r : List Sm} {vs : List AV} {Φ : PS} {Ψ : PX} (ha : Ev G n ρ σ a (.ref fd)) (hx : σ fd = some (.list vs)) (hz : vs.length < 1000000) (p : tss G n r ρ (upd σ fd (.list [])) Φ Ψ) : tss G n (.expr (.meth a "clear" []) :: r) ρ σ Φ Ψ := by
  rw [bl_expr, tv_meth]
  refine ha _ _ (mm_lst hx (.inr (.inr rfl)) ?_)
  rw [sq_nil, hx]
  exact lm_clear (Nat.le_of_lt (Nat.lt_trans hz (by decide))) p
theorem ev_isl {x : Str} {vs : List AV} (h : ρ.lookup x = some (.ref fd)) (hl : lstOf σ fd = some vs) : Ev G n ρ σ (.bi "isinstance" [(.nm x), (.gl "list")]) (.bool true) :=
  ev_bi (es_cons (ev_nm h) (es_cons (ev_gl d_list) es_nil)) (d_isi (t := .type "list") (by simp only [kindV, hl]) rfl)
/-- a list that was found is as it is due, and is cleared: the two checks are alike -/
theorem same_ok {α : Type} {g : α → AV} {e : α → PyData} {ks : List α} {m : Str} {ps : List Str} {code : List Sm} {fq : Addr} {nm : Str} (F : Fn1 G nm ["_law_found", "_law_due"] [.ite (.or_ [(.not_ (.bi "isinstance" [(.nm "_law_found"), (.gl "list")])), (.cmp .NotEq (.bi "len" [(.nm "_law_found")]) (.bi "len" [(.nm "_law_due")]))]) [.ret (some (.cst (.bool false)))] [], .for_ "_law_one" (.nm "_law_found") [.ite (.not_ (.call m [(.nm "_law_one")])) [.ret (some (.cst (.bool false)))] []], .asg "_law_good" (.cmp .Eq (.nm "_law_found") (.nm "_law_due")), .expr (.meth (.nm "_law_found") "clear" []), .ret (some (.nm "_law_good"))] f) (Q : Fn1 G m ps code fq) (hq : ∀ x, CallIs G n fq [g x] σ (.bool true))
    (hf : σ fd = some (.list (ks.map g))) (hd : lstOf σ dd = some (ks.map g)) (hz : ks.length < 100000) (h1 : ∀ x, datum σ 5 (g x) = some (e x)) (h2 : ∀ x ∈ ks, (e x).canLay0 = true) (k : Φ (.bool true) (upd σ fd (.list []))) : WC G (n + 1) (.ref f) [.ref fd, .ref dd] σ Φ Ψ := by
  refine F.bd rfl fun ρ K' X' L hr _ _ => ?_
  have l1 := L "_law_found" _ rfl
  have l2 := L "_law_due" _ rfl
  have hl := lstOf_list hf
  have hz' := Nat.lt_trans hz (show 100000 < 1000000 by decide)
  refine g_if0 (et_or (eo_F (et_notF (et_bi (ev_isl l1 hl))) (eo_F (et_cmp (ev_bi (es_cons (ev_nm l1) es_nil) (d_lenM hl hz')) (ev_bi (es_cons (ev_nm l2) es_nil) (d_lenM hd hz')) (d_neF rfl)) eo_nil))) ?_
  refine g_forL l1 hl (fun j ρ₂ => ρ₂.lookup (Str.ofString "_law_found") = some (.ref fd) ∧ ρ₂.lookup (Str.ofString "_law_due") = some (.ref dd)) ⟨l1, l2⟩ (fun j u K₂ ρ₂ hu hI k1 _ => ?_) fun ρ₂ hI => ?_
  · rw [List.getElem?_map] at hu
    obtain ⟨x, _, rfl⟩ := Option.map_eq_some_iff.mp hu
    exact g_if0 (et_notF (et_call (ev_call Q (es_cons (ev_nm lk_eq) es_nil) (hq x)))) (g_nil (k1 _ ⟨lk_ne (by decide) hI.1, lk_ne (by decide) hI.2⟩))
  · exact g_asg (ev_cmp (ev_nm hI.1) (ev_nm hI.2) (d_eqL hl hd (mapO_map g e ks fun x _ => h1 x) (canAll _ _ h2))) (g_clear (ev_nm (lk_ne (by decide) hI.1)) hf (by rw [List.length_map]; exact hz') (g_ret (ev_nm lk_eq) (hr _ _ _ k)))
end
/-- what the law reaches -/
structure NM (G : PG) (C : Addr) : Prop where
  mg : G.mg "NoMail" = some (.ref C)
  xc : ExcOk G "NoMail" C
  ex : ExcK G.K C
  k : W.kitOne G.K (.ref C) (.ref C) = some true
  ve : G.mg "ValueError" = none
  kv : W.kitOne G.K (.ref C) (.type "ValueError") = some true
  bell : ∃ B, G.mg "BellError" = some (.ref B) ∧ W.exmOne G.K (.ref C) (.ref B) = some true
structure L8 (G : PG) (CH CD : Addr) : Prop where
  hm : HM G CH CD
  rest : ∃ f, Mt G CH "rest" ["self"] cHouse_rest f
  letters : ∃ f, Mt G CH "letters" ["self"] cHouse_letters f
  sender : ∃ f, Mt G CH "sender" ["self", "letter"] cHouse_sender f
  text : ∃ f, Mt G CH "text" ["self", "letter"] cHouse_text f
  mark : ∃ f, Mt G CH "mark" ["self", "letter"] cHouse_mark f
  clock : ∃ f, Mt G CH "clock" ["self", "hand"] cHouse_clock f
  nm : ∃ C, NM G C
  rf : RF G
  wh : ∃ f, Fn1 G "_law_whole" ["_law_found"] c_law_whole f
  mrk : ∃ f, Fn1 G "_law_mark" ["_law_found"] c_law_mark f
  ml : ∃ f, Fn1 G "_law_mail" ["_law_found"] c_law_mail f
  snt : ∃ f, Fn1 G "_law_sent" ["_law_h", "_law_hand_here", "_law_text"] c_law_sent f
  brt : ∃ f, Fn1 G "_law_brought" ["_law_h", "_law_place"] c_law_brought f
  mls : ∃ f, Fn1 G "_law_mails" ["_law_found", "_law_due"] c_law_mails f
  row : ∃ f, Fn1 G "_law_row" ["_law_found", "_law_due"] c_law_row f
/-- the list that was found last: cleared -/
noncomputable def ExT (t : Tag) (o : Own) (σ : Sto) (ex : List (Str × AV)) : Prop := ex = [] ∨ ∃ a, ex = [(Str.ofString "told", .ref a)] ∧ At o σ t a (.list [])
theorem ExT.chg {t : Tag} {o o' : Own} {σ σ' : Sto} {ex : List (Str × AV)} {T : Tag → Prop} (x : ExT t o σ ex) (h : Chg T o σ o' σ') (n : ¬ T t) : ExT t o' σ' ex := x.imp id fun z => z.imp fun _ z => ⟨z.1, z.2.chg h n⟩
/-- a house, and the law's own beside it -/
structure Two (CH CD : Addr) (b : Nat) (x y : Addr) (many : Nat) (o : Own) (σ : Sto) (H : Hs) : Prop where
  h : HOk CH CD b x many o σ H
  r : ∃ A ex, A.d = y ∧ RHAt o σ (b + 1) A H ex ∧ ExT (b + 2, 0) o σ ex
  ol : H.owners.length ≤ 399
noncomputable def Fam (b : Nat) (t : Tag) : Prop := t.1 = b ∨ t.1 = b + 1 ∨ t.1 = b + 2
section
variable {G : PG} {n : Nat} {ρ : Loc} {σ σ' : Sto} {Φ : PE} {Ψ : PY} {CH CD x y f : Addr} {o o' : Own} {b many : Nat} {H : Hs} {T : Tag → Prop} {a e : Ex} {as : List Ex} {us : List AV} {v : AV} {m : Str} {ps : List Str} {code : List Sm} {C d : Addr} {l : List (Str × AV)}
theorem Two.chg (X : Two CH CD b x y many o σ H) (c : Chg T o σ o' σ') (h : ∀ t, Fam b t → ¬ T t) : Two CH CD b x y many o' σ' H :=
  ⟨X.h.chg c fun j => h _ (.inl rfl), X.r.imp fun A z => z.imp fun ex z => ⟨z.1, z.2.1.chg c fun j => h _ (.inr (.inl rfl)), z.2.2.chg c (h _ (.inr (.inr rfl)))⟩, X.ol⟩
theorem Two.new (X : Two CH CD b x y many o σ H) (c : Chg (fun _ => False) o σ o' σ') : Two CH CD b x y many o' σ' H := X.chg c fun _ _ => id
theorem ev_methI (M : Mt G C m ps code f) (ha : Ev G n ρ σ a (.ref x)) (hx : σ x = some (.inst C d)) (hd : σ d = some (.ns l)) (hl : l.lookup m = none) (hs : Es G n ρ σ as us) (h : ∀ Φ Ψ, Φ v σ → WC G n (.ref f) (.ref x :: us) σ Φ Ψ) : Ev G n ρ σ (.meth a m as) v := fun Φ Ψ p => ev_meth M ha hx hd hl hs (h Φ Ψ p)
/-- one letter -/
theorem letter8 {i : Nat} (Z : L8 G CH CD) (F : Fn1 G "_law_letter" ["_law_house_here", "_law_h", "_law_letter_here"] c_law_letter f) {c : Nat} {R : RH} {ex : List (Str × AV)} (XH : HOk CH CD b x many o σ H) (XR : RHAt o σ c R H ex) (hi : i < H.owners.length) : CallIs G (n + 4) f [.ref x, .ref R.d, .int i] σ (.bool true) := fun Φ Ψ h =>
  F.bd rfl fun ρ K X' L hr _ _ => by
    obtain ⟨A, rfl, XA⟩ := XH.at_
    obtain ⟨f1, M1⟩ := Z.mark
    obtain ⟨f2, M2⟩ := Z.sender
    obtain ⟨f3, M3⟩ := Z.text
    obtain ⟨fw, Wh⟩ := Z.wh
    obtain ⟨fk, Mk⟩ := Z.mrk
    have B := XH.small
    have l1 := L "_law_house_here" _ rfl
    have l2 := L "_law_h" _ rfl
    have l3 := L "_law_letter_here" _ rfl
    clear L
    have ho : H.owners[i]? = some H.owners[i] := List.getElem?_eq_getElem hi
    obtain ⟨p, tx, ms, fm, hp, hw, hms, hf, S⟩ := XR.get ho
    have z2 := Nat.lt_trans B.owners (show 9000 < 10000 by decide)
    have hii : (i : Int) < H.owners.length := Int.ofNat_lt.mpr hi
    refine g_asg (v := finAV fm) (ev_methI M1 (ev_nm l1) XA.x.at_ XA.d.at_ rfl (es_cons (ev_nm l3) es_nil) fun Φ Ψ p => mark_of_ok XA Z.hm.hf M1 z2 (Int.natCast_nonneg _) hii (Nat.lt_trans B.finals (by decide)) (by rw [Int.toNat_natCast]; exact hf) p) ?_
    refine g_asg (v := .int H.owners[i]) (ev_methI M2 (ev_nm (lk_ne (by decide) l1)) XA.x.at_ XA.d.at_ rfl (es_cons (ev_nm (lk_ne (by decide) l3)) es_nil) fun Φ Ψ p => sender_ok XA Z.hm.hf M2 z2 (Int.natCast_nonneg _) (by rw [Int.toNat_natCast]; exact ho) p) ?_
    refine g_asg (v := .str tx) (ev_methI M3 (ev_nm (lk_ne (by decide) (lk_ne (by decide) l1))) XA.x.at_ XA.d.at_ rfl (es_cons (ev_nm (lk_ne (by decide) (lk_ne (by decide) l3))) es_nil) fun Φ Ψ p => text_ok XA Z.hm.hf M3 z2 (Int.natCast_nonneg _) hii (Nat.lt_trans B.wrote (by decide)) (by rw [Int.toNat_natCast]; exact hw) p) ?_
    have g2 := lk_ne (x := Str.ofString "_law_text") (a := .str tx) (by decide) (lk_ne (x := Str.ofString "_law_sender") (a := .int H.owners[i]) (by decide) (lk_ne (x := Str.ofString "_law_mark_here") (a := finAV fm) (by decide) l2))
    have g3 := lk_ne (x := Str.ofString "_law_text") (a := .str tx) (by decide) (lk_ne (x := Str.ofString "_law_sender") (a := .int H.owners[i]) (by decide) (lk_ne (x := Str.ofString "_law_mark_here") (a := finAV fm) (by decide) l3))
    have g4 := lk_ne (x := Str.ofString "_law_text") (a := .str tx) (by decide) (lk_ne (x := Str.ofString "_law_sender") (a := .int H.owners[i]) (by decide) (lk_eq (x := Str.ofString "_law_mark_here") (a := finAV fm) (ρ := ρ)))
    have g5 := lk_ne (x := Str.ofString "_law_text") (a := .str tx) (by decide) (lk_eq (x := Str.ofString "_law_sender") (a := .int H.owners[i]) (ρ := putA (Str.ofString "_law_mark_here") (finAV fm) ρ))
    have g6 := lk_eq (x := Str.ofString "_law_text") (a := .str tx) (ρ := putA (Str.ofString "_law_sender") (.int H.owners[i]) (putA (Str.ofString "_law_mark_here") (finAV fm) ρ))
    generalize putA (Str.ofString "_law_text") (.str tx) (putA (Str.ofString "_law_sender") (.int H.owners[i]) (putA (Str.ofString "_law_mark_here") (finAV fm) ρ)) = ρ₁ at g2 g3 g4 g5 g6
    have es := ev_rsent (G := G) (n := n + 3) XR z2 hp g2 (ev_nm g3)
    refine g_if0 (et_or (eo_F (et_notF (et_call (ev_call Wh (es_cons (ev_nm g5) es_nil) (whole_is Wh)))) (eo_F (et_cmp (ev_nm g5) (S.p0 es) (d_neF rfl)) eo_nil))) ?_
    refine g_if0 (et_or (eo_F (et_notF (et_bi (ev_bi (es_cons (ev_nm g6) (es_cons (ev_gl d_str) es_nil)) (d_isi (q := true) rfl rfl)))) (eo_F (et_cmp (ev_nm g6) (S.p1 es) d_nesF) eo_nil))) ?_
    cases fm with
    | none => exact g_ifR (et_cmp (S.p3 es) ev_cst (d_none rfl)) (ev_cmp (ev_nm g4) ev_cst (d_none rfl)) (hr _ _ _ h)
    | some q => exact g_if0 (et_cmp (S.p3 es) ev_cst (d_none rfl)) (g_ret (ev_andT (ev_call Mk (es_cons (ev_nm g4) es_nil) (mark_is Mk Wh)) (ev_and1 (ev_cmp (ev_nm g4) (S.p3 es) fun P z => eq_same (datum_mk (k := 4) q) (datum_mk (k := 4) q) (can_mk q) z))) (hr _ _ _ h))
end
end Mine
set_option maxRecDepth 100000
set_option linter.unusedSimpArgs false
set_option linter.unusedVariables false
namespace Mine
open PySem PyProof.Rows

noncomputable def c_law_rested : List Sm := [.asg "_law_due" (.cst (.int (0))), .while_ (.cmp .NotEq (.sub (.nm "_law_h") (.cst (.str "mails"))) (.list [])) [.expr (.call "_law_brought" [(.nm "_law_h"), (.cst (.int (0)))]), .asg "_law_due" (.bin .Add (.nm "_law_due") (.cst (.int (1))))], .asg "_law_found" (.meth (.nm "_law_house_here") "rest" []), .ret (some (.and_ [(.call "_law_whole" [(.nm "_law_found")]), (.cmp .Eq (.nm "_law_found") (.nm "_law_due")), (.cmp .Eq (.meth (.nm "_law_house_here") "mails" []) (.list []))]))]
section
variable {G : PG} {n : Nat} {ρ : Loc} {σ σ' : Sto} {Φ : PE} {Ψ : PY} {CH CD x y f : Addr} {o o' : Own} {b many : Nat} {H : Hs}
/-! ### the house's deeds, with their outcome -/
theorem send8 {i : Nat} {s : Dk} {text : Str} (hn : 15 ≤ n) (Z : HM G CH CD) (M : Mt G CH "send" ["self", "hand", "text"] cHouse_send f) (X : HOk CH CD b x many o σ H) (hs : H.desks[i]? = some s) (hz : H.owners.length < 1000)
    (k : ∀ H' o' σ', Closes (H.sent i s text) H.owners.length H' → HOk CH CD b x many o' σ' H' → H'.owners = H.owners ++ [(i : Int)] → Chg (·.1 = b) o σ o' σ' → Φ (.int H.owners.length) σ') : WC G (n + 1) (.ref f) [.ref x, .int i, .str text] σ Φ Ψ := by
  obtain ⟨A, rfl, XA⟩ := X.at_
  obtain ⟨qs, I⟩ := X.inv
  obtain ⟨hk, ⟨_, I'⟩, ⟨ow, ms, s₁, C⟩, fin⟩ := I.send (text := text) hs
  have ho : ∀ {y}, y = H.owners ++ [(i : Int)] → y.length ≤ 1000 := fun e => by rw [e, List.length_append]; exact hz
  refine send_ok hn Z.hf M XA X.small hs hk I.lenT (I'.small X.d40 (Nat.le_trans (ho rfl) (by decide))) C fun A' H' o' σ' hC hx c X' => ?_
  obtain ⟨qs', I', e1⟩ := fin H' hC
  exact k H' o' σ' hC ⟨⟨A', hx, X'⟩, ⟨qs', I'⟩, X.d40, ho e1⟩ e1 c
theorem bring8 {i lt ha hb : Nat} {ph : Ph} {qs : List Ml} (hn : 14 ≤ n) (Z : HM G CH CD) (M : Mt G CH "bring" ["self", "place"] cHouse_bring f) (X : HOk CH CD b x many o σ H) (I : HInv many H (fun _ => False) qs) (hq : qs[i]? = some (lt, ha, hb, ph))
    (k : ∀ H' o' σ', Brings H i lt ha hb H' ph → HOk CH CD b x many o' σ' H' → H'.owners = H.owners → Chg (·.1 = b) o σ o' σ' → Φ (mailAV (mailOf lt ha hb ph)) σ') : WC G (n + 1) (.ref f) [.ref x, .int i] σ Φ Ψ := by
  obtain ⟨A, rfl, XA⟩ := X.at_
  obtain ⟨C, fin⟩ := I.bring hq
  refine bring_ok hn Z.hf M XA X.small (by rw [I.rd, List.getElem?_map, hq]; rfl) C fun A' H' o' σ' hB hx c X' => ?_
  obtain ⟨qs', I', e1, hm⟩ := fin H' hB
  exact k H' o' σ' hB ⟨⟨A', hx, X'⟩, ⟨qs', I'⟩, X.d40, by rw [e1]; exact X.ol⟩ e1 c
theorem rest8 (hn : 15 ≤ n) (Z : HM G CH CD) (M : Mt G CH "rest" ["self"] cHouse_rest f) (X : HOk CH CD b x many o σ H)
    (k : ∀ (c : Nat) H' o' σ', Rests H c H' → HOk CH CD b x many o' σ' H' → H'.owners = H.owners → Chg (·.1 = b) o σ o' σ' → Φ (.int c) σ') : WC G (n + 1) (.ref f) [.ref x] σ Φ Ψ := by
  obtain ⟨n, rfl⟩ : ∃ j, n = j + 1 := by first | with_reducible exact Nat.exists_eq_add_of_le' (Nat.le_trans (by decide) hn) | exact ⟨n - 1, (by first | decide | (with_reducible first | exact lv hn | exact lv1 hn | exact lv2 hn | exact Int.natCast_nonneg _ | assumption) | omega)⟩
  obtain ⟨fb, Mb⟩ := Z.bring
  obtain ⟨qs, I⟩ := X.inv
  refine M.bd rfl fun ρ K X' L hr _ _ => g_asg ev_cst (g_while (fun q ρ₂ σ₂ => ∃ H₂ qs₂ c o₂, Way many H q H₂ qs₂ c ∧ HOk CH CD b x many o₂ σ₂ H₂ ∧ Chg (·.1 = b) o σ o₂ σ₂ ∧ ρ₂.lookup (Str.ofString "self") = some (.ref x) ∧ ρ₂.lookup (Str.ofString "many") = some (.int (c : Nat))) _
    ⟨H, qs, 0, o, .new I, X, .refl, lk_ne (by decide) (L "self" _ rfl), lk_eq⟩ ?_)
  rintro q ρ₂ σ₂ K₂ ⟨H₂, qs₂, c, o₂, W, X₂, c₂, l1, l2⟩ k1
  obtain ⟨A₂, h₂, XA₂⟩ := X₂.at_
  subst h₂
  have ct : ∀ {b}, decide ((H₂.road.length : Int) > 0) = b → Et G (n + 1) ρ₂ σ₂ (.cmp .Gt (.bi "len" [(.attr (.nm "self") "road")]) (.cst (.int (0)))) b := fun e => e ▸ et_cmp (ev_mails XA₂ Z.hf (Nat.lt_trans X₂.small.road (by decide)) l1) ev_cst d_gt
  cases qs₂ with
  | cons m rd =>
    obtain ⟨lt, ha, hb, ph⟩ := m
    refine .inr ⟨ct (decide_eq_true (by rw [W.inv.rd]; exact Int.ofNat_lt.mpr (Nat.succ_pos _))), g_exprM Mb (ev_nm l1) XA₂.x.at_ XA₂.d.at_ rfl (es_cons ev_cst es_nil) (bring8 (n := n) (i := 0) (Nat.le_of_succ_le_succ hn) Z Mb X₂ W.inv rfl fun H₃ o₃ σ₃ hB X₃ _ c₃ => g_asg (ev_bin (ev_nm l2) ev_cst d_add) ?_)⟩
    exact (W.step hB).elim fun qs₃ z => z.elim fun q' z => g_nil (k1 q' _ _ z.1 ⟨H₃, qs₃, c + 1, o₃, z.2, X₃, c₂.trans c₃, lk_ne (by decide) l1, lk_eq⟩)
  | nil => exact .inl ⟨ct (by rw [W.fin.1]; rfl), g_ret (ev_nm l2) (hr _ _ _ (k c H₂ o₂ σ₂ W.fin.2 X₂ W.own c₂))⟩
/-- one hand -/
theorem hand8 {i : Nat} {s : Dk} (Z : L8 G CH CD) (F : Fn1 G "_law_hand" ["_law_house_here", "_law_h", "_law_hand_here"] c_law_hand f) (X : Two CH CD b x y many o σ H) (hs : H.desks[i]? = some s)
    (k : ∀ o' σ', Chg (fun _ => False) o σ o' σ' → Φ (.bool true) σ') : WC G (n + 4) (.ref f) [.ref x, .ref y, .int i] σ Φ Ψ := by
  refine F.bd rfl fun ρ K X' L hr _ _ => ?_
  obtain ⟨A, rfl, XA⟩ := X.h.at_
  obtain ⟨R, ex, rfl, XR, _⟩ := X.r
  obtain ⟨f1, M1⟩ := Z.clock
  obtain ⟨f2, M2⟩ := Z.hm.handed
  obtain ⟨fr, Fr⟩ := Z.row
  obtain ⟨fw, Wh⟩ := Z.wh
  have B := X.h.small
  have l1 := L "_law_house_here" _ rfl
  have l2 := L "_law_h" _ rfl
  have l3 := L "_law_hand_here" _ rfl
  clear L
  have z1 := Nat.lt_trans B.desks (show 1000 < 10000 by decide)
  have zg := Nat.lt_trans (B.desk s (List.mem_of_getElem? hs)).2.1 (show 9000 < 10000 by decide)
  have hs' : H.desks[Int.toNat (i : Int)]? = some s := by rw [Int.toNat_natCast]; exact hs
  refine g_asg (v := .int s.hours) (ev_methI M1 (ev_nm l1) XA.x.at_ XA.d.at_ rfl (es_cons (ev_nm l3) es_nil) fun Φ Ψ p => house_clock_ok XA Z.hm.hf M1 z1 (Int.natCast_nonneg _) hs' p) ?_
  have g1 := lk_ne (x := Str.ofString "_law_time") (a := .int s.hours) (by decide) l1
  have g2 := lk_ne (x := Str.ofString "_law_time") (a := .int s.hours) (by decide) l2
  have g3 := lk_ne (x := Str.ofString "_law_time") (a := .int s.hours) (by decide) l3
  have g4 := lk_eq (x := Str.ofString "_law_time") (a := .int s.hours) (ρ := ρ)
  clear l1 l2 l3
  generalize putA (Str.ofString "_law_time") (.int s.hours) ρ = ρ₁ at g1 g2 g3 g4
  have hD : R.D[i]? = some (R.D[i]'(by rw [XR.len]; exact (List.getElem?_eq_some_iff.mp hs).1)) := List.getElem?_eq_getElem _
  have hD' : R.D[Int.toNat (i : Int)]? = some (R.D[i]'(by rw [XR.len]; exact (List.getElem?_eq_some_iff.mp hs).1)) := by rw [Int.toNat_natCast]; exact hD
  obtain ⟨dn, S, _⟩ := XR.desk i _ s hD hs
  refine g_if0 (et_or (eo_F (et_notF (et_call (ev_call Wh (es_cons (ev_nm g4) es_nil) (whole_is Wh)))) (eo_F (et_cmp (ev_nm g4) (ev_sub (ev_rdesk XR z1 (Int.natCast_nonneg _) hD' g2 (ev_nm g3)) ev_cst (d_keyS S.d.at_ rfl)) (d_neF rfl)) eo_nil))) ?_
  rw [bl_ret]
  refine tv_call Fr ?_
  rw [sq_cons]
  refine ev_meth M2 (ev_nm g1) XA.x.at_ XA.d.at_ rfl (es_cons (ev_nm g3) es_nil) (house_handed_ok (n := n) XA Z.hm.hf M2 z1 (Int.natCast_nonneg _) hs' zg fun a ha xa => ?_)
  have XR₁ := XR.chg (.ext (T := fun _ => False) xa) fun _ => id
  obtain ⟨dn, S₁, _⟩ := XR₁.desk i _ s hD hs
  rw [sq_cons, tv_bi, sq_cons]
  refine ev_sub (ev_rdesk XR₁ z1 (Int.natCast_nonneg _) hD' g2 (ev_nm g3)) ev_cst (d_keyS S₁.d.at_ rfl) _ _ (bi_list S₁.r.lst (by rw [List.length_map]; exact Nat.le_of_lt (big_line zg)) fun d hd xd => ?_)
  rw [sq_nil]
  exact same_ok (g := AV.int) (e := PyData.int) Fr Wh (fun _ => whole_is Wh) (xd a _ (upd_same _ _ _)) (lst_new _ _ _) (Nat.lt_trans zg (by decide)) (fun _ => rfl) (fun _ _ => rfl) (hr _ _ _ (k _ _ (((Chg.new (t := (0, 0)) ha).trans (Chg.new (t := (0, 0)) hd)).over ha)))
/-- no mail stands there -/
theorem missing8 {i : Int} (hn : 11 ≤ n) (Z : L8 G CH CD) (F : Fn1 G "_law_missing" ["_law_house_here", "_law_place"] c_law_missing f) (X : Two CH CD b x y many o σ H) (hi : (H.road.length : Int) ≤ i) (k : Φ (.bool true) σ) : WC G (n + 1) (.ref f) [.ref x, .int i] σ Φ Ψ := by
  obtain ⟨n, rfl⟩ : ∃ j, n = j + 2 := by first | with_reducible exact Nat.exists_eq_add_of_le' (Nat.le_trans (by decide) hn) | exact ⟨n - 2, (by first | decide | (with_reducible first | exact lv hn | exact lv1 hn | exact lv2 hn | exact Int.natCast_nonneg _ | assumption) | omega)⟩
  refine F.bd rfl fun ρ K X' L hr _ _ => ?_
  obtain ⟨A, rfl, XA⟩ := X.h.at_
  obtain ⟨f1, M1⟩ := Z.hm.bring
  obtain ⟨C, E⟩ := Z.nm
  obtain ⟨B, hB, hk⟩ := E.bell
  rw [c_law_missing, bl_try]
  refine ⟨lv hn, g_exprM M1 (ev_nm (L "_law_house_here" _ rfl)) XA.x.at_ XA.d.at_ rfl (es_cons (ev_nm (L "_law_place" _ rfl)) es_nil) (bring_far (n := n) XA (Nat.le_of_succ_le_succ hn) Z.hm.hf M1 E.mg E.xc (Nat.lt_trans X.h.small.road (by decide)) hi ⟨B, hB, hk, fun e => ?_⟩)⟩
  exact g_ret (v := .bool true) (ev_andT (ev_bi (us := [.exn e (.ref C), .ref C]) (es_cons (ev_nm lk_eq) (es_cons (ev_gl fun P p => by rw [glob_val E.mg]; exact p) es_nil)) fun P p => bi_isiR E.ex E.k p) (ev_and1 (ev_bi (us := [.exn e (.ref C), .val (.type "ValueError")]) (es_cons (ev_nm lk_eq) (es_cons (ev_gl fun P p => glob_ve E.ve p) es_nil)) fun P p => bi_isiT E.ex E.kv p))) fun ρ₃ _ => hr _ _ _ k
/-- while c: .., where the test makes things -/
theorem g_whileX {c : Ex} {body r : List Sm} {Φ : PS} {Ψ : PX} (I : Nat → Loc → Sto → Prop) (k₀ : Nat) (i0 : I k₀ ρ σ)
    (turn : ∀ k ρ₂ σ₂ (K : PS), I k ρ₂ σ₂ → (∀ k' ρ₄ σ₄, k' < k → I k' ρ₄ σ₄ → K .next ρ₄ σ₄) → (tr G n c).t ρ₂ σ₂ (fun b σ₃ => if b = true then tss G n body ρ₂ σ₃ K Ψ else tss G n r ρ₂ σ₃ Φ Ψ) (fun c σ₃ => Ψ c ρ₂ σ₃)) : tss G n (.while_ c body :: r) ρ σ Φ Ψ := by
  rw [bl_while]
  exact ⟨I, ⟨k₀, i0⟩, fun k ρ₂ σ₂ hI => turn k ρ₂ σ₂ (fun fl ρ₄ σ₄ => match fl with | .next => ∃ k', k' < k ∧ I k' ρ₄ σ₄ | .cont => ∃ k', k' < k ∧ I k' ρ₄ σ₄ | .brk => aft G n r Φ Ψ .next ρ₄ σ₄ | .ret a => aft G n r Φ Ψ (.ret a) ρ₄ σ₄) hI fun k' ρ₄ σ₄ h1 h2 => ⟨k', h1, h2⟩⟩
theorem x_andT {a c : Ex} {as : List Ex} (h : Ev G n ρ σ a (.bool true)) (p : (tr G n (.and_ (c :: as))).v ρ σ Φ Ψ) : (tr G n (.and_ (a :: c :: as))).v ρ σ Φ Ψ := h _ Ψ ⟨true, rfl, p⟩
theorem x_and1 {a : Ex} (p : (tr G n a).v ρ σ Φ Ψ) : (tr G n (.and_ [a])).v ρ σ Φ Ψ := p
/-- all mails are brought -/
theorem rested8 (hn : 17 ≤ n) (Z : L8 G CH CD) (F : Fn1 G "_law_rested" ["_law_house_here", "_law_h"] c_law_rested f) (X : Two CH CD b x y many o σ H)
    (k : ∀ H' o' σ', Two CH CD b x y many o' σ' H' → H'.owners = H.owners → Chg (Fam b) o σ o' σ' → Φ (.bool true) σ') : WC G (n + 1) (.ref f) [.ref x, .ref y] σ Φ Ψ := by
  obtain ⟨n, rfl⟩ : ∃ j, n = j + 1 := by first | with_reducible exact Nat.exists_eq_add_of_le' (Nat.le_trans (by decide) hn) | exact ⟨n - 1, (by first | decide | (with_reducible first | exact lv hn | exact lv1 hn | exact lv2 hn | exact Int.natCast_nonneg _ | assumption) | omega)⟩
  refine F.bd rfl fun ρ K X' L hr _ _ => ?_
  obtain ⟨R, ex, rfl, XR, hx⟩ := X.r
  obtain ⟨fb, Fb⟩ := Z.brt
  obtain ⟨qs, I⟩ := X.h.inv
  refine g_asg ev_cst (g_whileX (fun q ρ₂ σ₂ => ∃ H₂ qs₂ c o₂ R₂, Way many H q H₂ qs₂ c ∧ R₂.d = R.d ∧ RHAt o₂ σ₂ (b + 1) R₂ H₂ ex ∧ Chg (·.1 = b + 1) o σ o₂ σ₂ ∧ ρ₂.lookup (Str.ofString "_law_house_here") = some (.ref x) ∧ ρ₂.lookup (Str.ofString "_law_h") = some (.ref R.d) ∧ ρ₂.lookup (Str.ofString "_law_due") = some (.int (c : Nat))) _
    ⟨H, qs, 0, o, R, .new I, rfl, XR, .refl, lk_ne (by decide) (L "_law_house_here" _ rfl), lk_ne (by decide) (L "_law_h" _ rfl), lk_eq⟩ ?_)
  clear L
  rintro q ρ₂ σ₂ K₂ ⟨H₂, qs₂, c, o₂, R₂, W, hR, X₂, c₂, l1, l2, l3⟩ k1
  have e₂ := W.own
  rw [← hR] at l2
  rw [tt_cmp]
  refine X₂.key l2 rfl _ _ ?_
  rw [tv_list, sq_nil]
  refine new_ownN (o := o₂) (0, 0) (Nat.zero_le _) fun g o₃ σ₃ _ c3 G₃ => ?_
  have X₃ := X₂.chg c3 fun _ => id
  have c₃ := c₂.trans (c3.mono fun _ z => z.elim)
  rw [cm_ne]
  refine road_nil X₃.ml.lst G₃.lst W.inv.words ⟨_, rfl, ?_⟩
  clear X₂ c₂ c3 G₃
  cases qs₂ with
  | cons m rd =>
    obtain ⟨lt, ha, hb, ph⟩ := m
    rw [W.inv.rd]
    refine g_exprC Fb (es_cons (ev_nm l2) (es_cons ev_cst es_nil)) (brought_ok (n := n) (i := 0) (lv1 hn) Z.rf Fb X₃ W.inv (by rw [e₂]; exact Nat.le_succ_of_le X.ol) X.h.d40 rfl fun R₄ H₄ o₄ σ₄ hB hR₄ c4 X₄ => g_asg (ev_bin (ev_nm l3) ev_cst d_add) ?_)
    exact (W.step hB).elim fun qs₃ z => z.elim fun q' z => g_nil (k1 q' _ _ z.1 ⟨H₄, qs₃, c + 1, o₄, R₄, z.2, hR₄.trans hR, X₄, c₃.trans c4, lk_ne (by decide) l1, lk_ne (by decide) (hR ▸ l2), lk_eq⟩)
  | nil =>
    obtain ⟨er, hR2⟩ := W.fin
    have I₂ := W.inv
    rw [er]
    have XH := X.h.chg c₃ fun j z => absurd z (Nat.ne_of_lt (Nat.lt_succ_self b))
    obtain ⟨A, hA, XA⟩ := XH.at_
    rw [← hA] at l1
    obtain ⟨fr, Mr⟩ := Z.rest
    obtain ⟨fw, Wh⟩ := Z.wh
    obtain ⟨fm, Mm⟩ := Z.hm.mails
    refine g_asgM Mr (ev_nm l1) XA.x.at_ XA.d.at_ rfl es_nil (rest8 (n := n) (x := A.x) (lv1 hn) Z.hm Mr (hA ▸ XH) fun c' H₄ o₄ σ₄ h4 X₄ e4 c4 => ?_)
    obtain ⟨rfl, rfl⟩ := h4.one hR2
    obtain ⟨A₄, hA₄, XA₄⟩ := X₄.at_
    rw [← hA₄] at l1
    rw [bl_ret]
    refine x_andT (ev_call Wh (es_cons (ev_nm lk_eq) es_nil) (whole_is Wh)) (x_andT (ev_cmp (ev_nm lk_eq) (ev_nm (lk_ne (by decide) l3)) (d_eqT rfl)) (x_and1 ?_))
    rw [tv_cmp]
    refine ev_meth Mm (ev_nm (lk_ne (by decide) l1)) XA₄.x.at_ XA₄.d.at_ rfl es_nil (mails_ok (n := n) XA₄ Z.hm.hf Mm (Nat.lt_trans X₄.small.road (by decide)) fun d hd xd => ?_)
    rw [tv_list, sq_nil]
    refine new_lst (Nat.zero_le _) fun g hg xg => ?_
    rw [cm_eq]
    refine road_nil (ms := H₄.road) (xg.lst (lst_new _ _ _)) (lst_new _ _ _) I₂.words ?_
    have c5 := (Chg.new (T := fun _ => False) (o := o₄) (t := (0, 0)) (c := .list (H₄.road.map mailAV)) hd).trans (Chg.new (t := (0, 0)) (c := .list []) hg)
    have c45 := c4.trans (c5.mono fun _ z => z.elim)
    rw [show H₄.road.isEmpty = true by rw [er]; rfl]
    exact hr _ _ _ (k H₄ _ _ ⟨(hA ▸ X₄ : HOk CH CD b x many o₄ σ₄ H₄).chg c5 fun _ => id, ⟨R₂, ex, hR, X₃.chg c45 fun j z => absurd z (Nat.ne_of_gt (Nat.lt_succ_self b)), (hx.chg c₃ fun z => absurd z (Nat.ne_of_gt (Nat.lt_succ_self (b + 1)))).chg c45 fun z => absurd z (Nat.ne_of_gt (Nat.lt_succ_of_lt (Nat.lt_succ_self b)))⟩, by rw [e₂]; exact X.ol⟩ e₂ ((c₃.mono fun _ z => .inr (.inl z)).trans (c45.mono fun _ z => .inl z)))
end
end Mine
set_option maxRecDepth 100000
set_option linter.unusedSimpArgs false
set_option linter.unusedVariables false
namespace Mine
open PySem PyProof.Rows

noncomputable def c_law_sign : List Sm := [.asg "_law_some" (.cst (.str " !\"#$&'()*+,-./0123456789:;<=>?@ABCDEFGHIJKLMNOPQRSTUVWXYZ[\\]^_`")), .asg "_law_some" (.bin .Add (.nm "_law_some") (.cst (.str "abcdefghijklmnopqrstuvwxyz{|}~"))), .ret (some (.sub (.nm "_law_some") (.bin .Mod (.nm "_law_cell") (.cst (.int (94))))))]
noncomputable def cText : Ex := .bin .Add (.call "_law_sign" [(.nm "_law_cell")]) (.sub (.list [(.bin .Mult (.call "_law_sign" [(.bin .FloorDiv (.nm "_law_kind") (.cst (.int (20))))]) (.bin .Mod (.nm "_law_cell") (.cst (.int (99))))), (.cst (.str ""))]) (.bi "min" [(.cst (.int (1))), (.bin .Mod (.bin .FloorDiv (.nm "_law_kind") (.cst (.int (4)))) (.cst (.int (5))))]))
noncomputable def cSend : List Sm := [.asg "_law_hand_here" (.bin .Mod (.nm "_law_cell") (.bi "len" [(.sub (.nm "_law_h") (.cst (.str "desks")))])), .asg "_law_text" cText, .asg "_law_letter_here" (.call "_law_sent" [(.nm "_law_h"), (.nm "_law_hand_here"), (.nm "_law_text")]), .asg "_law_found" (.meth (.nm "_law_house_here") "send" [(.nm "_law_hand_here"), (.nm "_law_text")]), .asg "_law_good" (.and_ [(.call "_law_whole" [(.nm "_law_found")]), (.cmp .Eq (.nm "_law_found") (.nm "_law_letter_here")), (.call "_law_hand" [(.nm "_law_house_here"), (.nm "_law_h"), (.nm "_law_hand_here")])])]
noncomputable def cBring : List Sm := [.asg "_law_place" (.bin .Mod (.nm "_law_cell") (.bi "len" [(.sub (.nm "_law_h") (.cst (.str "mails")))])), .asg "_law_mail_here" (.call "_law_brought" [(.nm "_law_h"), (.nm "_law_place")]), .asg "_law_found" (.meth (.nm "_law_house_here") "bring" [(.nm "_law_place")]), .asg "_law_letter_here" (.sub (.nm "_law_mail_here") (.cst (.int (1)))), .asg "_law_good" (.and_ [(.call "_law_mail" [(.nm "_law_found")]), (.cmp .Eq (.nm "_law_found") (.nm "_law_mail_here")), (.call "_law_hand" [(.nm "_law_house_here"), (.nm "_law_h"), (.sub (.nm "_law_mail_here") (.cst (.int (2))))]), (.call "_law_hand" [(.nm "_law_house_here"), (.nm "_law_h"), (.sub (.nm "_law_mail_here") (.cst (.int (3))))])])]
noncomputable def cTail : List Sm := [.ite (.or_ [(.not_ (.nm "_law_good")), (.not_ (.call "_law_whole" [(.meth (.nm "_law_house_here") "letters" [])])), (.cmp .NotEq (.meth (.nm "_law_house_here") "letters" []) (.bi "len" [(.sub (.nm "_law_h") (.cst (.str "sent")))]))]) [.ret (some (.cst (.bool false)))] [], .asg "_law_found" (.meth (.nm "_law_house_here") "mails" []), .ite (.cmp .NotEq (.meth (.nm "_law_h") "get" [(.cst (.str "told")), (.list [])]) (.list [])) [.ret (some (.cst (.bool false)))] [], .sitem (.nm "_law_h") (.cst (.str "told")) (.nm "_law_found"), .ret (some (.and_ [(.call "_law_letter" [(.nm "_law_house_here"), (.nm "_law_h"), (.nm "_law_letter_here")]), (.call "_law_mails" [(.nm "_law_found"), (.bi "list" [(.sub (.nm "_law_h") (.cst (.str "mails")))])])]))]
noncomputable def c_law_step : List Sm := .ite (.or_ [(.cmp .Eq (.bin .Mod (.nm "_law_kind") (.cst (.int (4)))) (.cst (.int (0)))), (.cmp .Eq (.sub (.nm "_law_h") (.cst (.str "mails"))) (.list []))]) cSend [.ite (.cmp .Eq (.bin .Mod (.bin .FloorDiv (.nm "_law_kind") (.cst (.int (4)))) (.cst (.int (9)))) (.cst (.int (0)))) [.ret (some (.call "_law_missing" [(.nm "_law_house_here"), (.bin .Add (.bi "len" [(.sub (.nm "_law_h") (.cst (.str "mails")))]) (.bin .Mod (.nm "_law_cell") (.cst (.int (9)))))]))] [.ite (.and_ [(.cmp .Eq (.bin .Mod (.bin .FloorDiv (.nm "_law_kind") (.cst (.int (4)))) (.cst (.int (9)))) (.cst (.int (1)))), (.cmp .Lt (.bi "len" [(.sub (.nm "_law_h") (.cst (.str "mails")))]) (.cst (.int (240))))]) [.ret (some (.call "_law_rested" [(.nm "_law_house_here"), (.nm "_law_h")]))] cBring]] :: cTail
/-- what a step reaches -/
structure S8 (G : PG) (CH CD : Addr) : Prop where
  z : L8 G CH CD
  sign : ∃ f, Fn1 G "_law_sign" ["_law_cell"] c_law_sign f
  hand : ∃ f, Fn1 G "_law_hand" ["_law_house_here", "_law_h", "_law_hand_here"] c_law_hand f
  miss : ∃ f, Fn1 G "_law_missing" ["_law_house_here", "_law_place"] c_law_missing f
  let_ : ∃ f, Fn1 G "_law_letter" ["_law_house_here", "_law_h", "_law_letter_here"] c_law_letter f
  rst : ∃ f, Fn1 G "_law_rested" ["_law_house_here", "_law_h"] c_law_rested f
section
variable {G : PG} {n : Nat} {ρ : Loc} {σ σ' : Sto} {Φ : PE} {Ψ : PY} {P : Bool → Sto → Prop} {f : Addr} {o o' : Own} {a e : Ex} {as : List Ex} {b : Nat} {A : RH} {H : Hs} {ex : List (Str × AV)} {t : Tag}
theorem d_cat {s t : Str} (h : s.length + t.length ≤ sizeLine) : BinIs σ .Add (.str s) (.str t) (.str (s ++ t)) := fun Φ p => ⟨h, p⟩
theorem sign_is (F : Fn1 G "_law_sign" ["_law_cell"] c_law_sign f) (c : Int) : ∃ t : Str, t.length = 1 ∧ ∀ {n σ}, CallIs G (n + 1) f [.int c] σ (.str t) := ⟨_, rfl, fun Φ Ψ p => F.bd rfl fun ρ K X L hr _ _ => by
  have fm := fmod_in c (m := 94) (by decide)
  refine g_asg ev_cst (g_asg (ev_bin (ev_nm lk_eq) ev_cst (d_cat (by decide +kernel))) (g_ret (ev_sub (ev_nm lk_eq) (ev_bin (ev_nm (lk_ne (by decide) (lk_ne (by decide) (L "_law_cell" _ rfl)))) ev_cst (d_mod (by decide))) fun Φ p => sb_str fm.1 (Int.lt_of_lt_of_le fm.2 (by decide +kernel)) (Int.lt_trans fm.2 (by decide)) p) (hr _ _ _ p)))⟩
/-- a text -/
theorem text8 {kind cell : Int} (hn : 11 ≤ n) (F : Fn1 G "_law_sign" ["_law_cell"] c_law_sign f) (l1 : ρ.lookup (Str.ofString "_law_cell") = some (.int cell)) (l2 : ρ.lookup (Str.ofString "_law_kind") = some (.int kind)) (k : ∀ t o' σ', Chg (fun _ => False) o σ o' σ' → Φ (.str t) σ') : (tr G n cText).v ρ σ Φ Ψ := by
  obtain ⟨n, rfl⟩ : ∃ j, n = j + 1 := by first | with_reducible exact Nat.exists_eq_add_of_le' (Nat.le_trans (by decide) hn) | exact ⟨n - 1, (by first | decide | (with_reducible first | exact lv hn | exact lv1 hn | exact lv2 hn | exact Int.natCast_nonneg _ | assumption) | omega)⟩
  obtain ⟨t1, h1, e1⟩ := sign_is F cell
  obtain ⟨t2, h2, e2⟩ := sign_is F (Int.fdiv kind 20)
  obtain ⟨p1, p2⟩ := fmod_in cell (m := 99) (by decide)
  obtain ⟨q1, q2⟩ := fmod_in (Int.fdiv kind 4) (m := 5) (by decide)
  have hm : (Txt.mul t2 (Int.fmod cell 99)).length ≤ 1 * 99 := len_mul_leN (Nat.le_of_eq h2) (Int.le_of_lt p2)
  refine x_bin (ev_call F (es_cons (ev_nm l1) es_nil) e1) (x_subL (x_list (o := o) (us := [.str (Txt.mul t2 (Int.fmod cell 99)), .str (Str.ofString "")]) (0, 0) (es_cons (ev_bin (ev_call F (es_cons (ev_bin (ev_nm l2) ev_cst (d_fdiv (by decide) (by decide))) es_nil) e2) (ev_bin (ev_nm l1) ev_cst (d_mod (by decide))) fun Φ p => bn_mulS p1 (Int.le_of_lt (Int.lt_trans p2 (by decide))) (by rw [h2]; decide) p) (es_cons ev_cst es_nil)) (Nat.le_of_ble_eq_true rfl) fun g o₁ σ₁ c1 A1 => ?_))
  refine ev_bi (us := [.int 1, .int (Int.fmod (Int.fdiv kind 4) 5)]) (es_cons ev_cst (es_cons (ev_bin (ev_bin (ev_nm l2) ev_cst (d_fdiv (by decide) (by decide))) ev_cst (d_mod (by decide))) es_nil)) (fun P p => bi_min2 (lv hn) p) _ _ ?_
  refine sb_any (P := fun v => ∃ t : Str, v = .str t ∧ t.length ≤ 99) A1.lst (by first | decide | (with_reducible first | exact lv hn | exact lv1 hn | exact lv2 hn | exact Int.natCast_nonneg _) | omega) (show min (1 : Int) _ < (2 : Nat) by omega) (Nat.le_of_ble_eq_true rfl) (fun v hv => ?_) fun v hv => ?_
  · rcases List.mem_cons.mp hv with rfl | hv
    · exact ⟨_, rfl, hm⟩
    · rw [List.mem_singleton.mp hv]; exact ⟨_, rfl, by decide +kernel⟩
  · obtain ⟨t, rfl, ht⟩ := hv
    exact d_cat (by rw [h1]; exact Nat.le_trans (Nat.add_le_add_left ht 1) (by decide)) _ (k _ o₁ σ₁ c1)
/-- d.get('told', []) != [] -/
theorem x_get (X : RHAt o σ b A H ex) (E : ExT t o σ ex) (l1 : ρ.lookup (Str.ofString "_law_h") = some (.ref A.d)) (p : ∀ o' σ', Chg (fun _ => False) o σ o' σ' → P false σ') : (tr G n (.cmp .NotEq (.meth (.nm "_law_h") "get" [(.cst (.str "told")), (.list [])]) (.list []))).t ρ σ P Ψ := by
  rw [tt_cmp, tv_meth]
  refine ev_nm l1 _ _ ?_
  unfold methV
  simp only [X.d.at_]
  refine ⟨trivial, ?_⟩
  rw [sq_cons, tv_cst, sq_cons]
  refine x_listN (o := o) t es_nil (Nat.le_of_ble_eq_true rfl) fun c o₁ σ₁ hb c1 B1 => ?_
  refine ⟨_, Str.ofString "told", .ref c, (X.chg c1 fun _ => id).d.at_, rfl, ?_⟩
  refine x_listN (o := o₁) t es_nil (Nat.le_of_ble_eq_true rfl) fun d o₂ σ₂ hd c2 D2 => ?_
  obtain ⟨g, eg, hg⟩ : ∃ g, ((rhC A ex).lookup (Str.ofString "told")).getD (.ref c) = .ref g ∧ At o₂ σ₂ t g (.list []) := by
    rcases E with rfl | ⟨g, rfl, hg⟩
    · exact ⟨c, rfl, B1.chg c2 id⟩
    · exact ⟨g, rfl, (hg.chg c1 id).chg c2 id⟩
  rw [eg]
  exact eq_lst (Φ := fun q => ∃ b, truthV σ₂ (.bool (!q)) = some b ∧ P b σ₂) hg.lst D2.lst rfl rfl ⟨false, rfl, p o₂ σ₂ (c1.trans c2)⟩
theorem put_told (E : ExT t o σ ex) (v : AV) : putI (Str.ofString "told") v (rhC A ex) = rhC A [(Str.ofString "told", v)] := by
  rcases E with rfl | ⟨g, rfl, _⟩ <;> simp [rhC, putI, strQ]
theorem g_iteX {c : Ex} {t f r : List Sm} {Φ : PS} {Ψ : PX} (p : (tr G n c).t ρ σ (fun b σ₁ => if b = true then tss G n t ρ σ₁ (aft G n r Φ Ψ) Ψ else tss G n f ρ σ₁ (aft G n r Φ Ψ) Ψ) (fun c σ₁ => Ψ c ρ σ₁)) : tss G n (.ite c t f :: r) ρ σ Φ Ψ := p
theorem g_asgX {y : Str} {r : List Sm} {Φ : PS} {Ψ : PX} (p : (tr G n e).v ρ σ (fun v σ₁ => tss G n r (putA y v ρ) σ₁ Φ Ψ) (fun c σ₁ => Ψ c ρ σ₁)) : tss G n (.asg y e :: r) ρ σ Φ Ψ := p
theorem t_orF {c : Ex} (ha : Et G n ρ σ a false) (p : (tr G n c).t ρ σ (fun q σ₁ => if q = true then P true σ₁ else P false σ₁) Ψ) : (tr G n (.or_ [a, c])).t ρ σ P Ψ := ha _ _ p
end
section
variable {G : PG} {n : Nat} {ρ : Loc} {σ σ' : Sto} {K : PS} {X' : PX} {CH CD x y f : Addr} {o o' : Own} {b many : Nat} {H : Hs} {kind cell : Int}
/-- the step's end -/
theorem tail8 {l : Nat} (hn : 12 ≤ n) (Z : S8 G CH CD) (X : Two CH CD b x y many o σ H) (hl : l < H.owners.length) (l1 : ρ.lookup (Str.ofString "_law_house_here") = some (.ref x)) (l2 : ρ.lookup (Str.ofString "_law_h") = some (.ref y)) (l3 : ρ.lookup (Str.ofString "_law_letter_here") = some (.int l)) (l4 : ρ.lookup (Str.ofString "_law_good") = some (.bool true))
    (k : ∀ ρ' o' σ', Two CH CD b x y many o' σ' H → Chg (Fam b) o σ o' σ' → K (.ret (.bool true)) ρ' σ') : tss G n cTail ρ σ K X' := by
  obtain ⟨n, rfl⟩ : ∃ j, n = j + 4 := by first | with_reducible exact Nat.exists_eq_add_of_le' (Nat.le_trans (by decide) hn) | exact ⟨n - 4, (by first | decide | (with_reducible first | exact lv hn | exact lv1 hn | exact lv2 hn | exact Int.natCast_nonneg _ | assumption) | omega)⟩
  obtain ⟨A, rfl, XA⟩ := X.h.at_
  obtain ⟨R, ex, rfl, XR, hx⟩ := X.r
  obtain ⟨fw, Wh⟩ := Z.z.wh
  obtain ⟨fl, Ml⟩ := Z.z.letters
  obtain ⟨fm, Mm⟩ := Z.z.hm.mails
  obtain ⟨fe, Le⟩ := Z.let_
  obtain ⟨fs, Fs⟩ := Z.z.mls
  obtain ⟨fq, Fq⟩ := Z.z.ml
  obtain ⟨fk, Fk⟩ := Z.z.mrk
  have B := X.h.small
  have z2 := Nat.lt_trans B.owners (show 9000 < 10000 by decide)
  have elet : Ev G (n + 4) ρ σ (.meth (.nm "_law_house_here") "letters" []) (.int H.owners.length) := ev_methI Ml (ev_nm l1) XA.x.at_ XA.d.at_ rfl es_nil fun Φ Ψ p => letters_ok XA Z.z.hm.hf Ml z2 p
  have esent : Ev G (n + 4) ρ σ (.bi "len" [(.sub (.nm "_law_h") (.cst (.str "sent")))]) (.int H.owners.length) := by
    rw [← XR.lenS]; exact ev_bi (es_cons (XR.key l2 rfl) es_nil) (d_lenM XR.se.lst (by rw [XR.lenS]; exact Nat.lt_trans z2 (by decide)))
  refine g_if0 (et_or (eo_F (et_notF (et_nm l4)) (eo_F (et_notF (et_call (ev_call Wh (es_cons elet es_nil) (whole_is Wh)))) (eo_F (et_cmp elet esent (d_neF rfl)) eo_nil)))) ?_
  clear elet esent
  refine g_asgM Mm (ev_nm l1) XA.x.at_ XA.d.at_ rfl es_nil (mails_ok (n := n + 3) XA Z.z.hm.hf Mm (Nat.lt_trans B.road (by decide)) fun a ha _ => ?_)
  have c1 : Chg (fun _ => False) o σ (setO o a (b + 2, 0)) (upd σ a (.list (H.road.map mailAV))) := .new ha
  have A1 : At (setO o a (b + 2, 0)) (upd σ a (.list (H.road.map mailAV))) (b + 2, 0) a (.list (H.road.map mailAV)) := .new
  generalize setO o a (b + 2, 0) = o₁ at c1 A1
  generalize upd σ a (.list (H.road.map mailAV)) = σ₁ at c1 A1
  have g1 := lk_ne (x := Str.ofString "_law_found") (a := .ref a) (by decide) l1
  have g2 := lk_ne (x := Str.ofString "_law_found") (a := .ref a) (by decide) l2
  have g3 := lk_ne (x := Str.ofString "_law_found") (a := .ref a) (by decide) l3
  have g4 := lk_eq (x := Str.ofString "_law_found") (a := .ref a) (ρ := ρ)
  clear l1 l2 l3 l4
  generalize putA (Str.ofString "_law_found") (.ref a) ρ = ρ₁ at g1 g2 g3 g4
  refine g_iteX (x_get (XR.chg c1 fun _ => id) (hx.chg c1 id) g2 fun o₂ σ₂ c2 => ?_)
  have c₂ := c1.trans c2
  have XR₂ := XR.chg c₂ fun _ => id
  have A2 := A1.chg c2 id
  clear c1 c2 A1
  refine g_sitem (ev_nm g4) (ev_nm g2) ev_cst (si_dictS XR₂.d.at_ ?_ ?_)
  · rcases hx with rfl | ⟨_, rfl, _⟩ <;> exact Nat.le_of_ble_eq_true rfl
  rw [put_told hx]
  obtain ⟨XR₃, c3⟩ := XR₂.setEx [(Str.ofString "told", .ref a)]
  generalize upd σ₂ R.d (.dictS (rhC R [(Str.ofString "told", .ref a)])) = σ₃ at XR₃ c3
  have XH₃ := (X.h.chg c₂ fun _ => id).chg c3 fun j z => absurd z (Nat.ne_of_lt (Nat.lt_succ_self b))
  have A3 := A2.chg c3 fun z => absurd z (Nat.ne_of_gt (Nat.lt_succ_self (b + 1)))
  have c₃ : Chg (Fam b) o σ o₂ σ₃ := (c₂.mono fun _ z => z.elim).trans (c3.mono fun _ z => .inr (.inl z))
  clear c3 c₂
  have X₃ : ∀ {o' : Own} {σ' : Sto}, Chg (· = (b + 2, 0)) o₂ σ₃ o' σ' → At o' σ' (b + 2, 0) a (.list []) → Two CH CD b A.x R.d many o' σ' H := fun c z => ⟨XH₃.chg c fun j e => absurd (congrArg Prod.fst e) (Nat.ne_of_lt (Nat.lt_succ_of_lt (Nat.lt_succ_self b))), ⟨R, _, rfl, XR₃.chg c fun j e => absurd (congrArg Prod.fst e) (Nat.ne_of_lt (Nat.lt_succ_self (b + 1))), .inr ⟨a, rfl, z⟩⟩, X.ol⟩
  rw [bl_ret]
  refine x_andT (ev_call Le (es_cons (ev_nm g1) (es_cons (ev_nm g2) (es_cons (ev_nm g3) es_nil))) (letter8 Z.z Le XH₃ XR₃ hl)) (x_and1 (tv_call Fs ?_))
  rw [sq_cons]
  refine ev_nm g4 _ _ ?_
  rw [sq_cons, tv_bi, sq_cons]
  refine XR₃.key g2 rfl _ _ (bi_list XR₃.ml.lst (by rw [List.length_map]; exact Nat.le_of_lt (Nat.lt_trans B.road (by decide))) fun d hd xd => ?_)
  rw [sq_nil]
  have A4 := A3.fresh (u := (b + 2, 0)) (d := .list (H.road.map mailAV)) hd
  have c4 := (Chg.new (T := (· = (b + 2, 0))) (o := o₂) (t := (b + 2, 0)) (c := .list (H.road.map mailAV)) hd).trans (Chg.put (c := .list []) A4 rfl)
  exact same_ok (n := n + 3) (g := mailAV) (e := fun m => mailD m.1 m.2.1 m.2.2.1 m.2.2.2.1 m.2.2.2.2) Fs Fq (fun _ => mail_is Fq Fk Wh) A4.at_ (lst_new _ _ _) (Nat.lt_trans B.road (by decide)) (fun _ => datum_mail _ _ _ _ _) (fun m hm => can_mail (X.h.words m hm)) (k _ _ _ (X₃ c4 A4.put) (c₃.trans (c4.mono fun _ z => .inr (.inr (congrArg Prod.fst z)))))
end
end Mine
set_option maxRecDepth 100000
set_option linter.unusedSimpArgs false
set_option linter.unusedVariables false
namespace Mine
open PySem PyProof.Rows

section
variable {G : PG} {n : Nat} {ρ : Loc} {σ σ' : Sto} {K : PS} {X' : PX} {CH CD x y f : Addr} {o o' o₂ o₃ : Own} {σ₂ σ₃ : Sto} {b many : Nat} {H H' : Hs} {kind cell : Int}
theorem Two.of {R : RH} {ex : List (Str × AV)} (hx : ExT (b + 2, 0) o σ ex) (XR : RHAt o₂ σ₂ (b + 1) R H' ex) (c2 : Chg (·.1 = b + 1) o σ o₂ σ₂) (XH : HOk CH CD b x many o₃ σ₃ H') (c3 : Chg (·.1 = b) o₂ σ₂ o₃ σ₃) (ho : H'.owners.length ≤ 399) : Two CH CD b x R.d many o₃ σ₃ H' ∧ Chg (Fam b) o σ o₃ σ₃ :=
  ⟨⟨XH, ⟨R, ex, rfl, XR.chg c3 fun j z => absurd z (Nat.ne_of_gt (Nat.lt_succ_self b)), (hx.chg c2 fun z => absurd z (Nat.ne_of_gt (Nat.lt_succ_self (b + 1)))).chg c3 fun z => absurd z (Nat.ne_of_gt (Nat.lt_succ_of_lt (Nat.lt_succ_self b)))⟩, ho⟩, (c2.mono fun _ z => .inr (.inl z)).trans (c3.mono fun _ z => .inl z)⟩
/-- a letter is sent by both -/
theorem sent8 {i : Nat} {text : Str} {fs fm : Addr} {s : Dk} {Φ : PE} {Ψ : PY} (hn : 16 ≤ n) (Z : L8 G CH CD) (Fs : Fn1 G "_law_sent" ["_law_h", "_law_hand_here", "_law_text"] c_law_sent fs) (Ms : Mt G CH "send" ["self", "hand", "text"] cHouse_send fm) (X : Two CH CD b x y many o σ H) (ho : H.owners.length < 399) (hs : H.desks[i]? = some s)
    (k : ∀ σ₂ A o₂, A.x = x → HouseAt CH CD o₂ σ₂ b A H → (∀ Φ' Ψ', (∀ H' o₃ σ₃, Two CH CD b x y many o₃ σ₃ H' → H'.owners.length = H.owners.length + 1 → H'.desks.length = many → Chg (Fam b) o σ o₃ σ₃ → Φ' (.int H.owners.length) σ₃) → WC G n (.ref fm) [.ref A.x, .int i, .str text] σ₂ Φ' Ψ') → Φ (.int H.owners.length) σ₂) : WC G n (.ref fs) [.ref y, .int i, .str text] σ Φ Ψ := by
  obtain ⟨n, rfl⟩ : ∃ j, n = j + 1 := by first | with_reducible exact Nat.exists_eq_add_of_le' (Nat.le_trans (by decide) hn) | exact ⟨n - 1, (by first | decide | (with_reducible first | exact lv hn | exact lv1 hn | exact lv2 hn | exact Int.natCast_nonneg _ | assumption) | omega)⟩
  obtain ⟨R, ex, rfl, XR, hx⟩ := X.r
  obtain ⟨qs, I⟩ := X.h.inv
  refine sent_ok (lv1 hn) Z.rf Fs XR I (by first | decide | (with_reducible first | exact lv hn | exact lv1 hn | exact lv2 hn | exact Int.natCast_nonneg _) | omega) X.h.d40 hs fun R' H' o₂ σ₂ hC hR c2 XR₂ => ?_
  have XH := X.h.chg c2 fun j z => absurd z (Nat.ne_of_lt (Nat.lt_succ_self b))
  obtain ⟨A, rfl, XA⟩ := XH.at_
  refine k σ₂ A o₂ rfl XA fun Φ' Ψ' k' => send8 (Nat.le_of_succ_le_succ hn) Z.hm Ms XH hs (Nat.lt_trans ho (by decide)) fun H'' o₃ σ₃ hC' X₃ e3 c3 => ?_
  have := hC.one hC'
  subst this
  have hl : H'.owners.length = H.owners.length + 1 := by rw [e3, List.length_append]; rfl
  obtain ⟨W, c⟩ := Two.of hx XR₂ c2 X₃ c3 (by rw [hl]; exact ho)
  rw [hR] at W
  exact k' H' o₃ σ₃ W hl X₃.dl c
theorem sendS (hn : 18 ≤ n) (Z : S8 G CH CD) (X : Two CH CD b x y many o σ H) (h1 : 1 ≤ many) (ho : H.owners.length < 399) (l1 : ρ.lookup (Str.ofString "_law_house_here") = some (.ref x)) (l2 : ρ.lookup (Str.ofString "_law_h") = some (.ref y)) (l3 : ρ.lookup (Str.ofString "_law_kind") = some (.int kind)) (l4 : ρ.lookup (Str.ofString "_law_cell") = some (.int cell))
    (k : ∀ (l : Nat) H' ρ' o' σ', Two CH CD b x y many o' σ' H' → H'.owners.length ≤ H.owners.length + 1 → Chg (Fam b) o σ o' σ' → l < H'.owners.length → ρ'.lookup (Str.ofString "_law_house_here") = some (.ref x) → ρ'.lookup (Str.ofString "_law_h") = some (.ref y) → ρ'.lookup (Str.ofString "_law_letter_here") = some (.int l) → ρ'.lookup (Str.ofString "_law_good") = some (.bool true) → K .next ρ' σ') : tss G n cSend ρ σ K X' := by
  obtain ⟨n, rfl⟩ : ∃ j, n = j + 4 := by first | with_reducible exact Nat.exists_eq_add_of_le' (Nat.le_trans (by decide) hn) | exact ⟨n - 4, (by first | decide | (with_reducible first | exact lv hn | exact lv1 hn | exact lv2 hn | exact Int.natCast_nonneg _ | assumption) | omega)⟩
  obtain ⟨fg, Sg⟩ := Z.sign
  obtain ⟨fs, Fs⟩ := Z.z.snt
  obtain ⟨fm, Ms⟩ := Z.z.hm.send
  obtain ⟨fw, Wh⟩ := Z.z.wh
  obtain ⟨fh, Fh⟩ := Z.hand
  have z1 : H.desks.length < 10000 := Nat.lt_trans X.h.small.desks (by decide)
  have hpos : 0 < (H.desks.length : Int) := by rw [X.h.dl]; exact Int.ofNat_lt.mpr h1
  have fm' := fmod_in cell hpos
  obtain ⟨i, hi⟩ := Int.eq_ofNat_of_zero_le fm'.1
  have hil : i < H.desks.length := Int.ofNat_lt.mp (by rw [← hi]; exact fm'.2)
  have hs : H.desks[i]? = some H.desks[i] := List.getElem?_eq_getElem hil
  refine g_asg (v := .int i) ?_ ?_
  · obtain ⟨R, ex, rfl, XR, hx⟩ := X.r
    rw [← hi]
    exact ev_bin (ev_nm l4) (ev_rhands XR z1 l2) (d_mod (Ne.symm (Int.ne_of_lt hpos)))
  refine g_asgX (text8 (o := o) (lv hn) Sg (lk_ne (by decide) l4) (lk_ne (by decide) l3) fun t o₁ σ₁ c1 => ?_)
  have g1 := lk_ne (x := Str.ofString "_law_text") (a := .str t) (by decide) (lk_ne (x := Str.ofString "_law_hand_here") (a := .int i) (by decide) l1)
  have g2 := lk_ne (x := Str.ofString "_law_text") (a := .str t) (by decide) (lk_ne (x := Str.ofString "_law_hand_here") (a := .int i) (by decide) l2)
  have g3 := lk_ne (x := Str.ofString "_law_text") (a := .str t) (by decide) (lk_eq (x := Str.ofString "_law_hand_here") (a := .int i) (ρ := ρ))
  have g4 := lk_eq (x := Str.ofString "_law_text") (a := .str t) (ρ := putA (Str.ofString "_law_hand_here") (.int i) ρ)
  clear l1 l2 l3 l4
  generalize putA (Str.ofString "_law_text") (.str t) (putA (Str.ofString "_law_hand_here") (.int i) ρ) = ρ₁ at g1 g2 g3 g4
  refine g_asgC Fs (es_cons (ev_nm g2) (es_cons (ev_nm g3) (es_cons (ev_nm g4) es_nil))) (sent8 (lv hn) Z.z Fs Ms (X.new c1) ho hs fun σ₂ A o₂ hA XA wc => ?_)
  rw [← hA] at g1
  refine g_asgM Ms (ev_nm (lk_ne (by decide) g1)) XA.x.at_ XA.d.at_ rfl (es_cons (ev_nm (lk_ne (by decide) g3)) (es_cons (ev_nm (lk_ne (by decide) g4)) es_nil)) (wc _ _ fun H' o₃ σ₃ W hl hd c => ?_)
  rw [hA] at g1
  have hs' : H'.desks[i]? = some (H'.desks[i]'(by rw [hd, ← X.h.dl]; exact hil)) := List.getElem?_eq_getElem _
  refine g_asgX (x_andT (ev_call Wh (es_cons (ev_nm lk_eq) es_nil) (whole_is Wh)) (x_andT (ev_cmp (ev_nm lk_eq) (ev_nm (lk_ne (by decide) lk_eq)) (d_eqT rfl)) (x_and1 (tv_call Fh (es_cons (ev_nm (lk_ne (by decide) (lk_ne (by decide) g1))) (es_cons (ev_nm (lk_ne (by decide) (lk_ne (by decide) g2))) (es_cons (ev_nm (lk_ne (by decide) (lk_ne (by decide) g3))) es_nil)) _ _ (hand8 (n := n) Z.z Fh W hs' fun o₄ σ₄ c4 => ?_))))))
  exact g_nil (k H.owners.length H' _ o₄ σ₄ (W.new c4) (Nat.le_of_eq hl) (((c1.mono fun _ z => z.elim).trans c).trans (c4.mono fun _ z => z.elim)) (by rw [hl]; exact Nat.lt_succ_self _) (lk_ne (by decide) (lk_ne (by decide) (lk_ne (by decide) g1))) (lk_ne (by decide) (lk_ne (by decide) (lk_ne (by decide) g2))) (lk_ne (by decide) (lk_ne (by decide) lk_eq)) lk_eq)
theorem mail_in {l a h : Nat} {ph : Ph} (ha : a < many) (hh : h < many) : ∃ (w : Str) (i j : Nat) (p : Option Mark), mailOf l a h ph = (w, (l : Int), (i : Int), (j : Int), p) ∧ i < many ∧ j < many := by
  cases ph with
  | letter => exact ⟨_, a, h, _, rfl, ha, hh⟩
  | number p => exact ⟨_, h, a, _, rfl, hh, ha⟩
  | mark m => exact ⟨_, a, h, _, rfl, ha, hh⟩
theorem x_andX {a c : Ex} {as : List Ex} {Φ : PE} {Ψ : PY} (p : (tr G n a).v ρ σ (fun v σ₁ => ∃ q, truthV σ₁ v = some q ∧ if q = true then (tr G n (.and_ (c :: as))).v ρ σ₁ Φ Ψ else Φ v σ₁) Ψ) : (tr G n (.and_ (a :: c :: as))).v ρ σ Φ Ψ := p
theorem bringS (hn : 18 ≤ n) (Z : S8 G CH CD) (X : Two CH CD b x y many o σ H) (hr : 0 < H.road.length) (l1 : ρ.lookup (Str.ofString "_law_house_here") = some (.ref x)) (l2 : ρ.lookup (Str.ofString "_law_h") = some (.ref y)) (l4 : ρ.lookup (Str.ofString "_law_cell") = some (.int cell))
    (k : ∀ (l : Nat) H' ρ' o' σ', Two CH CD b x y many o' σ' H' → H'.owners.length ≤ H.owners.length + 1 → Chg (Fam b) o σ o' σ' → l < H'.owners.length → ρ'.lookup (Str.ofString "_law_house_here") = some (.ref x) → ρ'.lookup (Str.ofString "_law_h") = some (.ref y) → ρ'.lookup (Str.ofString "_law_letter_here") = some (.int l) → ρ'.lookup (Str.ofString "_law_good") = some (.bool true) → K .next ρ' σ') : tss G n cBring ρ σ K X' := by
  obtain ⟨n, rfl⟩ : ∃ j, n = j + 4 := by first | with_reducible exact Nat.exists_eq_add_of_le' (Nat.le_trans (by decide) hn) | exact ⟨n - 4, (by first | decide | (with_reducible first | exact lv hn | exact lv1 hn | exact lv2 hn | exact Int.natCast_nonneg _ | assumption) | omega)⟩
  obtain ⟨fb, Fb⟩ := Z.z.brt
  obtain ⟨fm, Mb⟩ := Z.z.hm.bring
  obtain ⟨fw, Wh⟩ := Z.z.wh
  obtain ⟨fk, Fk⟩ := Z.z.mrk
  obtain ⟨fq, Fq⟩ := Z.z.ml
  obtain ⟨fh, Fh⟩ := Z.hand
  obtain ⟨R, ex, rfl, XR, hx⟩ := X.r
  have hpos : 0 < (H.road.length : Int) := Int.ofNat_lt.mpr hr
  have fm' := fmod_in cell hpos
  obtain ⟨i, hi⟩ := Int.eq_ofNat_of_zero_le fm'.1
  have hil : i < H.road.length := Int.ofNat_lt.mp (by rw [← hi]; exact fm'.2)
  obtain ⟨qs, I⟩ := X.h.inv
  have hiq : i < qs.length := by rw [I.rd, List.length_map] at hil; exact hil
  obtain ⟨⟨l, a, h, ph⟩, hq⟩ : ∃ q, qs[i]? = some q := ⟨_, List.getElem?_eq_getElem hiq⟩
  have hm : H.road[i]? = some (mailOf l a h ph) := by rw [I.rd, List.getElem?_map, hq]; rfl
  have hz := Nat.lt_trans X.h.small.road (show 90000 < 1000000 by decide)
  refine g_asg (v := .int i) (by rw [← hi]; exact ev_bin (ev_nm l4) (ev_bi (es_cons (XR.key l2 rfl) es_nil) (d_lenM XR.ml.lst hz)) (d_mod (Ne.symm (Int.ne_of_lt hpos)))) ?_
  have g1 := lk_ne (x := Str.ofString "_law_place") (a := .int i) (by decide) l1
  have g2 := lk_ne (x := Str.ofString "_law_place") (a := .int i) (by decide) l2
  have g3 := lk_eq (x := Str.ofString "_law_place") (a := .int i) (ρ := ρ)
  clear l1 l2 l4
  generalize putA (Str.ofString "_law_place") (.int i) ρ = ρ₁ at g1 g2 g3
  refine g_asgC Fb (es_cons (ev_nm g2) (es_cons (ev_nm g3) es_nil)) (brought_ok (n := n + 3) (lv1 hn) Z.z.rf Fb XR I (Nat.le_succ_of_le X.ol) X.h.d40 hq fun R' H' o₂ σ₂ hB hR c2 XR₂ => ?_)
  have XH := X.h.chg c2 fun j z => absurd z (Nat.ne_of_lt (Nat.lt_succ_self b))
  obtain ⟨A, hA, XA⟩ := XH.at_
  rw [← hA] at g1
  refine g_asgM Mb (ev_nm (lk_ne (by decide) g1)) XA.x.at_ XA.d.at_ rfl (es_cons (ev_nm (lk_ne (by decide) g3)) es_nil) (bring8 (n := n + 3) (x := A.x) (lv1 hn) Z.z.hm Mb (hA ▸ XH) I hq fun H'' o₃ σ₃ hB' X₃ e3 c3 => ?_)
  have := hB.one hB'
  subst this
  rw [hA] at g1 X₃
  obtain ⟨W, c⟩ := Two.of hx XR₂ c2 X₃ c3 (by rw [e3]; exact X.ol)
  rw [hR] at W
  have hw := X.h.words _ (List.mem_of_getElem? hm)
  obtain ⟨h1, h2, _⟩ := I.ok _ (List.mem_of_getElem? hq)
  obtain ⟨a', ea, ha⟩ := I.ow _ _ h1
  cases Int.ofNat.inj ea
  have hl := (List.getElem?_eq_some_iff.mp h1).1
  obtain ⟨w, a, h, p, em, ha, hh⟩ := mail_in (l := l) (ph := ph) ha h2
  rw [em] at hw ⊢
  have ha' : H'.desks[a]? = some (H'.desks[a]'(by rw [X₃.dl]; exact ha)) := List.getElem?_eq_getElem _
  have hh' : H'.desks[h]? = some (H'.desks[h]'(by rw [X₃.dl]; exact hh)) := List.getElem?_eq_getElem _
  have t1 := lk_ne (x := Str.ofString "_law_letter_here") (a := .int l) (by decide) (lk_ne (x := Str.ofString "_law_found") (a := mailAV (w, (l : Int), (a : Int), (h : Int), p)) (by decide) (lk_ne (x := Str.ofString "_law_mail_here") (a := mailAV (w, (l : Int), (a : Int), (h : Int), p)) (by decide) g1))
  have t2 := lk_ne (x := Str.ofString "_law_letter_here") (a := .int l) (by decide) (lk_ne (x := Str.ofString "_law_found") (a := mailAV (w, (l : Int), (a : Int), (h : Int), p)) (by decide) (lk_ne (x := Str.ofString "_law_mail_here") (a := mailAV (w, (l : Int), (a : Int), (h : Int), p)) (by decide) g2))
  have t3 := lk_ne (x := Str.ofString "_law_letter_here") (a := .int l) (by decide) (lk_ne (x := Str.ofString "_law_found") (a := mailAV (w, (l : Int), (a : Int), (h : Int), p)) (by decide) (lk_eq (x := Str.ofString "_law_mail_here") (a := mailAV (w, (l : Int), (a : Int), (h : Int), p)) (ρ := ρ₁)))
  have t4 := lk_ne (x := Str.ofString "_law_letter_here") (a := .int l) (by decide) (lk_eq (x := Str.ofString "_law_found") (a := mailAV (w, (l : Int), (a : Int), (h : Int), p)) (ρ := putA (Str.ofString "_law_mail_here") (mailAV (w, (l : Int), (a : Int), (h : Int), p)) ρ₁))
  have t5 := lk_eq (x := Str.ofString "_law_letter_here") (a := .int l) (ρ := putA (Str.ofString "_law_found") (mailAV (w, (l : Int), (a : Int), (h : Int), p)) (putA (Str.ofString "_law_mail_here") (mailAV (w, (l : Int), (a : Int), (h : Int), p)) ρ₁))
  refine g_asg (v := .int l) (ev_sub (ev_nm (lk_ne (by decide) lk_eq)) ev_cst d_1) ?_
  generalize putA (Str.ofString "_law_letter_here") (.int l) (putA (Str.ofString "_law_found") (mailAV (w, (l : Int), (a : Int), (h : Int), p)) (putA (Str.ofString "_law_mail_here") (mailAV (w, (l : Int), (a : Int), (h : Int), p)) ρ₁)) = ρ₂ at t1 t2 t3 t4 t5
  refine g_asgX (x_andT (ev_call Fq (es_cons (ev_nm t4) es_nil) (mail_is Fq Fk Wh)) (x_andT (ev_cmp (ev_nm t4) (ev_nm t3) fun P z => eq_same (datum_mail _ _ _ _ _) (datum_mail _ _ _ _ _) (can_mail hw) z) (x_andX (tv_call Fh (es_cons (ev_nm t1) (es_cons (ev_nm t2) (es_cons (ev_sub (ev_nm t3) ev_cst d_2) es_nil)) _ _ (hand8 (n := n) Z.z Fh W ha' fun o₄ σ₄ c4 => ⟨true, rfl, x_and1 (tv_call Fh (es_cons (ev_nm t1) (es_cons (ev_nm t2) (es_cons (ev_sub (ev_nm t3) ev_cst d_3) es_nil)) _ _ (hand8 (n := n) Z.z Fh (W.new c4) hh' fun o₅ σ₅ c5 => ?_)))⟩))))))
  exact g_nil (k l H' _ o₅ σ₅ ((W.new c4).new c5) (by rw [e3]; exact Nat.le_succ _) (c.trans ((c4.trans c5).mono fun _ z => z.elim)) (by rw [e3]; exact hl) (lk_ne (by decide) t1) (lk_ne (by decide) t2) (lk_ne (by decide) t5) lk_eq)
end
end Mine
set_option maxRecDepth 100000
set_option linter.unusedSimpArgs false
set_option linter.unusedVariables false
namespace Mine
open PySem PyProof.Rows

noncomputable def cA08 : List Sm := [.ite (.cmp .NotEq (.meth (.nm "_law_house_here") "send" [(.bin .Mod (.bin .Mult (.nm "_law_k") (.nm "_law_k")) (.cst (.int (2)))), (.bi "str" [(.nm "_law_k")])]) (.call "_law_sent" [(.nm "_law_h"), (.bin .Mod (.bin .Mult (.nm "_law_k") (.nm "_law_k")) (.cst (.int (2)))), (.bi "str" [(.nm "_law_k")])])) [.ret (some (.cst (.bool false)))] []]
noncomputable def cT08 : List Sm := [.ite (.not_ (.call "_law_step" [(.nm "_law_house_here"), (.nm "_law_h"), (.sub (.nm "_law_script") (.nm "_law_k")), (.sub (.nm "_law_script") (.bin .Add (.nm "_law_k") (.cst (.int (1)))))])) [.ret (some (.cst (.bool false)))] [], .ite (.and_ [(.cmp .Eq (.bin .Mod (.bin .FloorDiv (.sub (.nm "_law_script") (.nm "_law_k")) (.cst (.int (36)))) (.cst (.int (5)))) (.cst (.int (0)))), (.not_ (.call "_law_step" [(.nm "_law_other"), (.nm "_law_g"), (.bin .FloorDiv (.sub (.nm "_law_script") (.bin .Add (.nm "_law_k") (.cst (.int (1))))) (.cst (.int (40)))), (.sub (.nm "_law_script") (.nm "_law_k"))]))]) [.ret (some (.cst (.bool false)))] []]
noncomputable def cZ08 : List Sm := [.for_ "_law_hand_here" (.bi "range" [(.nm "_law_many")]) [.ite (.not_ (.call "_law_hand" [(.nm "_law_house_here"), (.nm "_law_h"), (.nm "_law_hand_here")])) [.ret (some (.cst (.bool false)))] []], .for_ "_law_letter_here" (.bi "range" [(.bi "len" [(.sub (.nm "_law_h") (.cst (.str "sent")))])]) [.ite (.not_ (.call "_law_letter" [(.nm "_law_house_here"), (.nm "_law_h"), (.nm "_law_letter_here")])) [.ret (some (.cst (.bool false)))] []], .ret (some (.and_ [(.call "_law_hand" [(.nm "_law_other"), (.nm "_law_g"), (.cst (.int (0)))]), (.call "_law_hand" [(.nm "_law_other"), (.nm "_law_g"), (.cst (.int (1)))]), (.call "_law_mails" [(.meth (.nm "_law_other") "mails" []), (.bi "list" [(.sub (.nm "_law_g") (.cst (.str "mails")))])])]))]
noncomputable def cR08 : List Sm := .for_ "_law_k" (.bi "range" [(.cst (.int (1))), (.bin .Sub (.bi "len" [(.nm "_law_script")]) (.cst (.int (1)))), (.cst (.int (2)))]) cT08 :: cZ08
noncomputable def cF08 : List Sm := .for_ "_law_k" (.bi "range" [(.sub (.list [(.cst (.int (0))), (.cst (.int (70)))]) (.bi "int" [(.cmp .Eq (.nm "_law_many") (.cst (.int (2))))]))]) cA08 :: cR08
noncomputable def claw : List Sm := .asg "_law_many" (.bin .Add (.cst (.int (1))) (.bin .Mod (.bin .FloorDiv (.call "_law_cell_at" [(.nm "_law_script"), (.cst (.int (0)))]) (.cst (.int (6)))) (.sub (.list [(.cst (.int (40))), (.cst (.int (5))), (.cst (.int (5))), (.cst (.int (5))), (.cst (.int (5))), (.cst (.int (5)))]) (.bin .Mod (.call "_law_cell_at" [(.nm "_law_script"), (.cst (.int (0)))]) (.cst (.int (6))))))) :: .asg "_law_house_here" (.call "House" [(.nm "_law_many")]) :: .asg "_law_h" (.call "_law_house" [(.nm "_law_many")]) :: .asg "_law_other" (.call "House" [(.cst (.int (2)))]) :: .asg "_law_g" (.call "_law_house" [(.cst (.int (2)))]) :: cF08
abbrev Ends (fl : Fl) (_ : Loc) (_ : Sto) : Prop := fl.val = .bool true
abbrev Never (_ : Value) (_ : Loc) (_ : Sto) : Prop := False
section
variable {G : PG} {n : Nat} {ρ : Loc} {σ σ' : Sto} {Φ : PE} {Ψ : PY} {P : Bool → Sto → Prop} {CH CD x y f : Addr} {o o' : Own} {b many : Nat} {H : Hs} {kind cell : Int}
theorem t_not {e : Ex} (p : (tr G n e).t ρ σ (fun q σ₁ => P (!q) σ₁) Ψ) : (tr G n (.not_ e)).t ρ σ P Ψ := p
theorem t_and2 {a c : Ex} (ha : Et G n ρ σ a true) (p : (tr G n c).t ρ σ (fun q σ₁ => if q = true then P true σ₁ else P false σ₁) Ψ) : (tr G n (.and_ [a, c])).t ρ σ P Ψ := ha _ _ p
/-- a step -/
theorem step8 (hn : 19 ≤ n) (Z : S8 G CH CD) (F : Fn1 G "_law_step" ["_law_house_here", "_law_h", "_law_kind", "_law_cell"] c_law_step f) (X : Two CH CD b x y many o σ H) (h1 : 1 ≤ many) (ho : H.owners.length < 399)
    (k : ∀ H' o' σ', Two CH CD b x y many o' σ' H' → H'.owners.length ≤ H.owners.length + 1 → Chg (Fam b) o σ o' σ' → Φ (.bool true) σ') : WC G (n + 1) (.ref f) [.ref x, .ref y, .int kind, .int cell] σ Φ Ψ := by
  obtain ⟨n, rfl⟩ : ∃ j, n = j + 1 := by first | with_reducible exact Nat.exists_eq_add_of_le' (Nat.le_trans (by decide) hn) | exact ⟨n - 1, (by first | decide | (with_reducible first | exact lv hn | exact lv1 hn | exact lv2 hn | exact Int.natCast_nonneg _ | assumption) | omega)⟩
  refine F.bd rfl fun ρ K X' L hr _ _ => ?_
  have l1 := L "_law_house_here" _ rfl
  have l2 := L "_law_h" _ rfl
  have l3 := L "_law_kind" _ rfl
  have l4 := L "_law_cell" _ rfl
  clear L
  have fin : ∀ {o₁ : Own} {σ₁ : Sto}, Chg (fun _ => False) o σ o₁ σ₁ → ∀ (l : Nat) H' ρ' o' σ', Two CH CD b x y many o' σ' H' → H'.owners.length ≤ H.owners.length + 1 → Chg (Fam b) o₁ σ₁ o' σ' → l < H'.owners.length → ρ'.lookup (Str.ofString "_law_house_here") = some (.ref x) → ρ'.lookup (Str.ofString "_law_h") = some (.ref y) → ρ'.lookup (Str.ofString "_law_letter_here") = some (.int l) → ρ'.lookup (Str.ofString "_law_good") = some (.bool true) → tss G (n + 1) cTail ρ' σ' K X' := fun c0 l H' ρ' o' σ' W hl c hl' a1 a2 a3 a4 => tail8 (lv hn) Z W hl' a1 a2 a3 a4 fun ρ'' o'' σ'' W' c' => hr _ _ _ (k H' o'' σ'' W' hl (((c0.mono fun _ z => z.elim).trans c).trans c'))
  have ek : Ev G (n + 1) ρ σ (.bin .Mod (.nm "_law_kind") (.cst (.int (4)))) (.int (Int.fmod kind 4)) := ev_bin (ev_nm l3) ev_cst (d_mod (by decide))
  by_cases q : Int.fmod kind 4 = 0
  · exact g_iteT (et_or (eo_T (et_cmp ek ev_cst (d_eqT q)))) (sendS (lv hn) Z X h1 ho l1 l2 l3 l4 (fin .refl))
  refine g_iteX (t_orF (et_cmp ek ev_cst (d_eqF q)) ?_)
  clear ek
  obtain ⟨R, ex, rfl, XR, hx⟩ := id X.r
  rw [tt_cmp]
  refine XR.key l2 rfl _ _ ?_
  rw [tv_list, sq_nil]
  refine new_ownN (o := o) (0, 0) (Nat.zero_le _) fun g o₁ σ₁ _ c1 G1 => ?_
  have X₁ := X.new c1
  have XR₁ := XR.chg c1 fun _ => id
  rw [cm_eq]
  refine road_nil XR₁.ml.lst G1.lst X.h.words ⟨_, rfl, ?_⟩
  cases er : H.road with
  | nil => exact sendS (lv hn) Z X₁ h1 ho l1 l2 l3 l4 (fin c1)
  | cons m rd =>
    have hz := Nat.lt_trans X.h.small.road (show 90000 < 1000000 by decide)
    have em : Ev G (n + 1) ρ σ₁ (.bi "len" [(.sub (.nm "_law_h") (.cst (.str "mails")))]) (.int H.road.length) := ev_bi (es_cons (XR₁.key l2 rfl) es_nil) (d_lenM XR₁.ml.lst hz)
    have ek : Ev G (n + 1) ρ σ₁ (.bin .Mod (.bin .FloorDiv (.nm "_law_kind") (.cst (.int (4)))) (.cst (.int (9)))) (.int (Int.fmod (Int.fdiv kind 4) 9)) := ev_bin (ev_bin (ev_nm l3) ev_cst (d_fdiv (by decide) (by decide))) ev_cst (d_mod (by decide))
    by_cases q2 : Int.fmod (Int.fdiv kind 4) 9 = 0
    · obtain ⟨fm, Fm⟩ := Z.miss
      have := (fmod_in cell (m := 9) (by decide)).1
      exact g_iteT (et_cmp ek ev_cst (d_eqT q2)) (g_retC Fm (es_cons (ev_nm l1) (es_cons (ev_bin em (ev_bin (ev_nm l4) ev_cst (d_mod (by decide))) d_add) es_nil)) (missing8 (n := n) (lv1 hn) Z.z Fm X₁ (by first | decide | (with_reducible first | exact lv hn | exact lv1 hn | exact lv2 hn | exact Int.natCast_nonneg _) | omega) (hr _ _ _ (k H o₁ σ₁ X₁ (Nat.le_succ _) (c1.mono fun _ z => z.elim)))))
    · refine g_iteF (et_cmp ek ev_cst (d_eqF q2)) ?_
      by_cases q3 : Int.fmod (Int.fdiv kind 4) 9 = 1 ∧ (H.road.length : Int) < 240
      · obtain ⟨fr, Fr⟩ := Z.rst
        exact g_iteT (et_and (ea_T (et_cmp ek ev_cst (d_eqT q3.1)) (ea_T (et_cmp em ev_cst (d_ltT q3.2)) ea_nil))) (g_retC Fr (es_cons (ev_nm l1) (es_cons (ev_nm l2) es_nil)) (rested8 (n := n) (lv1 hn) Z.z Fr X₁ fun H' o' σ' W e c => hr _ _ _ (k H' o' σ' W (by rw [e]; exact Nat.le_succ _) ((c1.mono fun _ z => z.elim).trans c))))
      · refine g_iteF ?_ (bringS (lv hn) Z X₁ (by rw [er]; exact Nat.succ_pos _) l1 l2 l4 (fin c1))
        by_cases q4 : Int.fmod (Int.fdiv kind 4) 9 = 1
        · exact et_and (ea_T (et_cmp ek ev_cst (d_eqT q4)) (ea_F (et_cmp em ev_cst (d_ltF fun z => q3 ⟨q4, z⟩))))
        · exact et_and (ea_F (et_cmp ek ev_cst (d_eqF q4)))
end
end Mine
set_option maxRecDepth 100000
set_option linter.unusedSimpArgs false
set_option linter.unusedVariables false
namespace Mine
open PySem PyProof.Rows

/-- what stands between the turns -/
structure W8 (CH CD x y x2 y2 l : Addr) (ns : List Int) (many N : Nat) (o : Own) (σ : Sto) : Prop where
  one : ∃ H, Two CH CD 1 x y many o σ H ∧ H.owners.length ≤ N
  two : ∃ H, Two CH CD 4 x2 y2 2 o σ H ∧ H.owners.length ≤ N
  sc : At o σ (9, 0) l (.rlist (ns.map .int))
structure R8 (x y x2 y2 l : Addr) (many : Nat) (ρ : Loc) : Prop where
  s : ρ.lookup (Str.ofString "_law_script") = some (.ref l)
  m : ρ.lookup (Str.ofString "_law_many") = some (.int many)
  x : ρ.lookup (Str.ofString "_law_house_here") = some (.ref x)
  h : ρ.lookup (Str.ofString "_law_h") = some (.ref y)
  o : ρ.lookup (Str.ofString "_law_other") = some (.ref x2)
  g : ρ.lookup (Str.ofString "_law_g") = some (.ref y2)
/-- what the law reaches -/
structure A8 (G : PG) (CH CD : Addr) : Prop where
  s : S8 G CH CD
  step : ∃ f, Fn1 G "_law_step" ["_law_house_here", "_law_h", "_law_kind", "_law_cell"] c_law_step f
  cell : ∃ f, Fn1 G "_law_cell_at" ["_law_script", "_law_k"] c_law_cell_at f
  hs : ∃ f, Fn1 G "_law_house" ["_law_many"] c_law_house f
  dk : ∃ f, Fn1 G "_law_desk" ["_law_hand_here"] c_law_desk f
  mh : Mk G "House" CH ["self", "many"] cHouse___init__
  md : Mk G "Desk" CD ["self", "hand"] cDesk___init__
  most : ∃ tk, G.mg "MOST_HANDS" = some (.int 40 tk)
section
variable {G : PG} {n : Nat} {ρ : Loc} {σ σ' : Sto} {Φ : PE} {Ψ : PY} {K : PS} {X' : PX} {CH CD x y x2 y2 l : Addr} {o o' : Own} {b many N : Nat} {H : Hs} {ns : List Int}
theorem R8.put {k : Str} {v : AV} (R : R8 x y x2 y2 l many ρ) (h : k ∈ [Str.ofString "_law_k", Str.ofString "_law_hand_here", Str.ofString "_law_letter_here"]) : R8 x y x2 y2 l many (putA k v ρ) := by
  have ne : ∀ z ∈ [Str.ofString "_law_script", Str.ofString "_law_many", Str.ofString "_law_house_here", Str.ofString "_law_h", Str.ofString "_law_other", Str.ofString "_law_g"], z ≠ k := fun z hz e => by subst e; revert z; decide
  exact ⟨lk_ne (ne _ (by decide)) R.s, lk_ne (ne _ (by decide)) R.m, lk_ne (ne _ (by decide)) R.x, lk_ne (ne _ (by decide)) R.h, lk_ne (ne _ (by decide)) R.o, lk_ne (ne _ (by decide)) R.g⟩
theorem fam14 : ∀ t, Fam 4 t → ¬ Fam 1 t := fun t a b => by unfold Fam at *; omega
theorem fam41 : ∀ t, Fam 1 t → ¬ Fam 4 t := fun t a b => by unfold Fam at *; omega
theorem W8.new (W : W8 CH CD x y x2 y2 l ns many N o σ) (c : Chg (fun _ => False) o σ o' σ') : W8 CH CD x y x2 y2 l ns many N o' σ' := ⟨W.one.imp fun _ z => ⟨z.1.new c, z.2⟩, W.two.imp fun _ z => ⟨z.1.new c, z.2⟩, W.sc.chg c id⟩
theorem W8.on1 {M : Nat} (W : W8 CH CD x y x2 y2 l ns many N o σ) (c : Chg (Fam 1) o σ o' σ') (X : Two CH CD 1 x y many o' σ' H) (h : H.owners.length ≤ M) (hM : N ≤ M) : W8 CH CD x y x2 y2 l ns many M o' σ' := ⟨⟨H, X, h⟩, W.two.imp fun _ z => ⟨z.1.chg c fam14, Nat.le_trans z.2 hM⟩, W.sc.chg c (by unfold Fam; decide)⟩
theorem W8.on2 {M : Nat} (W : W8 CH CD x y x2 y2 l ns many N o σ) (c : Chg (Fam 4) o σ o' σ') (X : Two CH CD 4 x2 y2 2 o' σ' H) (h : H.owners.length ≤ M) (hM : N ≤ M) : W8 CH CD x y x2 y2 l ns many M o' σ' := ⟨W.one.imp fun _ z => ⟨z.1.chg c fam41, Nat.le_trans z.2 hM⟩, ⟨H, X, h⟩, W.sc.chg c (by unfold Fam; decide)⟩
theorem W8.mono {M : Nat} (W : W8 CH CD x y x2 y2 l ns many N o σ) (hM : N ≤ M) : W8 CH CD x y x2 y2 l ns many M o σ := ⟨W.one.imp fun _ z => ⟨z.1, Nat.le_trans z.2 hM⟩, W.two.imp fun _ z => ⟨z.1, Nat.le_trans z.2 hM⟩, W.sc⟩
theorem d_mulI {i j : Int} (h : i.natAbs < 2 ^ 63) : BinIs σ .Mult (.int i) (.int j) (.int (i * j)) := fun Φ p => bn_mul ⟨h, p⟩
theorem d_strI {i : Int} (h : i.natAbs.log2 < 1920) : BiIs G n σ "str" [.int i] (.str (Str.ofString (toString i))) := fun P p => bi_str h p
/-- a turn of the first loop -/
theorem turnA {k : Nat} (hn : 18 ≤ n) (Z : A8 G CH CD) (W : W8 CH CD x y x2 y2 l ns 2 k o σ) (hk : k < 70) (R : R8 x y x2 y2 l 2 ρ) (l3 : ρ.lookup (Str.ofString "_law_k") = some (.int k)) (kJ : ∀ o' σ', W8 CH CD x y x2 y2 l ns 2 (k + 1) o' σ' → K .next ρ σ') : tss G n cA08 ρ σ K X' := by
  obtain ⟨n, rfl⟩ : ∃ j, n = j + 1 := by first | with_reducible exact Nat.exists_eq_add_of_le' (Nat.le_trans (by decide) hn) | exact ⟨n - 1, (by first | decide | (with_reducible first | exact lv hn | exact lv1 hn | exact lv2 hn | exact Int.natCast_nonneg _ | assumption) | omega)⟩
  obtain ⟨H, X, ho⟩ := W.one
  obtain ⟨A, rfl, XA⟩ := X.h.at_
  obtain ⟨Q, ex, rfl, XR, hx⟩ := X.r
  obtain ⟨qs, I⟩ := X.h.inv
  obtain ⟨fm, Ms⟩ := Z.s.z.hm.send
  obtain ⟨fs, Fs⟩ := Z.s.z.snt
  have fm' := fmod_in ((k : Int) * k) (m := 2) (by decide)
  obtain ⟨i, hi⟩ := Int.eq_ofNat_of_zero_le fm'.1
  have hil : i < H.desks.length := by rw [X.h.dl]; exact Int.ofNat_lt.mp (by rw [← hi]; exact fm'.2)
  have hs : H.desks[i]? = some H.desks[i] := List.getElem?_eq_getElem hil
  have es : ∀ {σ}, Es G (n + 1) ρ σ [(.bin .Mod (.bin .Mult (.nm "_law_k") (.nm "_law_k")) (.cst (.int (2)))), (.bi "str" [(.nm "_law_k")])] [.int i, .str (Str.ofString (toString (k : Int)))] := fun {σ} => es_cons (by rw [← hi]; exact ev_bin (ev_bin (ev_nm l3) (ev_nm l3) (d_mulI (by rw [Int.natAbs_natCast]; exact Nat.lt_trans hk (by decide)))) ev_cst (d_mod (by decide))) (es_cons (ev_bi (es_cons (ev_nm l3) es_nil) (d_strI (Nat.lt_of_le_of_lt (Nat.log2_le_self _) (by rw [Int.natAbs_natCast]; exact Nat.lt_trans hk (by decide))))) es_nil)
  refine g_iteX ?_
  rw [tt_cmp]
  refine ev_meth Ms (ev_nm R.x) XA.x.at_ XA.d.at_ rfl es (send8 (n := n) (lv1 hn) Z.s.z.hm Ms X.h hs (Nat.lt_of_le_of_lt ho (Nat.lt_trans hk (by decide))) fun H' o₂ σ₂ hC X₂ e2 c2 => ?_)
  have XR₂ := XR.chg c2 fun j (z : 2 = 1) => absurd z (by decide)
  refine tv_call Fs (es_cons (ev_nm R.h) es _ _ (sent_ok (n := n) (lv1 hn) Z.s.z.rf Fs XR₂ I (Nat.lt_of_le_of_lt ho (Nat.lt_trans hk (by decide))) (by decide) hs fun Q' H'' o₃ σ₃ hC' hQ c3 XR₃ => d_neF rfl _ ⟨false, rfl, ?_⟩))
  have := hC.one hC'
  subst this
  have hl : H'.owners.length = H.owners.length + 1 := by rw [e2, List.length_append]; rfl
  exact kJ o₃ σ₃ (W.on1 ((c2.mono fun _ z => .inl z).trans (c3.mono fun _ z => .inr (.inl z))) ⟨X₂.chg c3 fun j (z : 1 = 2) => absurd z (by decide), ⟨Q', ex, hQ, XR₃, (hx.chg c2 (by decide)).chg c3 (by decide)⟩, Nat.le_trans (hl ▸ Nat.succ_le_succ ho) (Nat.le_trans hk (by decide))⟩ (hl ▸ Nat.succ_le_succ ho) (Nat.le_succ _))
/-- a turn of the second loop -/
theorem turnT {k : Nat} (hn : 21 ≤ n) (Z : A8 G CH CD) (W : W8 CH CD x y x2 y2 l ns many N o σ) (h1 : 1 ≤ many) (hN : N < 300) (hsz : ns.length ≤ 63) (hk : k + 1 < ns.length) (R : R8 x y x2 y2 l many ρ) (l3 : ρ.lookup (Str.ofString "_law_k") = some (.int k)) (kJ : ∀ o' σ', W8 CH CD x y x2 y2 l ns many (N + 1) o' σ' → K .next ρ σ') : tss G n cT08 ρ σ K X' := by
  obtain ⟨n, rfl⟩ : ∃ j, n = j + 1 := by first | with_reducible exact Nat.exists_eq_add_of_le' (Nat.le_trans (by decide) hn) | exact ⟨n - 1, (by first | decide | (with_reducible first | exact lv hn | exact lv1 hn | exact lv2 hn | exact Int.natCast_nonneg _ | assumption) | omega)⟩
  obtain ⟨fs, Fs⟩ := Z.step
  have e1 : ∀ {o' : Own} {σ' : Sto}, At o' σ' (9, 0) l (.rlist (ns.map .int)) → Ev G (n + 1) ρ σ' (.sub (.nm "_law_script") (.nm "_law_k")) (.int (ns[k]'(Nat.lt_of_succ_lt hk))) := fun B => ev_sub (ev_nm R.s) (ev_nm l3) (d_ints (i := k) B hsz (Nat.lt_of_succ_lt hk))
  have e2 : ∀ {o' : Own} {σ' : Sto}, At o' σ' (9, 0) l (.rlist (ns.map .int)) → Ev G (n + 1) ρ σ' (.sub (.nm "_law_script") (.bin .Add (.nm "_law_k") (.cst (.int (1))))) (.int ns[k + 1]) := fun B => ev_sub (ev_nm R.s) (ev_bin (ev_nm l3) ev_cst d_add) (d_ints (i := k + 1) B hsz hk)
  obtain ⟨H, X, ho⟩ := W.one
  refine g_iteX (t_not (tt_call Fs (es_cons (ev_nm R.x) (es_cons (ev_nm R.h) (es_cons (e1 W.sc) (es_cons (e2 W.sc) es_nil))) _ _ (step8 (n := n) (lv1 hn) Z.s Fs X h1 (Nat.lt_of_le_of_lt ho (Nat.lt_trans hN (by decide))) fun H' o₁ σ₁ X₁ hl c1 => ⟨true, rfl, ?_⟩))))
  have W₁ := W.on1 (M := N + 1) c1 X₁ (Nat.le_trans hl (Nat.succ_le_succ ho)) (Nat.le_succ _)
  have ec := ev_bin (G := G) (n := n + 1) (ρ := ρ) (σ := σ₁) (ev_bin (e1 W₁.sc) (ev_cst (v := .int 36)) (d_fdiv (by decide) (by decide))) (ev_cst (v := .int 5)) (d_mod (by decide))
  show tss G (n + 1) [.ite (.and_ [(.cmp .Eq (.bin .Mod (.bin .FloorDiv (.sub (.nm "_law_script") (.nm "_law_k")) (.cst (.int (36)))) (.cst (.int (5)))) (.cst (.int (0)))), (.not_ (.call "_law_step" [(.nm "_law_other"), (.nm "_law_g"), (.bin .FloorDiv (.sub (.nm "_law_script") (.bin .Add (.nm "_law_k") (.cst (.int (1))))) (.cst (.int (40)))), (.sub (.nm "_law_script") (.nm "_law_k"))]))]) [.ret (some (.cst (.bool false)))] []] ρ σ₁ K X'
  by_cases q : Int.fmod (Int.fdiv (ns[k]'(Nat.lt_of_succ_lt hk)) 36) 5 = 0
  · obtain ⟨H2, Y, hy⟩ := W.two
    refine g_iteX (t_and2 (et_cmp ec ev_cst (d_eqT q)) (t_not (tt_call Fs (es_cons (ev_nm R.o) (es_cons (ev_nm R.g) (es_cons (ev_bin (e2 W₁.sc) ev_cst (d_fdiv (by decide) (by decide))) (es_cons (e1 W₁.sc) es_nil))) _ _ (step8 (n := n) (lv1 hn) Z.s Fs (Y.chg c1 fam14) (by decide) (Nat.lt_of_le_of_lt hy (Nat.lt_trans hN (by decide))) fun H' o₂ σ₂ X₂ hl2 c2 => ⟨true, rfl, ?_⟩)))))
    exact kJ o₂ σ₂ (W₁.on2 c2 X₂ (Nat.le_trans hl2 (Nat.succ_le_succ hy)) (Nat.le_refl _))
  · exact g_if0 (et_and (ea_F (et_cmp ec ev_cst (d_eqF q)))) (g_nil (kJ o₁ σ₁ W₁))
/-- the end -/
theorem end8 (hn : 20 ≤ n) (Z : A8 G CH CD) (W : W8 CH CD x y x2 y2 l ns many N o σ) (h40 : many ≤ 40) (R : R8 x y x2 y2 l many ρ) : tss G n cZ08 ρ σ Ends Never := by
  obtain ⟨n, rfl⟩ : ∃ j, n = j + 4 := by first | with_reducible exact Nat.exists_eq_add_of_le' (Nat.le_trans (by decide) hn) | exact ⟨n - 4, (by first | decide | (with_reducible first | exact lv hn | exact lv1 hn | exact lv2 hn | exact Int.natCast_nonneg _ | assumption) | omega)⟩
  obtain ⟨fh, Fh⟩ := Z.s.hand
  obtain ⟨fe, Fe⟩ := Z.s.let_
  refine g_forN (lv hn) (ev_nm R.m) (Nat.lt_of_le_of_lt h40 (by decide)) (fun i ρ₂ σ₂ => ∃ o₂, W8 CH CD x y x2 y2 l ns many N o₂ σ₂ ∧ R8 x y x2 y2 l many ρ₂) ⟨o, W, R⟩ ?_ ?_
  · rintro i K₂ ρ₂ σ₂ hi ⟨o₂, W₂, R₂⟩ kJ _
    obtain ⟨H, X, ho⟩ := W₂.one
    have R₃ := R₂.put (k := Str.ofString "_law_hand_here") (v := .int i) (by decide)
    have hs : H.desks[i]? = some (H.desks[i]'(by rw [X.h.dl]; exact hi)) := List.getElem?_eq_getElem _
    exact g_iteX (t_not (tt_call Fh (es_cons (ev_nm R₃.x) (es_cons (ev_nm R₃.h) (es_cons (ev_nm lk_eq) es_nil)) _ _ (hand8 (n := n) Z.s.z Fh X hs fun o₃ σ₃ c3 => ⟨true, rfl, kJ _ _ ⟨o₃, W₂.new c3, R₃⟩⟩))))
  · rintro ρ₂ σ₂ ⟨o₂, W₂, R₂⟩
    obtain ⟨H, X, ho⟩ := W₂.one
    obtain ⟨Q, ex, hQ, XR, _⟩ := X.r
    have z2 := Nat.lt_trans X.h.small.owners (show 9000 < 1000000 by decide)
    have el : Ev G (n + 4) ρ₂ σ₂ (.bi "len" [(.sub (.nm "_law_h") (.cst (.str "sent")))]) (.int H.owners.length) := by
      rw [← XR.lenS]; exact ev_bi (es_cons (XR.key (hQ ▸ R₂.h) rfl) es_nil) (d_lenM XR.se.lst (by rw [XR.lenS]; exact z2))
    refine g_forS (lv hn) el z2 (fun i ρ₃ => R8 x y x2 y2 l many ρ₃) R₂ (fun i K₂ ρ₃ hi R₃ kJ _ => ?_) fun ρ₃ R₃ => ?_
    · have R₄ := R₃.put (k := Str.ofString "_law_letter_here") (v := .int i) (by decide)
      exact g_if0 (et_notF (et_call (ev_call Fe (es_cons (ev_nm R₄.x) (es_cons (ev_nm (hQ ▸ R₄.h : _ = some (.ref Q.d))) (es_cons (ev_nm lk_eq) es_nil))) (letter8 Z.s.z Fe X.h XR hi)))) (g_nil (kJ _ R₄))
    · obtain ⟨H2, Y, hy⟩ := W₂.two
      obtain ⟨fs, Fs⟩ := Z.s.z.mls
      obtain ⟨fq, Fq⟩ := Z.s.z.ml
      obtain ⟨fk, Fk⟩ := Z.s.z.mrk
      obtain ⟨fw, Wh⟩ := Z.s.z.wh
      obtain ⟨fm, Mm⟩ := Z.s.z.hm.mails
      have h0 : H2.desks[0]? = some (H2.desks[0]'(by rw [Y.h.dl]; decide)) := List.getElem?_eq_getElem _
      have h1 : H2.desks[1]? = some (H2.desks[1]'(by rw [Y.h.dl]; decide)) := List.getElem?_eq_getElem _
      rw [bl_ret]
      refine x_andX (tv_call Fh (es_cons (ev_nm R₃.o) (es_cons (ev_nm R₃.g) (es_cons ev_cst es_nil)) _ _ (hand8 (n := n) (i := 0) Z.s.z Fh Y h0 fun o₃ σ₃ c3 => ⟨true, rfl, x_andX (tv_call Fh (es_cons (ev_nm R₃.o) (es_cons (ev_nm R₃.g) (es_cons ev_cst es_nil)) _ _ (hand8 (n := n) (i := 1) Z.s.z Fh (Y.new c3) h1 fun o₄ σ₄ c4 => ⟨true, rfl, x_and1 (tv_call Fs ?_)⟩)))⟩)))
      have Y₄ := (Y.new c3).new c4
      obtain ⟨A, hA, XA⟩ := Y₄.h.at_
      obtain ⟨T, ex2, hT, XT, _⟩ := Y₄.r
      have z3 := Nat.lt_trans Y.h.small.road (show 90000 < 100000 by decide)
      rw [sq_cons]
      refine ev_meth Mm (ev_nm (hA ▸ R₃.o)) XA.x.at_ XA.d.at_ rfl es_nil (mails_ok (n := n + 3) XA Z.s.z.hm.hf Mm z3 fun a ha xa => ?_)
      have XT₁ := XT.chg (.ext (T := fun _ => False) xa) fun _ => id
      rw [sq_cons, tv_bi, sq_cons]
      refine ev_sub (ev_nm (hT ▸ R₃.g)) ev_cst (d_keyS XT₁.d.at_ rfl) _ _ (bi_list XT₁.ml.lst (by rw [List.length_map]; exact Nat.le_of_lt (Nat.lt_trans z3 (by decide))) fun d hd xd => ?_)
      rw [sq_nil]
      exact same_ok (n := n + 3) (g := mailAV) (e := fun m => mailD m.1 m.2.1 m.2.2.1 m.2.2.2.1 m.2.2.2.2) Fs Fq (fun _ => mail_is Fq Fk Wh) (xd a _ (upd_same _ _ _)) (lst_new _ _ _) z3 (fun _ => datum_mail _ _ _ _ _) (fun m hm => can_mail (Y.h.words m hm)) rfl
theorem range_half {b : Int} (h : b ≤ 62) : (rangeL 1 b 2).length ≤ 31 := by
  rw [range_len]
  unfold Builtin.Range.rangeSize
  rw [if_pos (by first | decide | (with_reducible first | exact lv hn | exact lv1 hn | exact lv2 hn | exact Int.natCast_nonneg _) | omega)]
  split <;> omega
theorem rest8L (hn : 22 ≤ n) (Z : A8 G CH CD) (W : W8 CH CD x y x2 y2 l ns many 70 o σ) (h1 : 1 ≤ many) (h40 : many ≤ 40) (hsz : ns.length ≤ 63) (R : R8 x y x2 y2 l many ρ) : tss G n cR08 ρ σ Ends Never := by
  have hb : (ns.length : Int) - 1 ≤ 62 := by omega
  refine g_forR (lv hn) (es_cons ev_cst (es_cons (ev_bin (ev_bi (es_cons (ev_nm R.s) es_nil) (d_lenM (lst_r W.sc) (Nat.lt_of_le_of_lt hsz (by decide)))) ev_cst d_minus) (es_cons ev_cst es_nil))) (vs := rangeL 1 ((ns.length : Int) - 1) 2) (fun P p => ⟨by decide, by decide, (by first | decide | (with_reducible first | exact lv hn | exact lv1 hn | exact lv2 hn | exact Int.natCast_nonneg _) | omega), Int.lt_of_le_of_lt hb (by decide), by decide, by decide, p⟩) (fun i ρ₅ σ₅ => ∃ o₅, W8 CH CD x y x2 y2 l ns many (70 + i) o₅ σ₅ ∧ R8 x y x2 y2 l many ρ₅) ⟨o, W, R⟩ ?_ ?_
  · rintro i v K₂ ρ₅ σ₅ hi hv ⟨o₅, W₅, R₅⟩ kJ _
    obtain ⟨k, rfl, k1, k2⟩ := range_in (by decide) (List.mem_of_getElem? hv)
    obtain ⟨k, rfl⟩ := Int.eq_ofNat_of_zero_le (Int.le_trans (by decide) k1)
    have hrl := Nat.lt_of_lt_of_le hi (range_half hb)
    have R₆ := R₅.put (k := Str.ofString "_law_k") (v := .int k) (by decide)
    exact turnT (lv hn) Z W₅ h1 (Nat.lt_of_lt_of_le (Nat.add_lt_add_left hrl 70) (by decide)) hsz (Int.ofNat_lt.mp (show ((k + 1 : Nat) : Int) < ns.length from Int.add_lt_of_lt_sub_right k2)) R₆ lk_eq fun o' σ' w => kJ _ σ' ⟨o', w, R₆⟩
  · rintro ρ₅ σ₅ ⟨o₅, W₅, R₅⟩
    exact end8 (lv hn) Z W₅ h40 R₅
theorem loops8 (hn : 22 ≤ n) (Z : A8 G CH CD) (W : W8 CH CD x y x2 y2 l ns many 0 o σ) (h1 : 1 ≤ many) (h40 : many ≤ 40) (hsz : ns.length ≤ 63) (R : R8 x y x2 y2 l many ρ) : tss G n cF08 ρ σ Ends Never := by
  rw [cF08, bl_for, ti_range, sq_cons]
  refine x_subL (x_list (o := o) (us := [.int 0, .int 70]) (0, 0) (es_cons ev_cst (es_cons ev_cst es_nil)) (Nat.le_of_ble_eq_true rfl) fun a o₁ σ₁ c1 A1 => ?_)
  have W₁ := W.new c1
  refine ev_bi (es_cons (ev_cmp (ev_nm R.m) ev_cst d_eqi) es_nil) (fun P p => bi_intB p) _ _ ?_
  by_cases q : (many : Int) = 2
  · rw [beq_iff_eq.mpr q]
    have q : many = 2 := Int.ofNat.inj q
    subst q
    refine d_lst A1.lst (by decide) (by decide) (idx1 _ _ _) _ ⟨lv hn, by decide, by decide, loop_n (N := 70) (fun i ρ₂ σ₂ => ∃ o₂, W8 CH CD x y x2 y2 l ns 2 i o₂ σ₂ ∧ R8 x y x2 y2 l 2 ρ₂) ⟨o₁, W₁, R⟩ ?_ ?_⟩
    · rintro i J ρ₂ σ₂ hi ⟨o₂, W₂, R₂⟩ kJ
      have R₃ := R₂.put (k := Str.ofString "_law_k") (v := .int i) (by decide)
      exact turnA (k := i) (lv hn) Z W₂ hi R₃ lk_eq fun o' σ' w => kJ _ _ ⟨o', w, R₃⟩
    · rintro ρ₂ σ₂ ⟨o₂, W₂, R₂⟩
      exact rest8L hn Z W₂ h1 h40 hsz R₂
  · rw [beq_eq_false_iff_ne.mpr q]
    exact d_lst A1.lst (by decide) (by decide) (idx0 _ _) _ ⟨lv hn, by decide, by decide, loop_n (N := 0) (fun i ρ₂ σ₂ => ρ₂ = ρ ∧ σ₂ = σ₁) ⟨rfl, rfl⟩ (fun i J ρ₂ σ₂ hi => absurd hi (Nat.not_lt_zero _)) fun ρ₂ σ₂ h => by rw [h.1, h.2]; exact rest8L hn Z (W₁.mono (Nat.zero_le _)) h1 h40 hsz R⟩
theorem law08 (hn : 24 ≤ n) (Z : A8 G CH CD) (hl : σ l = some (.rlist (ns.map .int))) (hsz : ns.length ≤ 63) : tss G n claw [("_law_script", .ref l)] σ Ends Never := by
  obtain ⟨n, rfl⟩ : ∃ j, n = j + 1 := by first | with_reducible exact Nat.exists_eq_add_of_le' (Nat.le_trans (by decide) hn) | exact ⟨n - 1, (by first | decide | (with_reducible first | exact lv hn | exact lv1 hn | exact lv2 hn | exact Int.natCast_nonneg _ | assumption) | omega)⟩
  obtain ⟨fa, Ca⟩ := Z.cell
  obtain ⟨fh, Fh⟩ := Z.hs
  obtain ⟨fd, Fd⟩ := Z.dk
  obtain ⟨tk, most⟩ := Z.most
  have A0 : At (fun _ => (9, 0)) σ (9, 0) l (.rlist (ns.map .int)) := ⟨hl, rfl⟩
  have q1 : List.lookup (Str.ofString "_law_script") [(Str.ofString "_law_script", AV.ref l)] = some (.ref l) := rfl
  generalize [(Str.ofString "_law_script", AV.ref l)] = ρ₀ at q1
  obtain ⟨v0, e0⟩ := ev_cell (n := n) Ca A0 hsz q1
  rw [claw, bl_asg]
  refine x_bin ev_cst (x_bin (ev_bin e0 ev_cst (d_fdiv (by decide) (by decide))) (x_pick (is := [40, 5, 5, 5, 5, 5]) (P := fun N => 1 ≤ N ∧ N ≤ 40) (o := fun _ => (9, 0)) (9, 1) (es_cons ev_cst (es_cons ev_cst (es_cons ev_cst (es_cons ev_cst (es_cons ev_cst (es_cons ev_cst es_nil)))))) (by decide) (fun o' σ' c => ?_) (by decide) fun N o₁ σ₁ c₁ hN => ?_))
  · obtain ⟨v1, e1⟩ := ev_cell (n := n) Ca (A0.chg c id) hsz q1
    exact ⟨_, (fmod_in v1 (m := 6) (by decide)).1, (fmod_in v1 (m := 6) (by decide)).2, ev_bin e1 ev_cst (d_fmod (by decide))⟩
  refine d_fmod (by first | decide | (with_reducible first | exact lv hn | exact lv1 hn | exact lv2 hn | exact Int.natCast_nonneg _) | omega) _ ?_
  obtain ⟨p1, p2⟩ := fmod_in (Int.fdiv v0 6) (m := N) (by first | decide | (with_reducible first | exact lv hn | exact lv1 hn | exact lv2 hn | exact Int.natCast_nonneg _) | omega)
  obtain ⟨many, hmany⟩ : ∃ many : Nat, (many : Int) = 1 + Int.fmod (Int.fdiv v0 6) N := ⟨(1 + Int.fmod (Int.fdiv v0 6) N).toNat, (by first | decide | (with_reducible first | exact lv hn | exact lv1 hn | exact lv2 hn | exact Int.natCast_nonneg _ | assumption) | omega)⟩
  have m1 : 1 ≤ many := by omega
  have m40 : many ≤ 40 := by omega
  rw [bn_add, ← hmany]
  clear hmany p1 p2 e0
  have B₁ := A0.chg c₁ id
  refine g_house (o := o₁) (b := 1) (fa := fa) (lv hn) Z.mh Z.md Z.s.z.hm.hf most m1 m40 (ev_nm lk_eq) fun x o₂ σ₂ c₂ X₂ => ?_
  refine g_asgC Fh (es_cons (ev_nm (lk_ne (by decide) lk_eq)) es_nil) (rhouse_ok (n := n) (o := o₂) (b := 2) (lv1 hn) Fh Fd m40 fun A o₃ σ₃ c₃ R₃ => ?_)
  refine g_house (o := o₃) (b := 4) (many := 2) (fa := fa) (lv hn) Z.mh Z.md Z.s.z.hm.hf most (by decide) (by decide) ev_cst fun x2 o₄ σ₄ c₄ X₄ => ?_
  refine g_asgC Fh (es_cons ev_cst es_nil) (rhouse_ok (n := n) (o := o₄) (b := 5) (many := 2) (lv1 hn) Fh Fd (by decide) fun A2 o₅ σ₅ c₅ R₅ => ?_)
  have f4 : ∀ t : Tag, t.1 = 1 ∨ t.1 = 2 ∨ t.1 = 3 ∨ t.1 = 9 → ¬ t.1 = 4 := fun t h z => by omega
  refine loops8 (lv hn) Z (x := x) (y := A.d) (x2 := x2) (y2 := A2.d) (l := l) (many := many) ⟨⟨_, ⟨((X₂.chg c₃ fun _ => id).chg c₄ fun j => f4 _ (.inl rfl)).chg c₅ fun _ => id, ⟨A, [], rfl, (R₃.chg c₄ fun j => f4 _ (.inr (.inl rfl))).chg c₅ fun _ => id, .inl rfl⟩, Nat.zero_le _⟩, Nat.le_refl _⟩, ⟨_, ⟨X₄.chg c₅ fun _ => id, ⟨A2, [], rfl, R₅, .inl rfl⟩, Nat.zero_le _⟩, Nat.le_refl _⟩, (((B₁.chg c₂ (by decide)).chg c₃ id).chg c₄ (by decide)).chg c₅ id⟩ m1 m40 hsz ⟨lk_ne (by decide) (lk_ne (by decide) (lk_ne (by decide) (lk_ne (by decide) (lk_ne (by decide) q1)))), lk_ne (by decide) (lk_ne (by decide) (lk_ne (by decide) (lk_ne (by decide) lk_eq))), lk_ne (by decide) (lk_ne (by decide) (lk_ne (by decide) lk_eq)), lk_ne (by decide) (lk_ne (by decide) lk_eq), lk_ne (by decide) lk_eq, lk_eq⟩
end
end Mine
set_option maxRecDepth 100000
set_option Elab.async false
set_option maxHeartbeats 4000000
namespace Mine
open PySem PyProof.Rows PySem.W
theorem d08 : DefIs q08 "less" ["one", "other"] cless ∧ DefIs q08 "greatest" ["marks"] cgreatest ∧ DefIs q08 "is_place" ["thing", "many"] cis_place ∧ DefIs q08 "_law_whole" ["_law_found"] c_law_whole ∧ DefIs q08 "_law_cell_at" ["_law_script", "_law_k"] c_law_cell_at ∧ DefIs q08 "_law_mark" ["_law_found"] c_law_mark ∧ DefIs q08 "_law_mail" ["_law_found"] c_law_mail ∧ DefIs q08 "_law_sign" ["_law_cell"] c_law_sign ∧ DefIs q08 "_law_desk" ["_law_hand_here"] c_law_desk ∧ DefIs q08 "_law_first" ["_law_d"] c_law_first ∧ DefIs q08 "_law_proposed" ["_law_d", "_law_letter_here"] c_law_proposed ∧ DefIs q08 "_law_settled" ["_law_d", "_law_letter_here", "_law_mark_here"] c_law_settled ∧ DefIs q08 "_law_house" ["_law_many"] c_law_house ∧ DefIs q08 "_law_to_others" ["_law_h", "_law_word", "_law_letter_here", "_law_mark_here"] c_law_to_others ∧ DefIs q08 "_law_look" ["_law_h", "_law_letter_here"] c_law_look ∧ DefIs q08 "_law_sent" ["_law_h", "_law_hand_here", "_law_text"] c_law_sent ∧ DefIs q08 "_law_brought" ["_law_h", "_law_place"] c_law_brought ∧ DefIs q08 "_law_mails" ["_law_found", "_law_due"] c_law_mails ∧ DefIs q08 "_law_row" ["_law_found", "_law_due"] c_law_row ∧ DefIs q08 "_law_hand" ["_law_house_here", "_law_h", "_law_hand_here"] c_law_hand ∧ DefIs q08 "_law_missing" ["_law_house_here", "_law_place"] c_law_missing ∧ DefIs q08 "_law_letter" ["_law_house_here", "_law_h", "_law_letter_here"] c_law_letter ∧ DefIs q08 "_law_rested" ["_law_house_here", "_law_h"] c_law_rested ∧ DefIs q08 "_law_step" ["_law_house_here", "_law_h", "_law_kind", "_law_cell"] c_law_step ∧ DefIs q08 "law" ["_law_script"] claw := by
  unfold DefIs
  refine ⟨?_, ?_, ?_, ?_, ?_, ?_, ?_, ?_, ?_, ?_, ?_, ?_, ?_, ?_, ?_, ?_, ?_, ?_, ?_, ?_, ?_, ?_, ?_, ?_, ?_⟩ <;> kernel_rfl
theorem m08 (P : Params) : MtIs (K08 P) 198 153 "propose" ["self", "letter"] cDesk_propose ∧ MtIs (K08 P) 198 160 "open_place" ["self", "letter"] cDesk_open_place ∧ MtIs (K08 P) 198 167 "settle" ["self", "letter", "mark"] cDesk_settle ∧ MtIs (K08 P) 198 174 "least_place" ["self"] cDesk_least_place ∧ MtIs (K08 P) 198 188 "handed" ["self"] cDesk_handed ∧ MtIs (K08 P) 198 195 "clock" ["self"] cDesk_clock ∧ MtIs (K08 P) 322 228 "need_hand" ["self", "hand"] cHouse_need_hand ∧ MtIs (K08 P) 322 235 "need_letter" ["self", "letter"] cHouse_need_letter ∧ MtIs (K08 P) 322 242 "to_others" ["self", "word", "letter", "mark"] cHouse_to_others ∧ MtIs (K08 P) 322 256 "close" ["self", "letter"] cHouse_close ∧ MtIs (K08 P) 322 249 "send" ["self", "hand", "text"] cHouse_send ∧ MtIs (K08 P) 322 270 "bring" ["self", "place"] cHouse_bring ∧ MtIs (K08 P) 322 263 "mails" ["self"] cHouse_mails ∧ MtIs (K08 P) 322 312 "handed" ["self", "hand"] cHouse_handed ∧ MtIs (K08 P) 322 284 "letters" ["self"] cHouse_letters ∧ MtIs (K08 P) 322 291 "sender" ["self", "letter"] cHouse_sender ∧ MtIs (K08 P) 322 298 "text" ["self", "letter"] cHouse_text ∧ MtIs (K08 P) 322 305 "mark" ["self", "letter"] cHouse_mark ∧ MtIs (K08 P) 322 319 "clock" ["self", "hand"] cHouse_clock ∧ MtIs (K08 P) 322 277 "rest" ["self"] cHouse_rest := by
  unfold MtIs
  refine ⟨?_, ?_, ?_, ?_, ?_, ?_, ?_, ?_, ?_, ?_, ?_, ?_, ?_, ?_, ?_, ?_, ?_, ?_, ?_, ?_⟩ <;> kernel_rfl
theorem n08 (P : Params) : MkIs (K08 P) 198 146 ["self", "hand"] cDesk___init__ ∧ MkIs (K08 P) 322 221 ["self", "many"] cHouse___init__ ∧ clsOk (K08 P) 198 deskAs = true ∧ clsOk (K08 P) 322 houseAs = true := by
  unfold MkIs
  refine ⟨?_, ?_, ?_, ?_⟩ <;> kernel_rfl
theorem g08 (P : Params) : globK (K08 P) "Desk" = some (.ref 198) ∧ globK (K08 P) "House" = some (.ref 322) ∧ globK (K08 P) "Twice" = some (.ref 92) ∧ globK (K08 P) "NotOpen" = some (.ref 104) ∧ globK (K08 P) "BadMark" = some (.ref 116) ∧ globK (K08 P) "NoMail" = some (.ref 80) ∧ globK (K08 P) "BellError" = some (.ref 31) ∧ globK (K08 P) "ValueError" = none := by
  refine ⟨?_, ?_, ?_, ?_, ?_, ?_, ?_, ?_⟩ <;> kernel_rfl
theorem exk08 (P : Params) : ExcK (K08 P) 80 := by
  constructor <;> kernel_rfl
theorem kit08 (P : Params) : W.kitOne (K08 P) (.ref 80) (.ref 80) = some true ∧ W.kitOne (K08 P) (.ref 80) (.type "ValueError") = some true ∧ W.exmOne (K08 P) (.ref 80) (.ref 31) = some true := by
  refine ⟨?_, ?_, ?_⟩ <;> kernel_rfl
theorem ws08 : OpenLaw.wellSaid PySem.Challenge.rw_uf050023_08 = true := by kernel_rfl
theorem x08 : PySem.Challenge.rw_uf050023_08.Holds := by
  w_on
  refine holds_law ws08 fun said => ?_
  refine holds_open (q := q08) (loose := []) (Xt := fun s => xlAt q08 [] s && recOk (RowW.records (OpenRow.toRowW PySem.Challenge.rw_uf050023_08.row)) s) (XP := XL q08 []) (Yf := Hook.obs hk08) (Ya := Hook.val hk08) (YP := Hook.says hk08) (N := 7480) left08 (Hook.of hk08) (Hook.keeps hk08) (fun s e => xl_of s (Bool.and_eq_true_iff.mp e).1) XL.keeps (by rfl) (by rfl) (by rfl) (fun s e => recFacts_of (Bool.and_eq_true_iff.mp e).2) (by rfl) (by first | assumption | decide +kernel) (by decide +kernel) ⟨rfl, rfl, rfl, rfl, rfl, by decide +kernel⟩ ?hw ?hc
  case hw => w_witness2
  case hc =>
    intro w s₀ s₁ mg mb G Y fa o pm cd doc dV kV ho hd hcd hD hmg hg args vals as hpre hlay hrd hwl hlo
    have KX : Frag.In (K08 w.params) s₁.heap := kIn_of Y
    clear ho hd hcd hD
    refine Ground.open G ?_
    intro T B D TE TW
    wrow_args hpre hlay hrd hwl hlo
    rename_i ns _ _ _ _ _ _ _ l vs _ hL _ W1 _ hI _ hcond _
    have hsz : ns.length ≤ 63 := by omega
    have nb : noB q08 (looseW q08 []) = true := by decide +kernel
    let GG := topG T PySem.Challenge.rw_uf050023_08.row.prog w _ KX nb
    have gk : ∀ x, GG.mg x = globK (K08 w.params) x := fun x => globK_of KX T.g (by kernel_rfl) x
    obtain ⟨tk, most⟩ := const_int T (x := "MOST_HANDS") (i := 40) (by kernel_rfl)
    have ZF : HF GG 322 198 := ⟨cls_of (n08 w.params).2.2.2, cls_of (n08 w.params).2.2.1, fn1_top (G := GG) T rfl (fun t => t) _ _ _ d08.2.2.1, fn1_top (G := GG) T rfl (fun t => t) _ _ _ d08.1, fn1_top (G := GG) T rfl (fun t => t) _ _ _ d08.2.1, ⟨_, mt_of (m08 w.params).1⟩, ⟨_, mt_of (m08 w.params).2.1⟩, ⟨_, mt_of (m08 w.params).2.2.1⟩, ⟨_, mt_of (m08 w.params).2.2.2.1⟩, ⟨_, mt_of (m08 w.params).2.2.2.2.1⟩, ⟨_, mt_of (m08 w.params).2.2.2.2.2.1⟩, ⟨_, mt_of (m08 w.params).2.2.2.2.2.2.1⟩, ⟨_, mt_of (m08 w.params).2.2.2.2.2.2.2.1⟩, ⟨_, mt_of (m08 w.params).2.2.2.2.2.2.2.2.1⟩, ⟨_, mt_of (m08 w.params).2.2.2.2.2.2.2.2.2.1⟩, ⟨_, (gk _).trans (g08 w.params).2.2.1, exc_top (G := GG) T rfl (fun t => t) ((gk _).trans (g08 w.params).2.2.1) (by kernel_rfl)⟩, ⟨_, (gk _).trans (g08 w.params).2.2.2.1, exc_top (G := GG) T rfl (fun t => t) ((gk _).trans (g08 w.params).2.2.2.1) (by kernel_rfl)⟩, ⟨_, (gk _).trans (g08 w.params).2.2.2.2.1, exc_top (G := GG) T rfl (fun t => t) ((gk _).trans (g08 w.params).2.2.2.2.1) (by kernel_rfl)⟩⟩
    have MH : Mk GG "House" 322 ["self", "many"] cHouse___init__ := mk_of ((gk _).trans (g08 w.params).2.1) (n08 w.params).2.1
    have MD : Mk GG "Desk" 198 ["self", "hand"] cDesk___init__ := mk_of ((gk _).trans (g08 w.params).1) (n08 w.params).1
    have en : GG.mg "NoMail" = some (.ref 80) := (gk _).trans (g08 w.params).2.2.2.2.2.1
    have Z : A8 GG 322 198 := ⟨⟨⟨⟨ZF, ⟨_, mt_of (m08 w.params).2.2.2.2.2.2.2.2.2.2.1⟩, ⟨_, mt_of (m08 w.params).2.2.2.2.2.2.2.2.2.2.2.1⟩, ⟨_, mt_of (m08 w.params).2.2.2.2.2.2.2.2.2.2.2.2.1⟩, ⟨_, mt_of (m08 w.params).2.2.2.2.2.2.2.2.2.2.2.2.2.1⟩⟩, ⟨_, mt_of (m08 w.params).2.2.2.2.2.2.2.2.2.2.2.2.2.2.2.2.2.2.2⟩, ⟨_, mt_of (m08 w.params).2.2.2.2.2.2.2.2.2.2.2.2.2.2.1⟩, ⟨_, mt_of (m08 w.params).2.2.2.2.2.2.2.2.2.2.2.2.2.2.2.1⟩, ⟨_, mt_of (m08 w.params).2.2.2.2.2.2.2.2.2.2.2.2.2.2.2.2.1⟩, ⟨_, mt_of (m08 w.params).2.2.2.2.2.2.2.2.2.2.2.2.2.2.2.2.2.1⟩, ⟨_, mt_of (m08 w.params).2.2.2.2.2.2.2.2.2.2.2.2.2.2.2.2.2.2.1⟩, ⟨_, en, exc_top (G := GG) T rfl (fun t => t) en (by kernel_rfl), exk08 _, (kit08 _).1, (gk _).trans (g08 w.params).2.2.2.2.2.2.2, (kit08 _).2.1, ⟨31, (gk _).trans (g08 w.params).2.2.2.2.2.2.1, (kit08 _).2.2⟩⟩, ⟨fn1_top (G := GG) T rfl (fun t => t) _ _ _ d08.2.2.2.2.2.2.2.2.2.1, fn1_top (G := GG) T rfl (fun t => t) _ _ _ d08.2.2.2.2.2.2.2.2.2.2.1, fn1_top (G := GG) T rfl (fun t => t) _ _ _ d08.2.2.2.2.2.2.2.2.2.2.2.1, fn1_top (G := GG) T rfl (fun t => t) _ _ _ d08.2.2.2.2.2.2.2.2.2.2.2.2.2.1, fn1_top (G := GG) T rfl (fun t => t) _ _ _ d08.2.2.2.2.2.2.2.2.2.2.2.2.2.2.1⟩, fn1_top (G := GG) T rfl (fun t => t) _ _ _ d08.2.2.2.1, fn1_top (G := GG) T rfl (fun t => t) _ _ _ d08.2.2.2.2.2.1, fn1_top (G := GG) T rfl (fun t => t) _ _ _ d08.2.2.2.2.2.2.1, fn1_top (G := GG) T rfl (fun t => t) _ _ _ d08.2.2.2.2.2.2.2.2.2.2.2.2.2.2.2.1, fn1_top (G := GG) T rfl (fun t => t) _ _ _ d08.2.2.2.2.2.2.2.2.2.2.2.2.2.2.2.2.1, fn1_top (G := GG) T rfl (fun t => t) _ _ _ d08.2.2.2.2.2.2.2.2.2.2.2.2.2.2.2.2.2.1, fn1_top (G := GG) T rfl (fun t => t) _ _ _ d08.2.2.2.2.2.2.2.2.2.2.2.2.2.2.2.2.2.2.1⟩, fn1_top (G := GG) T rfl (fun t => t) _ _ _ d08.2.2.2.2.2.2.2.1, fn1_top (G := GG) T rfl (fun t => t) _ _ _ d08.2.2.2.2.2.2.2.2.2.2.2.2.2.2.2.2.2.2.2.1, fn1_top (G := GG) T rfl (fun t => t) _ _ _ d08.2.2.2.2.2.2.2.2.2.2.2.2.2.2.2.2.2.2.2.2.1, fn1_top (G := GG) T rfl (fun t => t) _ _ _ d08.2.2.2.2.2.2.2.2.2.2.2.2.2.2.2.2.2.2.2.2.2.1, fn1_top (G := GG) T rfl (fun t => t) _ _ _ d08.2.2.2.2.2.2.2.2.2.2.2.2.2.2.2.2.2.2.2.2.2.2.1⟩, fn1_top (G := GG) T rfl (fun t => t) _ _ _ d08.2.2.2.2.2.2.2.2.2.2.2.2.2.2.2.2.2.2.2.2.2.2.2.1, fn1_top (G := GG) T rfl (fun t => t) _ _ _ d08.2.2.2.2.1, fn1_top (G := GG) T rfl (fun t => t) _ _ _ d08.2.2.2.2.2.2.2.2.2.2.2.2.1, fn1_top (G := GG) T rfl (fun t => t) _ _ _ d08.2.2.2.2.2.2.2.2.1, MH, MD, ⟨tk, most⟩⟩
    exact law_end T (hK := KX) (e := nb) hg (fun _ => rfl) (by first | rfl | wrow_post) d08.2.2.2.2.2.2.2.2.2.2.2.2.2.2.2.2.2.2.2.2.2.2.2.2 hmg hL W1 hI (law08 (by first | decide | (with_reducible first | exact lv hn | exact lv1 hn | exact lv2 hn | exact Int.natCast_nonneg _) | omega) Z (upd_same _ _ _) hsz)
end Mine

theorem PySem.Challenge.cw_uf050023_08_holds : PySem.Challenge.rw_uf050023_08.Holds :=
  Mine.x08
