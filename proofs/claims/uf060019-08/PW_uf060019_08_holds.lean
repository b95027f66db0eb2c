import PyProof.Rows.All
import KE.LcSums
import KE.KListMore
import KE.KPop
import OpenK.KPick
import OpenK.KFor
import OpenK.KLaw
import OpenK.KOwn
import OpenK.KList
import OpenK.KCell
import OpenK.KWalk
import OpenK.KLine
import Wide.Line
import Open.Line
import PySem.Challenge.RW_uf060019_08
set_option Elab.async false
set_option compiler.extract_closed false
set_option maxRecDepth 100000
set_option maxHeartbeats 8000000
open PySem PySem.W PySem.Calls PyProof.Rows
namespace Mine
/-! ## the top: what it leaves -/
abbrev pg : Program := PySem.Challenge.pw_uf060019_08
noncomputable def stA : Stmt → Arguments
  | .FunctionDef _ a _ _ _ _ _ _ _ _ => a
  | _ => { posonlyargs := [], args := [], vararg := none, kwonlyargs := [], kw_defaults := [], kwarg := none, defaults := [] }
noncomputable def stB : Stmt → List Stmt
  | .FunctionDef _ _ b _ _ _ _ _ _ _ => b
  | .ClassDef _ _ _ b _ _ _ _ _ _ _ => b
  | _ => []
noncomputable def stS : Stmt → Scope
  | .FunctionDef _ _ _ _ _ _ s _ _ _ => s
  | _ => pg.main.scope
noncomputable def st (i : Nat) : Stmt := pg.main.body.getD i (.Pass ⟨0, 0, 0, 0⟩)
noncomputable def st2 (i j : Nat) : Stmt := (stB (st i)).getD j (.Pass ⟨0, 0, 0, 0⟩)
noncomputable def heap (P : Params) : Frag := 
  (nat_lit 2, { cls := Value.none, data := Data.dict #[] }) ::
  (nat_lit 3, { cls := Value.type "dict", data := Data.dict #[{ hash := PyData.keyHash P (Str.ofString "__name__"), key := Value.str (Str.ofString "__name__") 165, val := Value.str (Str.ofString "law_uf060019_08") 521 }, { hash := PyData.keyHash P (Str.ofString "__doc__"), key := Value.str (Str.ofString "__doc__") 166, val := Value.none }, { hash := PyData.keyHash P (Str.ofString "__package__"), key := Value.str (Str.ofString "__package__") 167, val := Value.none }, { hash := PyData.keyHash P (Str.ofString "__loader__"), key := Value.str (Str.ofString "__loader__") 168, val := Value.builtin "__main__.__loader__#opaque" }, { hash := PyData.keyHash P (Str.ofString "__spec__"), key := Value.str (Str.ofString "__spec__") 169, val := Value.none }, { hash := PyData.keyHash P (Str.ofString "__annotations__"), key := Value.str (Str.ofString "__annotations__") 170, val := Value.ref 6 }, { hash := PyData.keyHash P (Str.ofString "__builtins__"), key := Value.str (Str.ofString "__builtins__") 171, val := Value.ref 4 }, { hash := PyData.keyHash P (Str.ofString "__file__"), key := Value.str (Str.ofString "__file__") 173, val := Value.str (Str.ofString "/claim/cut.py") 172 }, { hash := PyData.keyHash P (Str.ofString "__cached__"), key := Value.str (Str.ofString "__cached__") 174, val := Value.none }, { hash := PyData.keyHash P (Str.ofString "_wall"), key := Value.str (Str.ofString "_wall") 193, val := Value.ref 21 }, { hash := PyData.keyHash P (Str.ofString "RingError"), key := Value.str (Str.ofString "RingError") 213, val := Value.ref 31 }, { hash := PyData.keyHash P (Str.ofString "BadRing"), key := Value.str (Str.ofString "BadRing") 229, val := Value.ref 44 }, { hash := PyData.keyHash P (Str.ofString "NoHand"), key := Value.str (Str.ofString "NoHand") 245, val := Value.ref 56 }, { hash := PyData.keyHash P (Str.ofString "NoMail"), key := Value.str (Str.ofString "NoMail") 261, val := Value.ref 68 }, { hash := PyData.keyHash P (Str.ofString "ASK"), key := Value.str (Str.ofString "ASK") 265, val := Value.str (Str.ofString "ask") 264 }, { hash := PyData.keyHash P (Str.ofString "ANSWER"), key := Value.str (Str.ofString "ANSWER") 267, val := Value.str (Str.ofString "answer") 266 }, { hash := PyData.keyHash P (Str.ofString "CROWN"), key := Value.str (Str.ofString "CROWN") 269, val := Value.str (Str.ofString "crown") 268 }, { hash := PyData.keyHash P (Str.ofString "Hand"), key := Value.str (Str.ofString "Hand") 383, val := Value.ref 157 }, { hash := PyData.keyHash P (Str.ofString "MOST_HANDS"), key := Value.str (Str.ofString "MOST_HANDS") 387, val := Value.int 64 386 }, { hash := PyData.keyHash P (Str.ofString "is_number"), key := Value.str (Str.ofString "is_number") 394, val := Value.ref 168 }, { hash := PyData.keyHash P (Str.ofString "are_numbers"), key := Value.str (Str.ofString "are_numbers") 402, val := Value.ref 175 }, { hash := PyData.keyHash P (Str.ofString "Ring"), key := Value.str (Str.ofString "Ring") 520, val := Value.ref 267 }, { hash := PyData.keyHash P (Str.ofString "_law_cell_at"), key := Value.str (Str.ofString "_law_cell_at") 530, val := Value.ref 278 }, { hash := PyData.keyHash P (Str.ofString "_law_whole"), key := Value.str (Str.ofString "_law_whole") 537, val := Value.ref 285 }, { hash := PyData.keyHash P (Str.ofString "_law_numbers"), key := Value.str (Str.ofString "_law_numbers") 543, val := Value.ref 290 }, { hash := PyData.keyHash P (Str.ofString "_law_brought"), key := Value.str (Str.ofString "_law_brought") 553, val := Value.ref 297 }, { hash := PyData.keyHash P (Str.ofString "_law_deed"), key := Value.str (Str.ofString "_law_deed") 563, val := Value.ref 304 }, { hash := PyData.keyHash P (Str.ofString "_law_alone"), key := Value.str (Str.ofString "_law_alone") 574, val := Value.ref 311 }, { hash := PyData.keyHash P (Str.ofString "_law_stages"), key := Value.str (Str.ofString "_law_stages") 586, val := Value.ref 318 }, { hash := PyData.keyHash P (Str.ofString "_law_going"), key := Value.str (Str.ofString "_law_going") 597, val := Value.ref 325 }, { hash := PyData.keyHash P (Str.ofString "law"), key := Value.str (Str.ofString "law") 609, val := Value.ref 332 }] 31 }) ::
  (nat_lit 15, { cls := Value.type "tuple", data := Data.seq #[] }) ::
  (nat_lit 17, { cls := Value.type "tuple", data := Data.seq #[Value.str (Str.ofString "k") 190] }) ::
  (nat_lit 18, { cls := Value.type "tuple", data := Data.seq #[] }) ::
  (nat_lit 20, { cls := Value.type "code", data := Data.fields #[Value.str (Str.ofString "_wall") 187, Value.str (Str.ofString "_wall") 188, Value.str (Str.ofString "/claim/cut.py") 189, Value.int 1 0, Value.int 1 0, Value.int 0 0, Value.int 0 0, Value.int 3 0, Value.ref 15, Value.bool true, Value.int 181 0, Value.ref 16, Value.none, Value.ref 17, Value.ref 18, Value.ref 19, Value.int 191 0, Value.int 1 0, Value.str (Str.ofString "/claim/cut.py") 192] }) ::
  (nat_lit 21, { cls := Value.type "function", data := Data.func { name := Str.ofString "_wall", qualname := Str.ofString "_wall", params := stA (st 0), body := FuncBody.stmts (stB (st 0)), scope := stS (st 0), globals := 3, closure := [], defaults := Value.none, kwdefaults := Value.none, pyModule := Value.str (Str.ofString "__main__") 164, code := Value.ref 20 } }) ::
  (nat_lit 22, { cls := Value.type "tuple", data := Data.seq #[Value.type "ValueError"] }) ::
  (nat_lit 29, { cls := Value.type "tuple", data := Data.seq #[] }) ::
  (nat_lit 30, { cls := Value.type "dict", data := Data.dict #[{ hash := PyData.keyHash P (Str.ofString "__module__"), key := Value.str (Str.ofString "__module__") 203, val := Value.str (Str.ofString "ringcrown.errors") 194 }, { hash := PyData.keyHash P (Str.ofString "__firstlineno__"), key := Value.str (Str.ofString "__firstlineno__") 207, val := Value.int 5 206 }, { hash := PyData.keyHash P (Str.ofString "__static_attributes__"), key := Value.str (Str.ofString "__static_attributes__") 208, val := Value.ref 29 }, { hash := PyData.keyHash P (Str.ofString "__weakref__"), key := Value.str (Str.ofString "__weakref__") 210, val := Value.ref 32 }, { hash := PyData.keyHash P (Str.ofString "__doc__"), key := Value.str (Str.ofString "__doc__") 211, val := Value.none }] 3 }) ::
  (nat_lit 31, { cls := Value.type "type", data := Data.cls { name := Str.ofString "RingError", bases := [Value.type "ValueError"], mro := [Value.ref 31, Value.type "ValueError", Value.type "Exception", Value.type "BaseException", Value.type "object"], ns := 30, qualname := Str.ofString "RingError", subclasses := [Value.ref 44, Value.ref 56, Value.ref 68] }, slots := #[some (Value.ref 22), none, some (Value.str (Str.ofString "RingError") 196), some (Value.str (Str.ofString "RingError") 204), some (Value.builtin "ValueError.__new__"), some (Value.bool true)] }) ::
  (nat_lit 32, { cls := Value.type "getset_descriptor", data := Data.fields #[Value.str (Str.ofString "__weakref__") 209, Value.ref 31, Value.builtin "ExceptionGroup.__weakref__", Value.none] }) ::
  (nat_lit 35, { cls := Value.type "tuple", data := Data.seq #[Value.ref 31] }) ::
  (nat_lit 42, { cls := Value.type "tuple", data := Data.seq #[] }) ::
  (nat_lit 43, { cls := Value.type "dict", data := Data.dict #[{ hash := PyData.keyHash P (Str.ofString "__module__"), key := Value.str (Str.ofString "__module__") 221, val := Value.str (Str.ofString "ringcrown.errors") 194 }, { hash := PyData.keyHash P (Str.ofString "__firstlineno__"), key := Value.str (Str.ofString "__firstlineno__") 225, val := Value.int 7 224 }, { hash := PyData.keyHash P (Str.ofString "__static_attributes__"), key := Value.str (Str.ofString "__static_attributes__") 226, val := Value.ref 42 }, { hash := PyData.keyHash P (Str.ofString "__doc__"), key := Value.str (Str.ofString "__doc__") 227, val := Value.none }] 2 }) ::
  (nat_lit 44, { cls := Value.type "type", data := Data.cls { name := Str.ofString "BadRing", bases := [Value.ref 31], mro := [Value.ref 44, Value.ref 31, Value.type "ValueError", Value.type "Exception", Value.type "BaseException", Value.type "object"], ns := 43, qualname := Str.ofString "BadRing" }, slots := #[some (Value.ref 35), none, some (Value.str (Str.ofString "BadRing") 214), some (Value.str (Str.ofString "BadRing") 222), some (Value.builtin "ValueError.__new__"), some (Value.bool true)] }) ::
  (nat_lit 47, { cls := Value.type "tuple", data := Data.seq #[Value.ref 31] }) ::
  (nat_lit 54, { cls := Value.type "tuple", data := Data.seq #[] }) ::
  (nat_lit 55, { cls := Value.type "dict", data := Data.dict #[{ hash := PyData.keyHash P (Str.ofString "__module__"), key := Value.str (Str.ofString "__module__") 237, val := Value.str (Str.ofString "ringcrown.errors") 194 }, { hash := PyData.keyHash P (Str.ofString "__firstlineno__"), key := Value.str (Str.ofString "__firstlineno__") 241, val := Value.int 9 240 }, { hash := PyData.keyHash P (Str.ofString "__static_attributes__"), key := Value.str (Str.ofString "__static_attributes__") 242, val := Value.ref 54 }, { hash := PyData.keyHash P (Str.ofString "__doc__"), key := Value.str (Str.ofString "__doc__") 243, val := Value.none }] 2 }) ::
  (nat_lit 56, { cls := Value.type "type", data := Data.cls { name := Str.ofString "NoHand", bases := [Value.ref 31], mro := [Value.ref 56, Value.ref 31, Value.type "ValueError", Value.type "Exception", Value.type "BaseException", Value.type "object"], ns := 55, qualname := Str.ofString "NoHand" }, slots := #[some (Value.ref 47), none, some (Value.str (Str.ofString "NoHand") 230), some (Value.str (Str.ofString "NoHand") 238), some (Value.builtin "ValueError.__new__"), some (Value.bool true)] }) ::
  (nat_lit 59, { cls := Value.type "tuple", data := Data.seq #[Value.ref 31] }) ::
  (nat_lit 66, { cls := Value.type "tuple", data := Data.seq #[] }) ::
  (nat_lit 67, { cls := Value.type "dict", data := Data.dict #[{ hash := PyData.keyHash P (Str.ofString "__module__"), key := Value.str (Str.ofString "__module__") 253, val := Value.str (Str.ofString "ringcrown.errors") 194 }, { hash := PyData.keyHash P (Str.ofString "__firstlineno__"), key := Value.str (Str.ofString "__firstlineno__") 257, val := Value.int 11 256 }, { hash := PyData.keyHash P (Str.ofString "__static_attributes__"), key := Value.str (Str.ofString "__static_attributes__") 258, val := Value.ref 66 }, { hash := PyData.keyHash P (Str.ofString "__doc__"), key := Value.str (Str.ofString "__doc__") 259, val := Value.none }] 2 }) ::
  (nat_lit 68, { cls := Value.type "type", data := Data.cls { name := Str.ofString "NoMail", bases := [Value.ref 31], mro := [Value.ref 68, Value.ref 31, Value.type "ValueError", Value.type "Exception", Value.type "BaseException", Value.type "object"], ns := 67, qualname := Str.ofString "NoMail" }, slots := #[some (Value.ref 59), none, some (Value.str (Str.ofString "NoMail") 246), some (Value.str (Str.ofString "NoMail") 254), some (Value.builtin "ValueError.__new__"), some (Value.bool true)] }) ::
  (nat_lit 78, { cls := Value.type "tuple", data := Data.seq #[] }) ::
  (nat_lit 80, { cls := Value.type "tuple", data := Data.seq #[Value.str (Str.ofString "self") 285, Value.str (Str.ofString "number") 286] }) ::
  (nat_lit 81, { cls := Value.type "tuple", data := Data.seq #[] }) ::
  (nat_lit 83, { cls := Value.type "code", data := Data.fields #[Value.str (Str.ofString "__init__") 282, Value.str (Str.ofString "Hand.__init__") 283, Value.str (Str.ofString "/claim/cut.py") 284, Value.int 19 0, Value.int 2 0, Value.int 0 0, Value.int 0 0, Value.int 3 0, Value.ref 78, Value.bool true, Value.int 181 0, Value.ref 79, Value.none, Value.ref 80, Value.ref 81, Value.ref 82, Value.int 287 0, Value.int 19 0, Value.str (Str.ofString "/claim/cut.py") 288] }) ::
  (nat_lit 84, { cls := Value.type "function", data := Data.func { name := Str.ofString "__init__", qualname := Str.ofString "Hand.__init__", params := stA (st2 10 0), body := FuncBody.stmts (stB (st2 10 0)), scope := stS (st2 10 0), globals := 3, closure := [], defaults := Value.none, kwdefaults := Value.none, pyModule := Value.str (Str.ofString "ringcrown.hand") 262, code := Value.ref 83 } }) ::
  (nat_lit 85, { cls := Value.type "tuple", data := Data.seq #[] }) ::
  (nat_lit 87, { cls := Value.type "tuple", data := Data.seq #[Value.str (Str.ofString "self") 293, Value.str (Str.ofString "right") 294, Value.str (Str.ofString "left") 295] }) ::
  (nat_lit 88, { cls := Value.type "tuple", data := Data.seq #[] }) ::
  (nat_lit 90, { cls := Value.type "code", data := Data.fields #[Value.str (Str.ofString "two_asks") 290, Value.str (Str.ofString "Hand.two_asks") 291, Value.str (Str.ofString "/claim/cut.py") 292, Value.int 28 0, Value.int 1 0, Value.int 0 0, Value.int 0 0, Value.int 3 0, Value.ref 85, Value.bool true, Value.int 181 0, Value.ref 86, Value.none, Value.ref 87, Value.ref 88, Value.ref 89, Value.int 296 0, Value.int 28 0, Value.str (Str.ofString "/claim/cut.py") 297] }) ::
  (nat_lit 91, { cls := Value.type "function", data := Data.func { name := Str.ofString "two_asks", qualname := Str.ofString "Hand.two_asks", params := stA (st2 10 1), body := FuncBody.stmts (stB (st2 10 1)), scope := stS (st2 10 1), globals := 3, closure := [], defaults := Value.none, kwdefaults := Value.none, pyModule := Value.str (Str.ofString "ringcrown.hand") 262, code := Value.ref 90 } }) ::
  (nat_lit 92, { cls := Value.type "tuple", data := Data.seq #[] }) ::
  (nat_lit 94, { cls := Value.type "tuple", data := Data.seq #[Value.str (Str.ofString "self") 302] }) ::
  (nat_lit 95, { cls := Value.type "tuple", data := Data.seq #[] }) ::
  (nat_lit 97, { cls := Value.type "code", data := Data.fields #[Value.str (Str.ofString "wake") 299, Value.str (Str.ofString "Hand.wake") 300, Value.str (Str.ofString "/claim/cut.py") 301, Value.int 33 0, Value.int 1 0, Value.int 0 0, Value.int 0 0, Value.int 3 0, Value.ref 92, Value.bool true, Value.int 181 0, Value.ref 93, Value.none, Value.ref 94, Value.ref 95, Value.ref 96, Value.int 303 0, Value.int 33 0, Value.str (Str.ofString "/claim/cut.py") 304] }) ::
  (nat_lit 98, { cls := Value.type "function", data := Data.func { name := Str.ofString "wake", qualname := Str.ofString "Hand.wake", params := stA (st2 10 2), body := FuncBody.stmts (stB (st2 10 2)), scope := stS (st2 10 2), globals := 3, closure := [], defaults := Value.none, kwdefaults := Value.none, pyModule := Value.str (Str.ofString "ringcrown.hand") 262, code := Value.ref 97 } }) ::
  (nat_lit 99, { cls := Value.type "tuple", data := Data.seq #[] }) ::
  (nat_lit 101, { cls := Value.type "tuple", data := Data.seq #[Value.str (Str.ofString "self") 309, Value.str (Str.ofString "letter") 310, Value.str (Str.ofString "first") 311] }) ::
  (nat_lit 102, { cls := Value.type "tuple", data := Data.seq #[] }) ::
  (nat_lit 104, { cls := Value.type "code", data := Data.fields #[Value.str (Str.ofString "take") 306, Value.str (Str.ofString "Hand.take") 307, Value.str (Str.ofString "/claim/cut.py") 308, Value.int 39 0, Value.int 2 0, Value.int 0 0, Value.int 0 0, Value.int 3 0, Value.ref 99, Value.bool true, Value.int 181 0, Value.ref 100, Value.none, Value.ref 101, Value.ref 102, Value.ref 103, Value.int 312 0, Value.int 39 0, Value.str (Str.ofString "/claim/cut.py") 313] }) ::
  (nat_lit 105, { cls := Value.type "function", data := Data.func { name := Str.ofString "take", qualname := Str.ofString "Hand.take", params := stA (st2 10 3), body := FuncBody.stmts (stB (st2 10 3)), scope := stS (st2 10 3), globals := 3, closure := [], defaults := Value.none, kwdefaults := Value.none, pyModule := Value.str (Str.ofString "ringcrown.hand") 262, code := Value.ref 104 } }) ::
  (nat_lit 106, { cls := Value.type "tuple", data := Data.seq #[] }) ::
  (nat_lit 108, { cls := Value.type "tuple", data := Data.seq #[Value.str (Str.ofString "self") 318, Value.str (Str.ofString "letter") 319, Value.str (Str.ofString "way") 320, Value.str (Str.ofString "number") 321] }) ::
  (nat_lit 109, { cls := Value.type "tuple", data := Data.seq #[] }) ::
  (nat_lit 111, { cls := Value.type "code", data := Data.fields #[Value.str (Str.ofString "ask_came") 315, Value.str (Str.ofString "Hand.ask_came") 316, Value.str (Str.ofString "/claim/cut.py") 317, Value.int 47 0, Value.int 2 0, Value.int 0 0, Value.int 0 0, Value.int 3 0, Value.ref 106, Value.bool true, Value.int 181 0, Value.ref 107, Value.none, Value.ref 108, Value.ref 109, Value.ref 110, Value.int 322 0, Value.int 47 0, Value.str (Str.ofString "/claim/cut.py") 323] }) ::
  (nat_lit 112, { cls := Value.type "function", data := Data.func { name := Str.ofString "ask_came", qualname := Str.ofString "Hand.ask_came", params := stA (st2 10 4), body := FuncBody.stmts (stB (st2 10 4)), scope := stS (st2 10 4), globals := 3, closure := [], defaults := Value.none, kwdefaults := Value.none, pyModule := Value.str (Str.ofString "ringcrown.hand") 262, code := Value.ref 111 } }) ::
  (nat_lit 113, { cls := Value.type "tuple", data := Data.seq #[] }) ::
  (nat_lit 115, { cls := Value.type "tuple", data := Data.seq #[Value.str (Str.ofString "self") 328, Value.str (Str.ofString "letter") 329] }) ::
  (nat_lit 116, { cls := Value.type "tuple", data := Data.seq #[] }) ::
  (nat_lit 118, { cls := Value.type "code", data := Data.fields #[Value.str (Str.ofString "answer_came") 325, Value.str (Str.ofString "Hand.answer_came") 326, Value.str (Str.ofString "/claim/cut.py") 327, Value.int 63 0, Value.int 2 0, Value.int 0 0, Value.int 0 0, Value.int 3 0, Value.ref 113, Value.bool true, Value.int 181 0, Value.ref 114, Value.none, Value.ref 115, Value.ref 116, Value.ref 117, Value.int 330 0, Value.int 63 0, Value.str (Str.ofString "/claim/cut.py") 331] }) ::
  (nat_lit 119, { cls := Value.type "function", data := Data.func { name := Str.ofString "answer_came", qualname := Str.ofString "Hand.answer_came", params := stA (st2 10 5), body := FuncBody.stmts (stB (st2 10 5)), scope := stS (st2 10 5), globals := 3, closure := [], defaults := Value.none, kwdefaults := Value.none, pyModule := Value.str (Str.ofString "ringcrown.hand") 262, code := Value.ref 118 } }) ::
  (nat_lit 120, { cls := Value.type "tuple", data := Data.seq #[] }) ::
  (nat_lit 122, { cls := Value.type "tuple", data := Data.seq #[Value.str (Str.ofString "self") 336, Value.str (Str.ofString "letter") 337] }) ::
  (nat_lit 123, { cls := Value.type "tuple", data := Data.seq #[] }) ::
  (nat_lit 125, { cls := Value.type "code", data := Data.fields #[Value.str (Str.ofString "crown_came") 333, Value.str (Str.ofString "Hand.crown_came") 334, Value.str (Str.ofString "/claim/cut.py") 335, Value.int 76 0, Value.int 2 0, Value.int 0 0, Value.int 0 0, Value.int 3 0, Value.ref 120, Value.bool true, Value.int 181 0, Value.ref 121, Value.none, Value.ref 122, Value.ref 123, Value.ref 124, Value.int 338 0, Value.int 76 0, Value.str (Str.ofString "/claim/cut.py") 339] }) ::
  (nat_lit 126, { cls := Value.type "function", data := Data.func { name := Str.ofString "crown_came", qualname := Str.ofString "Hand.crown_came", params := stA (st2 10 6), body := FuncBody.stmts (stB (st2 10 6)), scope := stS (st2 10 6), globals := 3, closure := [], defaults := Value.none, kwdefaults := Value.none, pyModule := Value.str (Str.ofString "ringcrown.hand") 262, code := Value.ref 125 } }) ::
  (nat_lit 127, { cls := Value.type "tuple", data := Data.seq #[] }) ::
  (nat_lit 129, { cls := Value.type "tuple", data := Data.seq #[Value.str (Str.ofString "self") 344] }) ::
  (nat_lit 130, { cls := Value.type "tuple", data := Data.seq #[] }) ::
  (nat_lit 132, { cls := Value.type "code", data := Data.fields #[Value.str (Str.ofString "is_awake") 341, Value.str (Str.ofString "Hand.is_awake") 342, Value.str (Str.ofString "/claim/cut.py") 343, Value.int 82 0, Value.int 1 0, Value.int 0 0, Value.int 0 0, Value.int 3 0, Value.ref 127, Value.bool true, Value.int 181 0, Value.ref 128, Value.none, Value.ref 129, Value.ref 130, Value.ref 131, Value.int 345 0, Value.int 82 0, Value.str (Str.ofString "/claim/cut.py") 346] }) ::
  (nat_lit 133, { cls := Value.type "function", data := Data.func { name := Str.ofString "is_awake", qualname := Str.ofString "Hand.is_awake", params := stA (st2 10 7), body := FuncBody.stmts (stB (st2 10 7)), scope := stS (st2 10 7), globals := 3, closure := [], defaults := Value.none, kwdefaults := Value.none, pyModule := Value.str (Str.ofString "ringcrown.hand") 262, code := Value.ref 132 } }) ::
  (nat_lit 134, { cls := Value.type "tuple", data := Data.seq #[] }) ::
  (nat_lit 136, { cls := Value.type "tuple", data := Data.seq #[Value.str (Str.ofString "self") 351] }) ::
  (nat_lit 137, { cls := Value.type "tuple", data := Data.seq #[] }) ::
  (nat_lit 139, { cls := Value.type "code", data := Data.fields #[Value.str (Str.ofString "is_first") 348, Value.str (Str.ofString "Hand.is_first") 349, Value.str (Str.ofString "/claim/cut.py") 350, Value.int 85 0, Value.int 1 0, Value.int 0 0, Value.int 0 0, Value.int 3 0, Value.ref 134, Value.bool true, Value.int 181 0, Value.ref 135, Value.none, Value.ref 136, Value.ref 137, Value.ref 138, Value.int 352 0, Value.int 85 0, Value.str (Str.ofString "/claim/cut.py") 353] }) ::
  (nat_lit 140, { cls := Value.type "function", data := Data.func { name := Str.ofString "is_first", qualname := Str.ofString "Hand.is_first", params := stA (st2 10 8), body := FuncBody.stmts (stB (st2 10 8)), scope := stS (st2 10 8), globals := 3, closure := [], defaults := Value.none, kwdefaults := Value.none, pyModule := Value.str (Str.ofString "ringcrown.hand") 262, code := Value.ref 139 } }) ::
  (nat_lit 141, { cls := Value.type "tuple", data := Data.seq #[] }) ::
  (nat_lit 143, { cls := Value.type "tuple", data := Data.seq #[Value.str (Str.ofString "self") 358] }) ::
  (nat_lit 144, { cls := Value.type "tuple", data := Data.seq #[] }) ::
  (nat_lit 146, { cls := Value.type "code", data := Data.fields #[Value.str (Str.ofString "stage") 355, Value.str (Str.ofString "Hand.stage") 356, Value.str (Str.ofString "/claim/cut.py") 357, Value.int 88 0, Value.int 1 0, Value.int 0 0, Value.int 0 0, Value.int 3 0, Value.ref 141, Value.bool true, Value.int 181 0, Value.ref 142, Value.none, Value.ref 143, Value.ref 144, Value.ref 145, Value.int 359 0, Value.int 88 0, Value.str (Str.ofString "/claim/cut.py") 360] }) ::
  (nat_lit 147, { cls := Value.type "function", data := Data.func { name := Str.ofString "stage", qualname := Str.ofString "Hand.stage", params := stA (st2 10 9), body := FuncBody.stmts (stB (st2 10 9)), scope := stS (st2 10 9), globals := 3, closure := [], defaults := Value.none, kwdefaults := Value.none, pyModule := Value.str (Str.ofString "ringcrown.hand") 262, code := Value.ref 146 } }) ::
  (nat_lit 148, { cls := Value.type "tuple", data := Data.seq #[] }) ::
  (nat_lit 150, { cls := Value.type "tuple", data := Data.seq #[Value.str (Str.ofString "self") 365] }) ::
  (nat_lit 151, { cls := Value.type "tuple", data := Data.seq #[] }) ::
  (nat_lit 153, { cls := Value.type "code", data := Data.fields #[Value.str (Str.ofString "knows") 362, Value.str (Str.ofString "Hand.knows") 363, Value.str (Str.ofString "/claim/cut.py") 364, Value.int 91 0, Value.int 1 0, Value.int 0 0, Value.int 0 0, Value.int 3 0, Value.ref 148, Value.bool true, Value.int 181 0, Value.ref 149, Value.none, Value.ref 150, Value.ref 151, Value.ref 152, Value.int 366 0, Value.int 91 0, Value.str (Str.ofString "/claim/cut.py") 367] }) ::
  (nat_lit 154, { cls := Value.type "function", data := Data.func { name := Str.ofString "knows", qualname := Str.ofString "Hand.knows", params := stA (st2 10 10), body := FuncBody.stmts (stB (st2 10 10)), scope := stS (st2 10 10), globals := 3, closure := [], defaults := Value.none, kwdefaults := Value.none, pyModule := Value.str (Str.ofString "ringcrown.hand") 262, code := Value.ref 153 } }) ::
  (nat_lit 155, { cls := Value.type "tuple", data := Data.seq #[Value.str (Str.ofString "at_stage") 369, Value.str (Str.ofString "far") 370, Value.str (Str.ofString "greatest") 371, Value.str (Str.ofString "had") 372, Value.str (Str.ofString "lost") 373, Value.str (Str.ofString "number") 374, Value.str (Str.ofString "won") 375] }) ::
  (nat_lit 156, { cls := Value.type "dict", data := Data.dict #[{ hash := PyData.keyHash P (Str.ofString "__module__"), key := Value.str (Str.ofString "__module__") 277, val := Value.str (Str.ofString "ringcrown.hand") 262 }, { hash := PyData.keyHash P (Str.ofString "__firstlineno__"), key := Value.str (Str.ofString "__firstlineno__") 281, val := Value.int 17 280 }, { hash := PyData.keyHash P (Str.ofString "__init__"), key := Value.str (Str.ofString "__init__") 289, val := Value.ref 84 }, { hash := PyData.keyHash P (Str.ofString "two_asks"), key := Value.str (Str.ofString "two_asks") 298, val := Value.ref 91 }, { hash := PyData.keyHash P (Str.ofString "wake"), key := Value.str (Str.ofString "wake") 305, val := Value.ref 98 }, { hash := PyData.keyHash P (Str.ofString "take"), key := Value.str (Str.ofString "take") 314, val := Value.ref 105 }, { hash := PyData.keyHash P (Str.ofString "ask_came"), key := Value.str (Str.ofString "ask_came") 324, val := Value.ref 112 }, { hash := PyData.keyHash P (Str.ofString "answer_came"), key := Value.str (Str.ofString "answer_came") 332, val := Value.ref 119 }, { hash := PyData.keyHash P (Str.ofString "crown_came"), key := Value.str (Str.ofString "crown_came") 340, val := Value.ref 126 }, { hash := PyData.keyHash P (Str.ofString "is_awake"), key := Value.str (Str.ofString "is_awake") 347, val := Value.ref 133 }, { hash := PyData.keyHash P (Str.ofString "is_first"), key := Value.str (Str.ofString "is_first") 354, val := Value.ref 140 }, { hash := PyData.keyHash P (Str.ofString "stage"), key := Value.str (Str.ofString "stage") 361, val := Value.ref 147 }, { hash := PyData.keyHash P (Str.ofString "knows"), key := Value.str (Str.ofString "knows") 368, val := Value.ref 154 }, { hash := PyData.keyHash P (Str.ofString "__static_attributes__"), key := Value.str (Str.ofString "__static_attributes__") 376, val := Value.ref 155 }, { hash := PyData.keyHash P (Str.ofString "__dict__"), key := Value.str (Str.ofString "__dict__") 378, val := Value.ref 158 }, { hash := PyData.keyHash P (Str.ofString "__weakref__"), key := Value.str (Str.ofString "__weakref__") 380, val := Value.ref 159 }, { hash := PyData.keyHash P (Str.ofString "__doc__"), key := Value.str (Str.ofString "__doc__") 381, val := Value.none }] 4 }) ::
  (nat_lit 157, { cls := Value.type "type", data := Data.cls { name := Str.ofString "Hand", bases := [Value.type "object"], mro := [Value.ref 157, Value.type "object"], ns := 156, qualname := Str.ofString "Hand" }, slots := #[none, none, some (Value.str (Str.ofString "Hand") 270), some (Value.str (Str.ofString "Hand") 278), some (Value.builtin "object.__new__"), some (Value.bool true)] }) ::
  (nat_lit 158, { cls := Value.type "getset_descriptor", data := Data.fields #[Value.str (Str.ofString "__dict__") 377, Value.ref 157, Value.builtin "function.__dict__", Value.builtin "function.__dict__#set"] }) ::
  (nat_lit 159, { cls := Value.type "getset_descriptor", data := Data.fields #[Value.str (Str.ofString "__weakref__") 379, Value.ref 157, Value.builtin "ExceptionGroup.__weakref__", Value.none] }) ::
  (nat_lit 162, { cls := Value.type "tuple", data := Data.seq #[] }) ::
  (nat_lit 164, { cls := Value.type "tuple", data := Data.seq #[Value.str (Str.ofString "thing") 391] }) ::
  (nat_lit 165, { cls := Value.type "tuple", data := Data.seq #[] }) ::
  (nat_lit 167, { cls := Value.type "code", data := Data.fields #[Value.str (Str.ofString "is_number") 388, Value.str (Str.ofString "is_number") 389, Value.str (Str.ofString "/claim/cut.py") 390, Value.int 95 0, Value.int 1 0, Value.int 0 0, Value.int 0 0, Value.int 3 0, Value.ref 162, Value.bool true, Value.int 181 0, Value.ref 163, Value.none, Value.ref 164, Value.ref 165, Value.ref 166, Value.int 392 0, Value.int 95 0, Value.str (Str.ofString "/claim/cut.py") 393] }) ::
  (nat_lit 168, { cls := Value.type "function", data := Data.func { name := Str.ofString "is_number", qualname := Str.ofString "is_number", params := stA (st 13), body := FuncBody.stmts (stB (st 13)), scope := stS (st 13), globals := 3, closure := [], defaults := Value.none, kwdefaults := Value.none, pyModule := Value.str (Str.ofString "ringcrown.ring") 384, code := Value.ref 167 } }) ::
  (nat_lit 169, { cls := Value.type "tuple", data := Data.seq #[] }) ::
  (nat_lit 171, { cls := Value.type "tuple", data := Data.seq #[Value.str (Str.ofString "things") 398, Value.str (Str.ofString "thing") 399] }) ::
  (nat_lit 172, { cls := Value.type "tuple", data := Data.seq #[] }) ::
  (nat_lit 174, { cls := Value.type "code", data := Data.fields #[Value.str (Str.ofString "are_numbers") 395, Value.str (Str.ofString "are_numbers") 396, Value.str (Str.ofString "/claim/cut.py") 397, Value.int 97 0, Value.int 1 0, Value.int 0 0, Value.int 0 0, Value.int 3 0, Value.ref 169, Value.bool true, Value.int 181 0, Value.ref 170, Value.none, Value.ref 171, Value.ref 172, Value.ref 173, Value.int 400 0, Value.int 97 0, Value.str (Str.ofString "/claim/cut.py") 401] }) ::
  (nat_lit 175, { cls := Value.type "function", data := Data.func { name := Str.ofString "are_numbers", qualname := Str.ofString "are_numbers", params := stA (st 14), body := FuncBody.stmts (stB (st 14)), scope := stS (st 14), globals := 3, closure := [], defaults := Value.none, kwdefaults := Value.none, pyModule := Value.str (Str.ofString "ringcrown.ring") 384, code := Value.ref 174 } }) ::
  (nat_lit 183, { cls := Value.type "tuple", data := Data.seq #[] }) ::
  (nat_lit 186, { cls := Value.type "code", data := Data.fields #[Value.str (Str.ofString "__init__") 415, Value.str (Str.ofString "Ring.__init__") 416, Value.str (Str.ofString "/claim/cut.py") 417, Value.int 106 0, Value.int 2 0, Value.int 0 0, Value.int 0 0, Value.int 3 0, Value.ref 183, Value.bool true, Value.int 181 0, Value.ref 184, Value.none, Value.none, Value.none, Value.ref 185, Value.int 418 0, Value.int 106 0, Value.str (Str.ofString "/claim/cut.py") 419] }) ::
  (nat_lit 187, { cls := Value.type "function", data := Data.func { name := Str.ofString "__init__", qualname := Str.ofString "Ring.__init__", params := stA (st2 15 0), body := FuncBody.stmts (stB (st2 15 0)), scope := stS (st2 15 0), globals := 3, closure := [], defaults := Value.none, kwdefaults := Value.none, pyModule := Value.str (Str.ofString "ringcrown.ring") 384, code := Value.ref 186 } }) ::
  (nat_lit 188, { cls := Value.type "tuple", data := Data.seq #[] }) ::
  (nat_lit 190, { cls := Value.type "tuple", data := Data.seq #[Value.str (Str.ofString "self") 424, Value.str (Str.ofString "place") 425] }) ::
  (nat_lit 191, { cls := Value.type "tuple", data := Data.seq #[] }) ::
  (nat_lit 193, { cls := Value.type "code", data := Data.fields #[Value.str (Str.ofString "hand_at") 421, Value.str (Str.ofString "Ring.hand_at") 422, Value.str (Str.ofString "/claim/cut.py") 423, Value.int 113 0, Value.int 2 0, Value.int 0 0, Value.int 0 0, Value.int 3 0, Value.ref 188, Value.bool true, Value.int 181 0, Value.ref 189, Value.none, Value.ref 190, Value.ref 191, Value.ref 192, Value.int 426 0, Value.int 113 0, Value.str (Str.ofString "/claim/cut.py") 427] }) ::
  (nat_lit 194, { cls := Value.type "function", data := Data.func { name := Str.ofString "hand_at", qualname := Str.ofString "Ring.hand_at", params := stA (st2 15 1), body := FuncBody.stmts (stB (st2 15 1)), scope := stS (st2 15 1), globals := 3, closure := [], defaults := Value.none, kwdefaults := Value.none, pyModule := Value.str (Str.ofString "ringcrown.ring") 384, code := Value.ref 193 } }) ::
  (nat_lit 195, { cls := Value.type "tuple", data := Data.seq #[] }) ::
  (nat_lit 197, { cls := Value.type "tuple", data := Data.seq #[Value.str (Str.ofString "self") 432, Value.str (Str.ofString "place") 433, Value.str (Str.ofString "letters") 434, Value.str (Str.ofString "letter") 435] }) ::
  (nat_lit 198, { cls := Value.type "tuple", data := Data.seq #[] }) ::
  (nat_lit 200, { cls := Value.type "code", data := Data.fields #[Value.str (Str.ofString "posted") 429, Value.str (Str.ofString "Ring.posted") 430, Value.str (Str.ofString "/claim/cut.py") 431, Value.int 118 0, Value.int 3 0, Value.int 0 0, Value.int 0 0, Value.int 3 0, Value.ref 195, Value.bool true, Value.int 181 0, Value.ref 196, Value.none, Value.ref 197, Value.ref 198, Value.ref 199, Value.int 436 0, Value.int 118 0, Value.str (Str.ofString "/claim/cut.py") 437] }) ::
  (nat_lit 201, { cls := Value.type "function", data := Data.func { name := Str.ofString "posted", qualname := Str.ofString "Ring.posted", params := stA (st2 15 2), body := FuncBody.stmts (stB (st2 15 2)), scope := stS (st2 15 2), globals := 3, closure := [], defaults := Value.none, kwdefaults := Value.none, pyModule := Value.str (Str.ofString "ringcrown.ring") 384, code := Value.ref 200 } }) ::
  (nat_lit 202, { cls := Value.type "tuple", data := Data.seq #[] }) ::
  (nat_lit 204, { cls := Value.type "tuple", data := Data.seq #[Value.str (Str.ofString "self") 442, Value.str (Str.ofString "place") 443, Value.str (Str.ofString "hand") 444] }) ::
  (nat_lit 205, { cls := Value.type "tuple", data := Data.seq #[] }) ::
  (nat_lit 207, { cls := Value.type "code", data := Data.fields #[Value.str (Str.ofString "wake") 439, Value.str (Str.ofString "Ring.wake") 440, Value.str (Str.ofString "/claim/cut.py") 441, Value.int 123 0, Value.int 2 0, Value.int 0 0, Value.int 0 0, Value.int 3 0, Value.ref 202, Value.bool true, Value.int 181 0, Value.ref 203, Value.none, Value.ref 204, Value.ref 205, Value.ref 206, Value.int 445 0, Value.int 123 0, Value.str (Str.ofString "/claim/cut.py") 446] }) ::
  (nat_lit 208, { cls := Value.type "function", data := Data.func { name := Str.ofString "wake", qualname := Str.ofString "Ring.wake", params := stA (st2 15 3), body := FuncBody.stmts (stB (st2 15 3)), scope := stS (st2 15 3), globals := 3, closure := [], defaults := Value.none, kwdefaults := Value.none, pyModule := Value.str (Str.ofString "ringcrown.ring") 384, code := Value.ref 207 } }) ::
  (nat_lit 209, { cls := Value.type "tuple", data := Data.seq #[] }) ::
  (nat_lit 211, { cls := Value.type "tuple", data := Data.seq #[Value.str (Str.ofString "self") 451] }) ::
  (nat_lit 212, { cls := Value.type "tuple", data := Data.seq #[] }) ::
  (nat_lit 214, { cls := Value.type "code", data := Data.fields #[Value.str (Str.ofString "mails") 448, Value.str (Str.ofString "Ring.mails") 449, Value.str (Str.ofString "/claim/cut.py") 450, Value.int 130 0, Value.int 1 0, Value.int 0 0, Value.int 0 0, Value.int 3 0, Value.ref 209, Value.bool true, Value.int 181 0, Value.ref 210, Value.none, Value.ref 211, Value.ref 212, Value.ref 213, Value.int 452 0, Value.int 130 0, Value.str (Str.ofString "/claim/cut.py") 453] }) ::
  (nat_lit 215, { cls := Value.type "function", data := Data.func { name := Str.ofString "mails", qualname := Str.ofString "Ring.mails", params := stA (st2 15 4), body := FuncBody.stmts (stB (st2 15 4)), scope := stS (st2 15 4), globals := 3, closure := [], defaults := Value.none, kwdefaults := Value.none, pyModule := Value.str (Str.ofString "ringcrown.ring") 384, code := Value.ref 214 } }) ::
  (nat_lit 216, { cls := Value.type "tuple", data := Data.seq #[] }) ::
  (nat_lit 218, { cls := Value.type "tuple", data := Data.seq #[Value.str (Str.ofString "self") 458, Value.str (Str.ofString "place") 459, Value.str (Str.ofString "mail") 460] }) ::
  (nat_lit 219, { cls := Value.type "tuple", data := Data.seq #[] }) ::
  (nat_lit 221, { cls := Value.type "code", data := Data.fields #[Value.str (Str.ofString "bring") 455, Value.str (Str.ofString "Ring.bring") 456, Value.str (Str.ofString "/claim/cut.py") 457, Value.int 133 0, Value.int 2 0, Value.int 0 0, Value.int 0 0, Value.int 3 0, Value.ref 216, Value.bool true, Value.int 181 0, Value.ref 217, Value.none, Value.ref 218, Value.ref 219, Value.ref 220, Value.int 461 0, Value.int 133 0, Value.str (Str.ofString "/claim/cut.py") 462] }) ::
  (nat_lit 222, { cls := Value.type "function", data := Data.func { name := Str.ofString "bring", qualname := Str.ofString "Ring.bring", params := stA (st2 15 5), body := FuncBody.stmts (stB (st2 15 5)), scope := stS (st2 15 5), globals := 3, closure := [], defaults := Value.none, kwdefaults := Value.none, pyModule := Value.str (Str.ofString "ringcrown.ring") 384, code := Value.ref 221 } }) ::
  (nat_lit 223, { cls := Value.type "tuple", data := Data.seq #[] }) ::
  (nat_lit 225, { cls := Value.type "tuple", data := Data.seq #[Value.str (Str.ofString "self") 467] }) ::
  (nat_lit 226, { cls := Value.type "tuple", data := Data.seq #[] }) ::
  (nat_lit 228, { cls := Value.type "code", data := Data.fields #[Value.str (Str.ofString "rest") 464, Value.str (Str.ofString "Ring.rest") 465, Value.str (Str.ofString "/claim/cut.py") 466, Value.int 140 0, Value.int 1 0, Value.int 0 0, Value.int 0 0, Value.int 3 0, Value.ref 223, Value.bool true, Value.int 181 0, Value.ref 224, Value.none, Value.ref 225, Value.ref 226, Value.ref 227, Value.int 468 0, Value.int 140 0, Value.str (Str.ofString "/claim/cut.py") 469] }) ::
  (nat_lit 229, { cls := Value.type "function", data := Data.func { name := Str.ofString "rest", qualname := Str.ofString "Ring.rest", params := stA (st2 15 6), body := FuncBody.stmts (stB (st2 15 6)), scope := stS (st2 15 6), globals := 3, closure := [], defaults := Value.none, kwdefaults := Value.none, pyModule := Value.str (Str.ofString "ringcrown.ring") 384, code := Value.ref 228 } }) ::
  (nat_lit 230, { cls := Value.type "tuple", data := Data.seq #[] }) ::
  (nat_lit 232, { cls := Value.type "tuple", data := Data.seq #[Value.str (Str.ofString "self") 474] }) ::
  (nat_lit 233, { cls := Value.type "tuple", data := Data.seq #[] }) ::
  (nat_lit 235, { cls := Value.type "code", data := Data.fields #[Value.str (Str.ofString "sent") 471, Value.str (Str.ofString "Ring.sent") 472, Value.str (Str.ofString "/claim/cut.py") 473, Value.int 143 0, Value.int 1 0, Value.int 0 0, Value.int 0 0, Value.int 3 0, Value.ref 230, Value.bool true, Value.int 181 0, Value.ref 231, Value.none, Value.ref 232, Value.ref 233, Value.ref 234, Value.int 475 0, Value.int 143 0, Value.str (Str.ofString "/claim/cut.py") 476] }) ::
  (nat_lit 236, { cls := Value.type "function", data := Data.func { name := Str.ofString "sent", qualname := Str.ofString "Ring.sent", params := stA (st2 15 7), body := FuncBody.stmts (stB (st2 15 7)), scope := stS (st2 15 7), globals := 3, closure := [], defaults := Value.none, kwdefaults := Value.none, pyModule := Value.str (Str.ofString "ringcrown.ring") 384, code := Value.ref 235 } }) ::
  (nat_lit 237, { cls := Value.type "tuple", data := Data.seq #[] }) ::
  (nat_lit 239, { cls := Value.type "tuple", data := Data.seq #[Value.str (Str.ofString "self") 481, Value.str (Str.ofString "place") 482] }) ::
  (nat_lit 240, { cls := Value.type "tuple", data := Data.seq #[] }) ::
  (nat_lit 242, { cls := Value.type "code", data := Data.fields #[Value.str (Str.ofString "is_awake") 478, Value.str (Str.ofString "Ring.is_awake") 479, Value.str (Str.ofString "/claim/cut.py") 480, Value.int 146 0, Value.int 2 0, Value.int 0 0, Value.int 0 0, Value.int 3 0, Value.ref 237, Value.bool true, Value.int 181 0, Value.ref 238, Value.none, Value.ref 239, Value.ref 240, Value.ref 241, Value.int 483 0, Value.int 146 0, Value.str (Str.ofString "/claim/cut.py") 484] }) ::
  (nat_lit 243, { cls := Value.type "function", data := Data.func { name := Str.ofString "is_awake", qualname := Str.ofString "Ring.is_awake", params := stA (st2 15 8), body := FuncBody.stmts (stB (st2 15 8)), scope := stS (st2 15 8), globals := 3, closure := [], defaults := Value.none, kwdefaults := Value.none, pyModule := Value.str (Str.ofString "ringcrown.ring") 384, code := Value.ref 242 } }) ::
  (nat_lit 244, { cls := Value.type "tuple", data := Data.seq #[] }) ::
  (nat_lit 246, { cls := Value.type "tuple", data := Data.seq #[Value.str (Str.ofString "self") 489, Value.str (Str.ofString "place") 490] }) ::
  (nat_lit 247, { cls := Value.type "tuple", data := Data.seq #[] }) ::
  (nat_lit 249, { cls := Value.type "code", data := Data.fields #[Value.str (Str.ofString "is_first") 486, Value.str (Str.ofString "Ring.is_first") 487, Value.str (Str.ofString "/claim/cut.py") 488, Value.int 149 0, Value.int 2 0, Value.int 0 0, Value.int 0 0, Value.int 3 0, Value.ref 244, Value.bool true, Value.int 181 0, Value.ref 245, Value.none, Value.ref 246, Value.ref 247, Value.ref 248, Value.int 491 0, Value.int 149 0, Value.str (Str.ofString "/claim/cut.py") 492] }) ::
  (nat_lit 250, { cls := Value.type "function", data := Data.func { name := Str.ofString "is_first", qualname := Str.ofString "Ring.is_first", params := stA (st2 15 9), body := FuncBody.stmts (stB (st2 15 9)), scope := stS (st2 15 9), globals := 3, closure := [], defaults := Value.none, kwdefaults := Value.none, pyModule := Value.str (Str.ofString "ringcrown.ring") 384, code := Value.ref 249 } }) ::
  (nat_lit 251, { cls := Value.type "tuple", data := Data.seq #[] }) ::
  (nat_lit 253, { cls := Value.type "tuple", data := Data.seq #[Value.str (Str.ofString "self") 497, Value.str (Str.ofString "place") 498] }) ::
  (nat_lit 254, { cls := Value.type "tuple", data := Data.seq #[] }) ::
  (nat_lit 256, { cls := Value.type "code", data := Data.fields #[Value.str (Str.ofString "stage") 494, Value.str (Str.ofString "Ring.stage") 495, Value.str (Str.ofString "/claim/cut.py") 496, Value.int 152 0, Value.int 2 0, Value.int 0 0, Value.int 0 0, Value.int 3 0, Value.ref 251, Value.bool true, Value.int 181 0, Value.ref 252, Value.none, Value.ref 253, Value.ref 254, Value.ref 255, Value.int 499 0, Value.int 152 0, Value.str (Str.ofString "/claim/cut.py") 500] }) ::
  (nat_lit 257, { cls := Value.type "function", data := Data.func { name := Str.ofString "stage", qualname := Str.ofString "Ring.stage", params := stA (st2 15 10), body := FuncBody.stmts (stB (st2 15 10)), scope := stS (st2 15 10), globals := 3, closure := [], defaults := Value.none, kwdefaults := Value.none, pyModule := Value.str (Str.ofString "ringcrown.ring") 384, code := Value.ref 256 } }) ::
  (nat_lit 258, { cls := Value.type "tuple", data := Data.seq #[] }) ::
  (nat_lit 260, { cls := Value.type "tuple", data := Data.seq #[Value.str (Str.ofString "self") 505, Value.str (Str.ofString "place") 506] }) ::
  (nat_lit 261, { cls := Value.type "tuple", data := Data.seq #[] }) ::
  (nat_lit 263, { cls := Value.type "code", data := Data.fields #[Value.str (Str.ofString "knows") 502, Value.str (Str.ofString "Ring.knows") 503, Value.str (Str.ofString "/claim/cut.py") 504, Value.int 155 0, Value.int 2 0, Value.int 0 0, Value.int 0 0, Value.int 3 0, Value.ref 258, Value.bool true, Value.int 181 0, Value.ref 259, Value.none, Value.ref 260, Value.ref 261, Value.ref 262, Value.int 507 0, Value.int 155 0, Value.str (Str.ofString "/claim/cut.py") 508] }) ::
  (nat_lit 264, { cls := Value.type "function", data := Data.func { name := Str.ofString "knows", qualname := Str.ofString "Ring.knows", params := stA (st2 15 11), body := FuncBody.stmts (stB (st2 15 11)), scope := stS (st2 15 11), globals := 3, closure := [], defaults := Value.none, kwdefaults := Value.none, pyModule := Value.str (Str.ofString "ringcrown.ring") 384, code := Value.ref 263 } }) ::
  (nat_lit 265, { cls := Value.type "tuple", data := Data.seq #[Value.str (Str.ofString "hands") 510, Value.str (Str.ofString "many") 511, Value.str (Str.ofString "road") 512] }) ::
  (nat_lit 266, { cls := Value.type "dict", data := Data.dict #[{ hash := PyData.keyHash P (Str.ofString "__module__"), key := Value.str (Str.ofString "__module__") 410, val := Value.str (Str.ofString "ringcrown.ring") 384 }, { hash := PyData.keyHash P (Str.ofString "__firstlineno__"), key := Value.str (Str.ofString "__firstlineno__") 414, val := Value.int 104 413 }, { hash := PyData.keyHash P (Str.ofString "__init__"), key := Value.str (Str.ofString "__init__") 420, val := Value.ref 187 }, { hash := PyData.keyHash P (Str.ofString "hand_at"), key := Value.str (Str.ofString "hand_at") 428, val := Value.ref 194 }, { hash := PyData.keyHash P (Str.ofString "posted"), key := Value.str (Str.ofString "posted") 438, val := Value.ref 201 }, { hash := PyData.keyHash P (Str.ofString "wake"), key := Value.str (Str.ofString "wake") 447, val := Value.ref 208 }, { hash := PyData.keyHash P (Str.ofString "mails"), key := Value.str (Str.ofString "mails") 454, val := Value.ref 215 }, { hash := PyData.keyHash P (Str.ofString "bring"), key := Value.str (Str.ofString "bring") 463, val := Value.ref 222 }, { hash := PyData.keyHash P (Str.ofString "rest"), key := Value.str (Str.ofString "rest") 470, val := Value.ref 229 }, { hash := PyData.keyHash P (Str.ofString "sent"), key := Value.str (Str.ofString "sent") 477, val := Value.ref 236 }, { hash := PyData.keyHash P (Str.ofString "is_awake"), key := Value.str (Str.ofString "is_awake") 485, val := Value.ref 243 }, { hash := PyData.keyHash P (Str.ofString "is_first"), key := Value.str (Str.ofString "is_first") 493, val := Value.ref 250 }, { hash := PyData.keyHash P (Str.ofString "stage"), key := Value.str (Str.ofString "stage") 501, val := Value.ref 257 }, { hash := PyData.keyHash P (Str.ofString "knows"), key := Value.str (Str.ofString "knows") 509, val := Value.ref 264 }, { hash := PyData.keyHash P (Str.ofString "__static_attributes__"), key := Value.str (Str.ofString "__static_attributes__") 513, val := Value.ref 265 }, { hash := PyData.keyHash P (Str.ofString "__dict__"), key := Value.str (Str.ofString "__dict__") 515, val := Value.ref 268 }, { hash := PyData.keyHash P (Str.ofString "__weakref__"), key := Value.str (Str.ofString "__weakref__") 517, val := Value.ref 269 }, { hash := PyData.keyHash P (Str.ofString "__doc__"), key := Value.str (Str.ofString "__doc__") 518, val := Value.none }] 4 }) ::
  (nat_lit 267, { cls := Value.type "type", data := Data.cls { name := Str.ofString "Ring", bases := [Value.type "object"], mro := [Value.ref 267, Value.type "object"], ns := 266, qualname := Str.ofString "Ring" }, slots := #[none, none, some (Value.str (Str.ofString "Ring") 403), some (Value.str (Str.ofString "Ring") 411), some (Value.builtin "object.__new__"), some (Value.bool true)] }) ::
  (nat_lit 268, { cls := Value.type "getset_descriptor", data := Data.fields #[Value.str (Str.ofString "__dict__") 514, Value.ref 267, Value.builtin "function.__dict__", Value.builtin "function.__dict__#set"] }) ::
  (nat_lit 269, { cls := Value.type "getset_descriptor", data := Data.fields #[Value.str (Str.ofString "__weakref__") 516, Value.ref 267, Value.builtin "ExceptionGroup.__weakref__", Value.none] }) ::
  (nat_lit 272, { cls := Value.type "tuple", data := Data.seq #[] }) ::
  (nat_lit 274, { cls := Value.type "tuple", data := Data.seq #[Value.str (Str.ofString "_law_script") 526, Value.str (Str.ofString "_law_k") 527] }) ::
  (nat_lit 275, { cls := Value.type "tuple", data := Data.seq #[] }) ::
  (nat_lit 277, { cls := Value.type "code", data := Data.fields #[Value.str (Str.ofString "_law_cell_at") 523, Value.str (Str.ofString "_law_cell_at") 524, Value.str (Str.ofString "/claim/cut.py") 525, Value.int 158 0, Value.int 2 0, Value.int 0 0, Value.int 0 0, Value.int 3 0, Value.ref 272, Value.bool true, Value.int 181 0, Value.ref 273, Value.none, Value.ref 274, Value.ref 275, Value.ref 276, Value.int 528 0, Value.int 158 0, Value.str (Str.ofString "/claim/cut.py") 529] }) ::
  (nat_lit 278, { cls := Value.type "function", data := Data.func { name := Str.ofString "_law_cell_at", qualname := Str.ofString "_law_cell_at", params := stA (st 17), body := FuncBody.stmts (stB (st 17)), scope := stS (st 17), globals := 3, closure := [], defaults := Value.none, kwdefaults := Value.none, pyModule := Value.str (Str.ofString "law_uf060019_08") 521, code := Value.ref 277 } }) ::
  (nat_lit 279, { cls := Value.type "tuple", data := Data.seq #[] }) ::
  (nat_lit 281, { cls := Value.type "tuple", data := Data.seq #[Value.str (Str.ofString "_law_found") 534] }) ::
  (nat_lit 282, { cls := Value.type "tuple", data := Data.seq #[] }) ::
  (nat_lit 284, { cls := Value.type "code", data := Data.fields #[Value.str (Str.ofString "_law_whole") 531, Value.str (Str.ofString "_law_whole") 532, Value.str (Str.ofString "/claim/cut.py") 533, Value.int 162 0, Value.int 1 0, Value.int 0 0, Value.int 0 0, Value.int 3 0, Value.ref 279, Value.bool true, Value.int 181 0, Value.ref 280, Value.none, Value.ref 281, Value.ref 282, Value.ref 283, Value.int 535 0, Value.int 162 0, Value.str (Str.ofString "/claim/cut.py") 536] }) ::
  (nat_lit 285, { cls := Value.type "function", data := Data.func { name := Str.ofString "_law_whole", qualname := Str.ofString "_law_whole", params := stA (st 18), body := FuncBody.stmts (stB (st 18)), scope := stS (st 18), globals := 3, closure := [], defaults := Value.none, kwdefaults := Value.none, pyModule := Value.str (Str.ofString "law_uf060019_08") 521, code := Value.ref 284 } }) ::
  (nat_lit 286, { cls := Value.type "tuple", data := Data.seq #[] }) ::
  (nat_lit 289, { cls := Value.type "code", data := Data.fields #[Value.str (Str.ofString "_law_numbers") 538, Value.str (Str.ofString "_law_numbers") 539, Value.str (Str.ofString "/claim/cut.py") 540, Value.int 164 0, Value.int 1 0, Value.int 0 0, Value.int 0 0, Value.int 3 0, Value.ref 286, Value.bool true, Value.int 181 0, Value.ref 287, Value.none, Value.none, Value.none, Value.ref 288, Value.int 541 0, Value.int 164 0, Value.str (Str.ofString "/claim/cut.py") 542] }) ::
  (nat_lit 290, { cls := Value.type "function", data := Data.func { name := Str.ofString "_law_numbers", qualname := Str.ofString "_law_numbers", params := stA (st 19), body := FuncBody.stmts (stB (st 19)), scope := stS (st 19), globals := 3, closure := [], defaults := Value.none, kwdefaults := Value.none, pyModule := Value.str (Str.ofString "law_uf060019_08") 521, code := Value.ref 289 } }) ::
  (nat_lit 291, { cls := Value.type "tuple", data := Data.seq #[] }) ::
  (nat_lit 293, { cls := Value.type "tuple", data := Data.seq #[Value.str (Str.ofString "_law_ring") 547, Value.str (Str.ofString "_law_cell") 548, Value.str (Str.ofString "_law_turn") 549, Value.str (Str.ofString "_law_many") 550] }) ::
  (nat_lit 294, { cls := Value.type "tuple", data := Data.seq #[] }) ::
  (nat_lit 296, { cls := Value.type "code", data := Data.fields #[Value.str (Str.ofString "_law_brought") 544, Value.str (Str.ofString "_law_brought") 545, Value.str (Str.ofString "/claim/cut.py") 546, Value.int 180 0, Value.int 3 0, Value.int 0 0, Value.int 0 0, Value.int 3 0, Value.ref 291, Value.bool true, Value.int 181 0, Value.ref 292, Value.none, Value.ref 293, Value.ref 294, Value.ref 295, Value.int 551 0, Value.int 180 0, Value.str (Str.ofString "/claim/cut.py") 552] }) ::
  (nat_lit 297, { cls := Value.type "function", data := Data.func { name := Str.ofString "_law_brought", qualname := Str.ofString "_law_brought", params := stA (st 20), body := FuncBody.stmts (stB (st 20)), scope := stS (st 20), globals := 3, closure := [], defaults := Value.none, kwdefaults := Value.none, pyModule := Value.str (Str.ofString "law_uf060019_08") 521, code := Value.ref 296 } }) ::
  (nat_lit 298, { cls := Value.type "tuple", data := Data.seq #[] }) ::
  (nat_lit 300, { cls := Value.type "tuple", data := Data.seq #[Value.str (Str.ofString "_law_ring") 557, Value.str (Str.ofString "_law_many") 558, Value.str (Str.ofString "_law_cell") 559, Value.str (Str.ofString "_law_turn") 560] }) ::
  (nat_lit 301, { cls := Value.type "tuple", data := Data.seq #[] }) ::
  (nat_lit 303, { cls := Value.type "code", data := Data.fields #[Value.str (Str.ofString "_law_deed") 554, Value.str (Str.ofString "_law_deed") 555, Value.str (Str.ofString "/claim/cut.py") 556, Value.int 184 0, Value.int 3 0, Value.int 0 0, Value.int 0 0, Value.int 3 0, Value.ref 298, Value.bool true, Value.int 181 0, Value.ref 299, Value.none, Value.ref 300, Value.ref 301, Value.ref 302, Value.int 561 0, Value.int 184 0, Value.str (Str.ofString "/claim/cut.py") 562] }) ::
  (nat_lit 304, { cls := Value.type "function", data := Data.func { name := Str.ofString "_law_deed", qualname := Str.ofString "_law_deed", params := stA (st 21), body := FuncBody.stmts (stB (st 21)), scope := stS (st 21), globals := 3, closure := [], defaults := Value.none, kwdefaults := Value.none, pyModule := Value.str (Str.ofString "law_uf060019_08") 521, code := Value.ref 303 } }) ::
  (nat_lit 305, { cls := Value.type "tuple", data := Data.seq #[] }) ::
  (nat_lit 307, { cls := Value.type "tuple", data := Data.seq #[Value.str (Str.ofString "_law_numbers_here") 567, Value.str (Str.ofString "_law_place") 568, Value.str (Str.ofString "_law_far") 569, Value.str (Str.ofString "_law_many") 570, Value.str (Str.ofString "_law_step") 571] }) ::
  (nat_lit 308, { cls := Value.type "tuple", data := Data.seq #[] }) ::
  (nat_lit 310, { cls := Value.type "code", data := Data.fields #[Value.str (Str.ofString "_law_alone") 564, Value.str (Str.ofString "_law_alone") 565, Value.str (Str.ofString "/claim/cut.py") 566, Value.int 190 0, Value.int 3 0, Value.int 0 0, Value.int 0 0, Value.int 3 0, Value.ref 305, Value.bool true, Value.int 181 0, Value.ref 306, Value.none, Value.ref 307, Value.ref 308, Value.ref 309, Value.int 572 0, Value.int 190 0, Value.str (Str.ofString "/claim/cut.py") 573] }) ::
  (nat_lit 311, { cls := Value.type "function", data := Data.func { name := Str.ofString "_law_alone", qualname := Str.ofString "_law_alone", params := stA (st 22), body := FuncBody.stmts (stB (st 22)), scope := stS (st 22), globals := 3, closure := [], defaults := Value.none, kwdefaults := Value.none, pyModule := Value.str (Str.ofString "law_uf060019_08") 521, code := Value.ref 310 } }) ::
  (nat_lit 312, { cls := Value.type "tuple", data := Data.seq #[] }) ::
  (nat_lit 314, { cls := Value.type "tuple", data := Data.seq #[Value.str (Str.ofString "_law_ring") 578, Value.str (Str.ofString "_law_numbers_here") 579, Value.str (Str.ofString "_law_before") 580, Value.str (Str.ofString "_law_found") 581, Value.str (Str.ofString "_law_place") 582, Value.str (Str.ofString "_law_stage") 583] }) ::
  (nat_lit 315, { cls := Value.type "tuple", data := Data.seq #[] }) ::
  (nat_lit 317, { cls := Value.type "code", data := Data.fields #[Value.str (Str.ofString "_law_stages") 575, Value.str (Str.ofString "_law_stages") 576, Value.str (Str.ofString "/claim/cut.py") 577, Value.int 200 0, Value.int 3 0, Value.int 0 0, Value.int 0 0, Value.int 3 0, Value.ref 312, Value.bool true, Value.int 181 0, Value.ref 313, Value.none, Value.ref 314, Value.ref 315, Value.ref 316, Value.int 584 0, Value.int 200 0, Value.str (Str.ofString "/claim/cut.py") 585] }) ::
  (nat_lit 318, { cls := Value.type "function", data := Data.func { name := Str.ofString "_law_stages", qualname := Str.ofString "_law_stages", params := stA (st 23), body := FuncBody.stmts (stB (st 23)), scope := stS (st 23), globals := 3, closure := [], defaults := Value.none, kwdefaults := Value.none, pyModule := Value.str (Str.ofString "law_uf060019_08") 521, code := Value.ref 317 } }) ::
  (nat_lit 319, { cls := Value.type "tuple", data := Data.seq #[] }) ::
  (nat_lit 321, { cls := Value.type "tuple", data := Data.seq #[Value.str (Str.ofString "_law_ring") 590, Value.str (Str.ofString "_law_numbers_here") 591, Value.str (Str.ofString "_law_pick") 592, Value.str (Str.ofString "_law_place") 593, Value.str (Str.ofString "_law_turn") 594] }) ::
  (nat_lit 322, { cls := Value.type "tuple", data := Data.seq #[] }) ::
  (nat_lit 324, { cls := Value.type "code", data := Data.fields #[Value.str (Str.ofString "_law_going") 587, Value.str (Str.ofString "_law_going") 588, Value.str (Str.ofString "/claim/cut.py") 589, Value.int 212 0, Value.int 3 0, Value.int 0 0, Value.int 0 0, Value.int 3 0, Value.ref 319, Value.bool true, Value.int 181 0, Value.ref 320, Value.none, Value.ref 321, Value.ref 322, Value.ref 323, Value.int 595 0, Value.int 212 0, Value.str (Str.ofString "/claim/cut.py") 596] }) ::
  (nat_lit 325, { cls := Value.type "function", data := Data.func { name := Str.ofString "_law_going", qualname := Str.ofString "_law_going", params := stA (st 24), body := FuncBody.stmts (stB (st 24)), scope := stS (st 24), globals := 3, closure := [], defaults := Value.none, kwdefaults := Value.none, pyModule := Value.str (Str.ofString "law_uf060019_08") 521, code := Value.ref 324 } }) ::
  (nat_lit 326, { cls := Value.type "tuple", data := Data.seq #[] }) ::
  (nat_lit 328, { cls := Value.type "tuple", data := Data.seq #[Value.str (Str.ofString "_law_script") 601, Value.str (Str.ofString "_law_numbers_here") 602, Value.str (Str.ofString "_law_ring") 603, Value.str (Str.ofString "_law_before") 604, Value.str (Str.ofString "_law_cell") 605, Value.str (Str.ofString "_law_pick") 606] }) ::
  (nat_lit 329, { cls := Value.type "tuple", data := Data.seq #[] }) ::
  (nat_lit 331, { cls := Value.type "code", data := Data.fields #[Value.str (Str.ofString "law") 598, Value.str (Str.ofString "law") 599, Value.str (Str.ofString "/claim/cut.py") 600, Value.int 219 0, Value.int 1 0, Value.int 0 0, Value.int 0 0, Value.int 3 0, Value.ref 326, Value.bool true, Value.int 181 0, Value.ref 327, Value.none, Value.ref 328, Value.ref 329, Value.ref 330, Value.int 607 0, Value.int 219 0, Value.str (Str.ofString "/claim/cut.py") 608] }) ::
  (nat_lit 332, { cls := Value.type "function", data := Data.func { name := Str.ofString "law", qualname := Str.ofString "law", params := stA (st 25), body := FuncBody.stmts (stB (st 25)), scope := stS (st 25), globals := 3, closure := [], defaults := Value.none, kwdefaults := Value.none, pyModule := Value.str (Str.ofString "law_uf060019_08") 521, code := Value.ref 331 } }) :: []
noncomputable def addrs : List Addr := nat_lit 2 :: nat_lit 3 :: nat_lit 15 :: nat_lit 17 :: nat_lit 18 :: nat_lit 20 :: nat_lit 21 :: nat_lit 22 :: nat_lit 29 :: nat_lit 30 :: nat_lit 31 :: nat_lit 32 :: nat_lit 35 :: nat_lit 42 :: nat_lit 43 :: nat_lit 44 :: nat_lit 47 :: nat_lit 54 :: nat_lit 55 :: nat_lit 56 :: nat_lit 59 :: nat_lit 66 :: nat_lit 67 :: nat_lit 68 :: nat_lit 78 :: nat_lit 80 :: nat_lit 81 :: nat_lit 83 :: nat_lit 84 :: nat_lit 85 :: nat_lit 87 :: nat_lit 88 :: nat_lit 90 :: nat_lit 91 :: nat_lit 92 :: nat_lit 94 :: nat_lit 95 :: nat_lit 97 :: nat_lit 98 :: nat_lit 99 :: nat_lit 101 :: nat_lit 102 :: nat_lit 104 :: nat_lit 105 :: nat_lit 106 :: nat_lit 108 :: nat_lit 109 :: nat_lit 111 :: nat_lit 112 :: nat_lit 113 :: nat_lit 115 :: nat_lit 116 :: nat_lit 118 :: nat_lit 119 :: nat_lit 120 :: nat_lit 122 :: nat_lit 123 :: nat_lit 125 :: nat_lit 126 :: nat_lit 127 :: nat_lit 129 :: nat_lit 130 :: nat_lit 132 :: nat_lit 133 :: nat_lit 134 :: nat_lit 136 :: nat_lit 137 :: nat_lit 139 :: nat_lit 140 :: nat_lit 141 :: nat_lit 143 :: nat_lit 144 :: nat_lit 146 :: nat_lit 147 :: nat_lit 148 :: nat_lit 150 :: nat_lit 151 :: nat_lit 153 :: nat_lit 154 :: nat_lit 155 :: nat_lit 156 :: nat_lit 157 :: nat_lit 158 :: nat_lit 159 :: nat_lit 162 :: nat_lit 164 :: nat_lit 165 :: nat_lit 167 :: nat_lit 168 :: nat_lit 169 :: nat_lit 171 :: nat_lit 172 :: nat_lit 174 :: nat_lit 175 :: nat_lit 183 :: nat_lit 186 :: nat_lit 187 :: nat_lit 188 :: nat_lit 190 :: nat_lit 191 :: nat_lit 193 :: nat_lit 194 :: nat_lit 195 :: nat_lit 197 :: nat_lit 198 :: nat_lit 200 :: nat_lit 201 :: nat_lit 202 :: nat_lit 204 :: nat_lit 205 :: nat_lit 207 :: nat_lit 208 :: nat_lit 209 :: nat_lit 211 :: nat_lit 212 :: nat_lit 214 :: nat_lit 215 :: nat_lit 216 :: nat_lit 218 :: nat_lit 219 :: nat_lit 221 :: nat_lit 222 :: nat_lit 223 :: nat_lit 225 :: nat_lit 226 :: nat_lit 228 :: nat_lit 229 :: nat_lit 230 :: nat_lit 232 :: nat_lit 233 :: nat_lit 235 :: nat_lit 236 :: nat_lit 237 :: nat_lit 239 :: nat_lit 240 :: nat_lit 242 :: nat_lit 243 :: nat_lit 244 :: nat_lit 246 :: nat_lit 247 :: nat_lit 249 :: nat_lit 250 :: nat_lit 251 :: nat_lit 253 :: nat_lit 254 :: nat_lit 256 :: nat_lit 257 :: nat_lit 258 :: nat_lit 260 :: nat_lit 261 :: nat_lit 263 :: nat_lit 264 :: nat_lit 265 :: nat_lit 266 :: nat_lit 267 :: nat_lit 268 :: nat_lit 269 :: nat_lit 272 :: nat_lit 274 :: nat_lit 275 :: nat_lit 277 :: nat_lit 278 :: nat_lit 279 :: nat_lit 281 :: nat_lit 282 :: nat_lit 284 :: nat_lit 285 :: nat_lit 286 :: nat_lit 289 :: nat_lit 290 :: nat_lit 291 :: nat_lit 293 :: nat_lit 294 :: nat_lit 296 :: nat_lit 297 :: nat_lit 298 :: nat_lit 300 :: nat_lit 301 :: nat_lit 303 :: nat_lit 304 :: nat_lit 305 :: nat_lit 307 :: nat_lit 308 :: nat_lit 310 :: nat_lit 311 :: nat_lit 312 :: nat_lit 314 :: nat_lit 315 :: nat_lit 317 :: nat_lit 318 :: nat_lit 319 :: nat_lit 321 :: nat_lit 322 :: nat_lit 324 :: nat_lit 325 :: nat_lit 326 :: nat_lit 328 :: nat_lit 329 :: nat_lit 331 :: nat_lit 332 :: []
noncomputable def view : Program := { pg with main := { pg.main with body := [0, 2, 3, 4, 5, 7, 8, 9, 10, 12, 13, 14, 15, 17, 18, 19, 20, 21, 22, 23, 24, 25].filterMap fun i => pg.main.body[i]? } }
noncomputable def hook : Hook := kHook heap addrs (fun _ => by kernel_rfl)
theorem top_runs : LeftO pg view [] (fun s => xlAt view [] s && recOk [] s) (Hook.obs hook) (Hook.val hook) 4902 := by intro w; kernel_rfl
end Mine

example : (PySem.Challenge.rw_uf060019_08, Mine.heap) = (PySem.Challenge.rw_uf060019_08, Mine.heap) := by k_fill; rfl
namespace Mine

inductive Word where
  | ask | answer | crown
deriving DecidableEq

structure Ltr where
  way : Int
  word : Word
  num : Int
  stage : Nat
  steps : Nat

structure Hnd where
  num : Int
  stage : Option Nat := none
  far : Nat := 1
  had : Nat := 0
  lost : Bool := false
  won : Bool := false
  top : Option Int := none

def Hnd.asks (h : Hnd) (s : Nat) : List Ltr := [⟨1, .ask, h.num, s, h.far⟩, ⟨-1, .ask, h.num, s, h.far⟩]
def Hnd.wake (h : Hnd) : Hnd × List Ltr :=
  match h.stage with
  | some _ => (h, [])
  | none => ({ h with stage := some 0 }, h.asks 0)
def Hnd.askCame (h : Hnd) (l : Ltr) : Hnd × List Ltr :=
  if l.num < h.num then (h, [])
  else if h.num < l.num then
    ({ h with lost := true }, if 1 < l.steps then [⟨l.way, .ask, l.num, l.stage, l.steps - 1⟩] else [⟨-l.way, .answer, l.num, l.stage, 0⟩])
  else if h.won then (h, [])
  else ({ h with won := true, top := some h.num }, [⟨1, .crown, h.num, 0, 0⟩])
def Hnd.answerCame (h : Hnd) (l : Ltr) : Hnd × List Ltr :=
  if l.num ≠ h.num then (h, [l])
  else match h.stage with
    | none => (h, [])
    | some s =>
      if l.stage ≠ s then (h, [])
      else if h.had + 1 ≠ 2 ∨ h.lost = true then ({ h with had := h.had + 1 }, [])
      else ({ h with stage := some (s + 1), far := h.far + h.far, had := 0 },
        [⟨1, .ask, h.num, s + 1, h.far + h.far⟩, ⟨-1, .ask, h.num, s + 1, h.far + h.far⟩])
def Hnd.crownCame (h : Hnd) (l : Ltr) : Hnd × List Ltr :=
  if l.num = h.num then (h, []) else ({ h with top := some l.num }, [l])
def Hnd.came (h : Hnd) (l : Ltr) : Hnd × List Ltr :=
  match l.word with
  | .ask => h.askCame l
  | .answer => h.answerCame l
  | .crown => h.crownCame l
def Hnd.take (h : Hnd) (l : Ltr) : Hnd × List Ltr :=
  ((h.wake.1.came l).1, h.wake.2 ++ (h.wake.1.came l).2)

structure Rng where
  hands : List Hnd
  road : List (Nat × Ltr)
  many : Nat

def dest (n p : Nat) (way : Int) : Nat := (((p : Int) + way) % (n : Int)).toNat
def Rng.post (R : Rng) (p : Nat) (ls : List Ltr) : Rng :=
  { R with road := R.road ++ ls.map (fun l => (dest R.hands.length p l.way, l)), many := R.many + ls.length }
def Rng.wake (R : Rng) (p : Nat) : Rng :=
  match R.hands[p]? with
  | none => R
  | some h => ({ R with hands := R.hands.set p h.wake.1 } : Rng).post p h.wake.2
def Rng.bring (R : Rng) (k : Nat) : Rng :=
  match R.road[k]? with
  | none => R
  | some (p, l) =>
    match R.hands[p]? with
    | none => R
    | some h => ({ R with hands := R.hands.set p (h.take l).1, road := R.road.eraseIdx k } : Rng).post p (h.take l).2

/-! ### the circle -/
def wayOf (r : Bool) : Int := if r then 1 else -1
def pl (n o : Nat) (r : Bool) (j : Nat) : Nat := (((o : Int) + wayOf r * (j : Int)) % (n : Int)).toNat

theorem emod_toNat_cast {a : Int} {n : Nat} (hn : 0 < n) : (((a % (n : Int)).toNat : Nat) : Int) = a % (n : Int) :=
  Int.toNat_of_nonneg (Int.emod_nonneg _ (by omega))
theorem pl_lt {n : Nat} (hn : 0 < n) (o : Nat) (r : Bool) (j : Nat) : pl n o r j < n := by
  have h1 := Int.emod_lt_of_pos ((o : Int) + wayOf r * (j : Int)) (show (0 : Int) < (n : Int) by omega)
  have h2 := emod_toNat_cast (a := (o : Int) + wayOf r * (j : Int)) hn
  unfold pl
  omega
theorem dest_lt {n : Nat} (hn : 0 < n) (p : Nat) (w : Int) : dest n p w < n := by
  have h1 := Int.emod_lt_of_pos ((p : Int) + w) (show (0 : Int) < (n : Int) by omega)
  have h2 := emod_toNat_cast (a := (p : Int) + w) hn
  unfold dest
  omega
theorem pl_zero {n o : Nat} (r : Bool) (ho : o < n) : pl n o r 0 = o := by
  unfold pl
  rw [show (o : Int) + wayOf r * ((0 : Nat) : Int) = (o : Int) by simp, Int.emod_eq_of_lt (by omega) (by omega)]
  rfl
theorem dest_pl {n : Nat} (hn : 0 < n) (o : Nat) (r : Bool) (j : Nat) (w : Int) :
    dest n (pl n o r j) w = (((o : Int) + wayOf r * (j : Int) + w) % (n : Int)).toNat := by
  unfold dest
  have h2 := emod_toNat_cast (a := (o : Int) + wayOf r * (j : Int)) hn
  unfold pl
  rw [h2, Int.emod_add_emod]
theorem dest_pl_succ {n : Nat} (hn : 0 < n) (o : Nat) (r : Bool) (j : Nat) : dest n (pl n o r j) (wayOf r) = pl n o r (j + 1) := by
  rw [dest_pl hn]
  unfold pl
  congr 2
  cases r <;> simp [wayOf] <;> omega
theorem dest_pl_pred {n : Nat} (hn : 0 < n) (o : Nat) (r : Bool) (j : Nat) : dest n (pl n o r (j + 1)) (-wayOf r) = pl n o r j := by
  rw [dest_pl hn]
  unfold pl
  congr 2
  cases r <;> simp [wayOf] <;> omega
theorem dest_one {n o : Nat} (r : Bool) : dest n o (wayOf r) = pl n o r 1 := by
  unfold dest pl
  cases r <;> simp [wayOf]
theorem pl_self {n : Nat} (o : Nat) (r : Bool) (ho : o < n) : pl n o r n = o := by
  unfold pl
  have : ((o : Int) + wayOf r * (n : Int)) % (n : Int) = (o : Int) := by
    rw [Int.add_mul_emod_self_right, Int.emod_eq_of_lt (by omega) (by omega)]
  rw [this]; rfl
/-- a place is reached within n steps either way -/
theorem pl_onto {n o p : Nat} (r : Bool) (ho : o < n) (hp : p < n) (hne : p ≠ o) : ∃ j, 1 ≤ j ∧ j < n ∧ pl n o r j = p := by
  cases r with
  | true =>
    by_cases h : o < p
    · refine ⟨p - o, by omega, by omega, ?_⟩
      unfold pl wayOf
      rw [show (o : Int) + (if true = true then (1 : Int) else -1) * ((p - o : Nat) : Int) = (p : Int) by simp; omega, Int.emod_eq_of_lt (by omega) (by omega)]; rfl
    · refine ⟨n + p - o, by omega, by omega, ?_⟩
      unfold pl wayOf
      rw [show (o : Int) + (if true = true then (1 : Int) else -1) * ((n + p - o : Nat) : Int) = (p : Int) + (n : Int) by simp; omega, Int.add_emod_right, Int.emod_eq_of_lt (by omega) (by omega)]; rfl
  | false =>
    by_cases h : p < o
    · refine ⟨o - p, by omega, by omega, ?_⟩
      unfold pl wayOf
      rw [show (o : Int) + (if false = true then (1 : Int) else -1) * ((o - p : Nat) : Int) = (p : Int) by simp; omega, Int.emod_eq_of_lt (by omega) (by omega)]; rfl
    · refine ⟨n + o - p, by omega, by omega, ?_⟩
      unfold pl wayOf
      rw [show (o : Int) + (if false = true then (1 : Int) else -1) * ((n + o - p : Nat) : Int) = (p : Int) - (n : Int) by simp; omega, Int.sub_emod_right, Int.emod_eq_of_lt (by omega) (by omega)]; rfl
/-- back at the start: at least n steps -/
theorem pl_back {n o j : Nat} {r : Bool} (ho : o < n) (hj : 1 ≤ j) (h : pl n o r j = o) : n ≤ j := by
  apply Nat.le_of_not_lt
  intro hlt
  have h2 := emod_toNat_cast (a := (o : Int) + wayOf r * (j : Int)) (n := n) (by omega)
  unfold pl at h
  rw [h] at h2
  cases r with
  | true =>
    simp [wayOf] at h2
    by_cases q : o + j < n
    · rw [Int.emod_eq_of_lt (by omega) (by omega)] at h2; omega
    · rw [show (o : Int) + (j : Int) = ((o : Int) + (j : Int) - n) + n by omega, Int.add_emod_right, Int.emod_eq_of_lt (by omega) (by omega)] at h2; omega
  | false =>
    simp [wayOf] at h2
    by_cases q : j ≤ o
    · rw [Int.emod_eq_of_lt (by omega) (by omega)] at h2; omega
    · rw [show (o : Int) + -(j : Int) = ((o : Int) - (j : Int) + n) - n by omega, Int.sub_emod_right, Int.emod_eq_of_lt (by omega) (by omega)] at h2; omega
theorem pl_flip {n o : Nat} (r : Bool) (j : Nat) (ho : o < n) : pl n (pl n o r j) (!r) j = o := by
  have h2 := emod_toNat_cast (a := (o : Int) + wayOf r * (j : Int)) (n := n) (by omega)
  show (((pl n o r j : Nat) + wayOf (!r) * (j : Int)) % (n : Int)).toNat = o
  unfold pl
  rw [h2, Int.emod_add_emod]
  rw [show (o : Int) + wayOf r * (j : Int) + wayOf (!r) * (j : Int) = (o : Int) by cases r <;> simp [wayOf] <;> omega, Int.emod_eq_of_lt (by omega) (by omega)]
  rfl
end Mine

namespace Mine

structure GM where
  kind : Word
  o : Nat
  r : Bool
  j : Nat
  s : Nat

abbrev nmAt (nums : List Int) (i : Nat) : Int := nums.getD i 0
/-- the number j places away from o -/
abbrev nmOff (nums : List Int) (o : Nat) (r : Bool) (j : Nat) : Int := nmAt nums (pl nums.length o r j)

def GM.mail (nums : List Int) (m : GM) : Nat × Ltr :=
  match m.kind with
  | .ask => (pl nums.length m.o m.r m.j, ⟨wayOf m.r, .ask, nmAt nums m.o, m.s, 2 ^ m.s + 1 - m.j⟩)
  | .answer => (pl nums.length m.o m.r m.j, ⟨-wayOf m.r, .answer, nmAt nums m.o, m.s, 0⟩)
  | .crown => (pl nums.length m.o true m.j, ⟨1, .crown, nmAt nums m.o, 0, 0⟩)

def GM.isTok (o : Nat) (r : Bool) (m : GM) : Bool := (m.kind != .crown) && (m.o == o) && (m.r == r)

def price (n t : Nat) : Nat := if 2 ^ t < n then 4 * 2 ^ t else 2 * n
def costTo (n : Nat) : Nat → Nat
  | 0 => 0
  | t + 1 => costTo n t + price n t
def cost (n : Nat) (h : Hnd) : Nat :=
  match h.stage with
  | none => 0
  | some s => costTo n (s + 1)
def credit (n : Nat) (m : GM) : Nat :=
  match m.kind with
  | .ask => if 2 ^ m.s < n then 2 ^ m.s - m.j + 2 ^ m.s else n - m.j
  | .answer => m.j
  | .crown => n - m.j

structure HInv (nums : List Int) (g : Nat → Bool → Bool) (i : Nat) (h : Hnd) : Prop where
  num : h.num = nmAt nums i
  asleep : h.stage = none → h = { num := nmAt nums i } ∧ ∀ r, g i r = false
  far : ∀ s, h.stage = some s → h.far = 2 ^ s
  had : ∀ s, h.stage = some s → h.had = (g i true).toNat + (g i false).toNat
  full : g i true = true → g i false = true → h.lost = true
  got : ∀ s r, h.stage = some s → g i r = true → ∀ j, 1 ≤ j → j ≤ 2 ^ s → nmOff nums i r j < nmAt nums i
  past : ∀ s, h.stage = some (s + 1) → 2 ^ s < nums.length ∧ ∀ r j, 1 ≤ j → j ≤ 2 ^ s → nmOff nums i r j < nmAt nums i
  won : h.won = true → (∀ q, q < nums.length → nmAt nums q ≤ nmAt nums i) ∧ h.top = some (nmAt nums i)
  lost : h.lost = true → ∃ q, q < nums.length ∧ nmAt nums i < nmAt nums q
  top : ∀ x, h.top = some x → x ∈ nums ∧ ∀ q, q < nums.length → nmAt nums q ≤ x

def MInv (nums : List Int) (hs : List Hnd) (m : GM) : Prop :=
  ∃ h, hs[m.o]? = some h ∧
    match m.kind with
    | .ask => h.stage = some m.s ∧ 1 ≤ m.j ∧ m.j ≤ 2 ^ m.s ∧ ∀ i, 1 ≤ i → i < m.j → nmOff nums m.o m.r i < nmAt nums m.o
    | .answer => h.stage = some m.s ∧ m.j < 2 ^ m.s ∧ ∀ i, 1 ≤ i → i ≤ 2 ^ m.s → nmOff nums m.o m.r i < nmAt nums m.o
    | .crown => h.won = true ∧ 1 ≤ m.j ∧ m.j ≤ nums.length ∧ ∀ i, 1 ≤ i → i < m.j → ∃ h', hs[pl nums.length m.o true i]? = some h' ∧ h'.top = some (nmAt nums m.o)

structure GInv (nums : List Int) (hs : List Hnd) (ms : List GM) (g : Nat → Bool → Bool) (many : Nat) : Prop where
  pos : 0 < nums.length
  nodup : nums.Nodup
  len : hs.length = nums.length
  hand : ∀ i h, hs[i]? = some h → HInv nums g i h
  out : ∀ i, nums.length ≤ i → ∀ r, g i r = false
  mail : ∀ m ∈ ms, MInv nums hs m
  tok : ∀ o r, ms.countP (GM.isTok o r) + (g o r).toNat ≤ 1
  reach : ∀ o h, hs[o]? = some h → h.stage ≠ none → ∀ r, (∃ h', hs[pl nums.length o r 1]? = some h' ∧ h'.stage ≠ none) ∨ ∃ m ∈ ms, m.kind = .ask ∧ m.o = o ∧ m.r = r ∧ m.j = 1
  alive : ∀ o h, hs[o]? = some h → h.stage ≠ none → h.won = false → (∀ q, q < nums.length → nmAt nums q ≤ nmAt nums o) → ∀ r, g o r = true ∨ 0 < ms.countP (GM.isTok o r)
  crowned : ∀ o h, hs[o]? = some h → h.won = true → (∃ m ∈ ms, m.kind = .crown ∧ m.o = o) ∨ ∀ p, p < nums.length → ∃ h', hs[p]? = some h' ∧ h'.top = some (nmAt nums o)
  pot : many + (ms.map (credit nums.length)).sum ≤ (hs.map (cost nums.length)).sum + (if hs.any (·.won) then nums.length else 0)

/-! ### small facts of lists -/
theorem sum_set {hs : List Hnd} {f : Hnd → Nat} {p : Nat} {h h' : Hnd} (hp : hs[p]? = some h) :
    ((hs.set p h').map f).sum + f h = (hs.map f).sum + f h' := by
  induction hs generalizing p with
  | nil => simp at hp
  | cons x xs ih =>
    cases p with
    | zero => simp at hp; subst hp; simp; omega
    | succ p =>
      simp at hp
      have := ih hp
      simp only [List.set_cons_succ, List.map_cons, List.sum_cons]
      omega
theorem any_set {hs : List Hnd} {f : Hnd → Bool} {p : Nat} {h h' : Hnd} (hp : hs[p]? = some h) (hf : f h' = f h) :
    (hs.set p h').any f = hs.any f := by
  induction hs generalizing p with
  | nil => simp at hp
  | cons x xs ih =>
    cases p with
    | zero => simp at hp; subst hp; simp [hf]
    | succ p => simp at hp; simp [ih hp]
theorem any_set_true {hs : List Hnd} {f : Hnd → Bool} {p : Nat} {h h' : Hnd} (hp : hs[p]? = some h) (hf : f h' = true) :
    (hs.set p h').any f = true := by
  induction hs generalizing p with
  | nil => simp at hp
  | cons x xs ih =>
    cases p with
    | zero => simp [hf]
    | succ p => simp at hp; simp [ih hp]
theorem sum_erase {ms : List GM} {f : GM → Nat} {k : Nat} {m : GM} (hk : ms[k]? = some m) :
    ((ms.eraseIdx k).map f).sum + f m = (ms.map f).sum := by
  induction ms generalizing k with
  | nil => simp at hk
  | cons x xs ih =>
    cases k with
    | zero => simp at hk; subst hk; simp; omega
    | succ k =>
      simp at hk
      have := ih hk
      simp only [List.eraseIdx_cons_succ, List.map_cons, List.sum_cons]
      omega
theorem count_erase {ms : List GM} {f : GM → Bool} {k : Nat} {m : GM} (hk : ms[k]? = some m) :
    (ms.eraseIdx k).countP f + (f m).toNat = ms.countP f := by
  induction ms generalizing k with
  | nil => simp at hk
  | cons x xs ih =>
    cases k with
    | zero => simp at hk; subst hk; simp [List.countP_cons]; cases f x <;> simp
    | succ k =>
      simp at hk
      have := ih hk
      simp only [List.eraseIdx_cons_succ, List.countP_cons]
      omega
theorem mem_erase {ms : List GM} {k : Nat} {m x : GM} (hk : ms[k]? = some m) (hx : x ∈ ms) : x = m ∨ x ∈ ms.eraseIdx k := by
  induction ms generalizing k with
  | nil => simp at hk
  | cons y ys ih =>
    cases k with
    | zero => simp at hk; subst hk; simpa using hx
    | succ k =>
      simp at hk
      rcases List.mem_cons.mp hx with rfl | hx
      · right; simp
      · rcases ih hk hx with h | h
        · exact .inl h
        · right; simp [h]
theorem of_mem_erase {ms : List GM} {k : Nat} {x : GM} (hx : x ∈ ms.eraseIdx k) : x ∈ ms := List.mem_of_mem_eraseIdx hx
theorem get_set {hs : List Hnd} {p i : Nat} {h' x : Hnd} (hp : p < hs.length) : (hs.set p h')[i]? = some x ↔ (i = p ∧ x = h') ∨ (i ≠ p ∧ hs[i]? = some x) := by
  by_cases e : i = p
  · subst e; simp [hp]; exact eq_comm
  · have : p ≠ i := fun q => e q.symm
    simp [this, e]
theorem lt_of_get {hs : List Hnd} {p : Nat} {h : Hnd} (hp : hs[p]? = some h) : p < hs.length := by
  rcases Nat.lt_or_ge p hs.length with q | q
  · exact q
  · rw [List.getElem?_eq_none q] at hp; cases hp
theorem nm_inj {nums : List Int} (hn : nums.Nodup) {i j : Nat} (hi : i < nums.length) (hj : j < nums.length) (h : nmAt nums i = nmAt nums j) : i = j := by
  simp only [nmAt, List.getD_eq_getElem?_getD, List.getElem?_eq_getElem hi, List.getElem?_eq_getElem hj, Option.getD_some] at h
  exact (List.getElem_inj hn).mp h
theorem nm_mem {nums : List Int} {i : Nat} (hi : i < nums.length) : nmAt nums i ∈ nums := by
  simp only [nmAt, List.getD_eq_getElem?_getD, List.getElem?_eq_getElem hi, Option.getD_some]
  exact List.getElem_mem hi
theorem two_pow_pos (s : Nat) : 1 ≤ 2 ^ s := Nat.one_le_two_pow
end Mine

namespace Mine
variable {nums : List Int} {hs : List Hnd} {ms : List GM} {g : Nat → Bool → Bool} {many p k : Nat} {h h' : Hnd} {m : GM}

theorem MInv.set (hm : MInv nums hs m) (hp : hs[p]? = some h) (hst : m.o = p → m.kind ≠ .crown → h.stage = some m.s → h'.stage = some m.s)
    (hw : h.won = true → h'.won = true) (ht : ∀ x, h.top = some x → h'.top = some x) : MInv nums (hs.set p h') m := by
  have hlt := lt_of_get hp
  obtain ⟨y, hy, hr⟩ := hm
  have key : ∃ y', (hs.set p h')[m.o]? = some y' ∧ ((m.o = p ∧ y' = h' ∧ y = h) ∨ (m.o ≠ p ∧ y' = y)) := by
    by_cases e : m.o = p
    · refine ⟨h', (get_set hlt).mpr (.inl ⟨e, rfl⟩), .inl ⟨e, rfl, ?_⟩⟩
      rw [e, hp] at hy; exact (Option.some.inj hy).symm
    · exact ⟨y, (get_set hlt).mpr (.inr ⟨e, hy⟩), .inr ⟨e, rfl⟩⟩
  obtain ⟨y', hy', hc⟩ := key
  refine ⟨y', hy', ?_⟩
  cases hk : m.kind with
  | ask =>
    rw [hk] at hr
    dsimp only at hr ⊢
    refine ⟨?_, hr.2⟩
    rcases hc with ⟨e, rfl, rfl⟩ | ⟨_, rfl⟩
    · exact hst e (by rw [hk]; decide) hr.1
    · exact hr.1
  | answer =>
    rw [hk] at hr
    dsimp only at hr ⊢
    refine ⟨?_, hr.2⟩
    rcases hc with ⟨e, rfl, rfl⟩ | ⟨_, rfl⟩
    · exact hst e (by rw [hk]; decide) hr.1
    · exact hr.1
  | crown =>
    rw [hk] at hr
    dsimp only at hr ⊢
    refine ⟨?_, hr.2.1, hr.2.2.1, fun i h1 h2 => ?_⟩
    · rcases hc with ⟨e, rfl, rfl⟩ | ⟨_, rfl⟩
      · exact hw hr.1
      · exact hr.1
    · obtain ⟨z, hz, hzt⟩ := hr.2.2.2 i h1 h2
      by_cases e : pl nums.length m.o true i = p
      · refine ⟨h', (get_set hlt).mpr (.inl ⟨e, rfl⟩), ht _ ?_⟩
        rw [e, hp] at hz
        cases hz; exact hzt
      · exact ⟨z, (get_set hlt).mpr (.inr ⟨e, hz⟩), hzt⟩

theorem MInv.awake (hm : MInv nums hs m) (hk : m.kind ≠ .crown) : ∃ h, hs[m.o]? = some h ∧ h.stage = some m.s := by
  obtain ⟨y, hy, hr⟩ := hm
  refine ⟨y, hy, ?_⟩
  cases hkk : m.kind with
  | ask => rw [hkk] at hr; exact hr.1
  | answer => rw [hkk] at hr; exact hr.1
  | crown => exact absurd hkk hk

theorem isTok_iff {o : Nat} {r : Bool} {m : GM} : GM.isTok o r m = true ↔ m.kind ≠ .crown ∧ m.o = o ∧ m.r = r := by
  unfold GM.isTok
  cases m.kind <;> simp
theorem GInv.noTok (I : GInv nums hs ms g many) (hp : hs[p]? = some h) (h0 : h.stage = none) (r : Bool) : ms.countP (GM.isTok p r) = 0 := by
  rw [List.countP_eq_zero]
  intro m hm ht
  obtain ⟨a, b, c⟩ := isTok_iff.mp ht
  obtain ⟨y, hy, hs'⟩ := (I.mail m hm).awake a
  rw [b, hp] at hy
  cases hy
  rw [h0] at hs'; cases hs'

theorem inv_wake (I : GInv nums hs ms g many) (hp : hs[p]? = some h) (h0 : h.stage = none) :
    GInv nums (hs.set p { h with stage := some 0 }) (ms ++ [⟨.ask, p, true, 1, 0⟩, ⟨.ask, p, false, 1, 0⟩]) g (many + 2) := by
  have hlt := lt_of_get hp
  have H := I.hand p h hp
  obtain ⟨hd, hg⟩ := H.asleep h0
  have hw : h.won = false := by rw [hd]
  have htp : h.top = none := by rw [hd]
  have hMset : ∀ m ∈ ms, MInv nums (hs.set p { h with stage := some 0 }) m := fun m hm =>
    (I.mail m hm).set hp (fun _ _ q => by rw [h0] at q; cases q) (fun q => q) (fun _ q => q)
  have hnew : (hs.set p { h with stage := some 0 })[p]? = some { h with stage := some 0 } := (get_set hlt).mpr (.inl ⟨rfl, rfl⟩)
  refine ⟨I.pos, I.nodup, by simp [I.len], ?_, I.out, ?_, ?_, ?_, ?_, ?_, ?_⟩
  · intro i x hx
    rcases (get_set hlt).mp hx with ⟨rfl, rfl⟩ | ⟨_, hx⟩
    · refine ⟨H.num, fun q => (by simp at q), fun s q => ?_, fun s q => ?_, fun q => (by rw [hg] at q; cases q), fun s r _ q => (by rw [hg] at q; cases q), fun s q => (by simp at q), fun q => ?_, fun q => ?_, fun x q => ?_⟩
      · simp at q; subst q; rw [hd]
      · simp [hg]; rw [hd]
      · simp [hw] at q
      · rw [hd] at q; simp at q
      · simp [htp] at q
    · exact I.hand i x hx
  · intro m hm
    rcases List.mem_append.mp hm with hm | hm
    · exact hMset m hm
    · have ask1 : ∀ r, MInv nums (hs.set p { h with stage := some 0 }) ⟨.ask, p, r, 1, 0⟩ := fun r => ⟨_, hnew, rfl, Nat.le_refl _, Nat.le_refl _, fun i a b => by dsimp only at b; omega⟩
      simp only [List.mem_cons, List.mem_nil_iff, or_false] at hm
      rcases hm with rfl | rfl
      · exact ask1 true
      · exact ask1 false
  · intro o r
    rw [List.countP_append]
    by_cases e : o = p
    · subst e
      rw [I.noTok hp h0, hg]
      cases r <;> simp [List.countP_cons, GM.isTok]
    · have : List.countP (GM.isTok o r) [⟨.ask, p, true, 1, 0⟩, ⟨.ask, p, false, 1, 0⟩] = 0 := by
        have e' : ¬ p = o := fun q => e q.symm
        simp [List.countP_cons, GM.isTok, e']
      rw [this]
      exact I.tok o r
  · intro o x hx hxs r
    by_cases e : o = p
    · right
      subst e
      cases r
      · exact ⟨⟨.ask, o, false, 1, 0⟩, by simp, rfl, rfl, rfl, rfl⟩
      · exact ⟨⟨.ask, o, true, 1, 0⟩, by simp, rfl, rfl, rfl, rfl⟩
    · have hx' : hs[o]? = some x := by
        rcases (get_set hlt).mp hx with ⟨a, _⟩ | ⟨_, b⟩
        · exact absurd a e
        · exact b
      rcases I.reach o x hx' hxs r with ⟨y, hy, hys⟩ | ⟨m, hm, hr⟩
      · left
        by_cases e2 : pl nums.length o r 1 = p
        · exact ⟨_, (get_set hlt).mpr (.inl ⟨e2, rfl⟩), by simp⟩
        · exact ⟨y, (get_set hlt).mpr (.inr ⟨e2, hy⟩), hys⟩
      · exact .inr ⟨m, List.mem_append.mpr (.inl hm), hr⟩
  · intro o x hx hxs hxw hmax r
    by_cases e : o = p
    · right
      subst e
      rw [List.countP_append]
      cases r <;> simp [List.countP_cons, GM.isTok]
    · have hx' : hs[o]? = some x := by
        rcases (get_set hlt).mp hx with ⟨a, _⟩ | ⟨_, b⟩
        · exact absurd a e
        · exact b
      rcases I.alive o x hx' hxs hxw hmax r with q | q
      · exact .inl q
      · right; rw [List.countP_append]; omega
  · intro o x hx hxw
    have hx' : hs[o]? = some x := by
      rcases (get_set hlt).mp hx with ⟨a, b⟩ | ⟨_, b⟩
      · subst b; simp [hw] at hxw
      · exact b
    rcases I.crowned o x hx' hxw with ⟨m, hm, q⟩ | q
    · exact .inl ⟨m, List.mem_append.mpr (.inl hm), q⟩
    · obtain ⟨z, hz, hzt⟩ := q p (by rw [← I.len]; exact hlt)
      rw [hp] at hz; cases hz
      rw [htp] at hzt; cases hzt
  · have h1 := sum_set (f := cost nums.length) (h' := { h with stage := some 0 }) hp
    have h2 := any_set (f := (·.won)) (h' := { h with stage := some 0 }) hp rfl
    rw [h2]
    have h3 := I.pot
    have h4 : cost nums.length h = 0 := by unfold cost; rw [h0]
    have h5 : cost nums.length { h with stage := some 0 } = price nums.length 0 := by simp [cost, costTo]
    have hpos := I.pos
    simp only [List.map_append, List.sum_append, List.map_cons, List.map_nil, List.sum_cons, List.sum_nil]
    have h6 : 2 + credit nums.length ⟨.ask, p, true, 1, 0⟩ + credit nums.length ⟨.ask, p, false, 1, 0⟩ ≤ price nums.length 0 := by
      unfold credit price
      dsimp only
      by_cases q : 2 ^ 0 < nums.length
      · simp only [if_pos q]; omega
      · simp only [if_neg q]; omega
    omega
end Mine

namespace Mine
variable {nums : List Int} {hs : List Hnd} {ms : List GM} {g g' : Nat → Bool → Bool} {many p k : Nat} {h h' : Hnd} {m : GM}

theorem inv_upd (I : GInv nums hs ms g many) (hk : ms[k]? = some m) (hp : hs[p]? = some h) (aw : h.stage ≠ none) (new : List GM) (x : Nat)
    (hpl : m.kind = .ask → m.j = 1 → pl nums.length m.o m.r 1 = p)
    (H : HInv nums g' p h') (hg : ∀ i r, i ≠ p → g' i r = g i r)
    (hst : ∀ m' ∈ ms.eraseIdx k, m'.o = p → m'.kind ≠ .crown → h.stage = some m'.s → h'.stage = some m'.s)
    (aw' : h'.stage ≠ none) (hw : h.won = true → h'.won = true) (ht : ∀ x, h.top = some x → h'.top = some x)
    (hnew : ∀ m' ∈ new, MInv nums (hs.set p h') m')
    (htok : ∀ o r, (ms.eraseIdx k).countP (GM.isTok o r) + new.countP (GM.isTok o r) + (g' o r).toNat ≤ 1)
    (halive : ∀ o y, (hs.set p h')[o]? = some y → y.stage ≠ none → y.won = false → (∀ q, q < nums.length → nmAt nums q ≤ nmAt nums o) → ∀ r, g' o r = true ∨ 0 < (ms.eraseIdx k).countP (GM.isTok o r) + new.countP (GM.isTok o r))
    (hcrown : ∀ o y, (hs.set p h')[o]? = some y → y.won = true → (∃ m' ∈ ms.eraseIdx k ++ new, m'.kind = .crown ∧ m'.o = o) ∨ ∀ q, q < nums.length → ∃ z, (hs.set p h')[q]? = some z ∧ z.top = some (nmAt nums o))
    (hreach : ∀ o r, m.kind = .ask → m.o = o → m.r = r → m.j = 1 → True)
    (hW : ((hs.set p h').any (·.won) = hs.any (·.won) ∧ x = 0) ∨ (hs.any (·.won) = false ∧ (hs.set p h').any (·.won) = true ∧ x = nums.length))
    (hpot : new.length + (new.map (credit nums.length)).sum + cost nums.length h ≤ credit nums.length m + cost nums.length h' + x) :
    GInv nums (hs.set p h') (ms.eraseIdx k ++ new) g' (many + new.length) := by
  have hlt := lt_of_get hp
  refine ⟨I.pos, I.nodup, by simp [I.len], ?_, ?_, ?_, ?_, ?_, ?_, hcrown, ?_⟩
  · intro i y hy
    rcases (get_set hlt).mp hy with ⟨rfl, rfl⟩ | ⟨e, hy⟩
    · exact H
    · have Hi := I.hand i y hy
      exact ⟨Hi.num, fun q => ⟨(Hi.asleep q).1, fun r => by rw [hg i r e]; exact (Hi.asleep q).2 r⟩, Hi.far, fun s q => by rw [hg i true e, hg i false e]; exact Hi.had s q,
        fun a b => Hi.full (by rw [← hg i true e]; exact a) (by rw [← hg i false e]; exact b), fun s r q a => Hi.got s r q (by rw [← hg i r e]; exact a), Hi.past, Hi.won, Hi.lost, Hi.top⟩
  · intro i hi r
    rw [hg i r (by have := I.len; omega)]
    exact I.out i hi r
  · intro m' hm'
    rcases List.mem_append.mp hm' with q | q
    · exact (I.mail m' (of_mem_erase q)).set hp (hst m' q) hw ht
    · exact hnew m' q
  · intro o r; rw [List.countP_append]; exact htok o r
  · intro o y hy hys r
    have next : ∀ q : Nat, (∃ z, hs[q]? = some z ∧ z.stage ≠ none) → ∃ z, (hs.set p h')[q]? = some z ∧ z.stage ≠ none := by
      rintro q ⟨z, hz, hzs⟩
      by_cases e : q = p
      · exact ⟨h', (get_set hlt).mpr (.inl ⟨e, rfl⟩), aw'⟩
      · exact ⟨z, (get_set hlt).mpr (.inr ⟨e, hz⟩), hzs⟩
    have old : ∃ z, hs[o]? = some z ∧ z.stage ≠ none := by
      rcases (get_set hlt).mp hy with ⟨rfl, _⟩ | ⟨_, q⟩
      · exact ⟨h, hp, aw⟩
      · exact ⟨y, q, hys⟩
    obtain ⟨z, hz, hzs⟩ := old
    rcases I.reach o z hz hzs r with q | ⟨m', hm', a, b, c, d⟩
    · exact .inl (next _ q)
    · rcases mem_erase hk hm' with rfl | e
      · left
        have hh := hpl a d
        rw [b, c] at hh
        rw [hh]
        exact ⟨h', (get_set hlt).mpr (.inl ⟨rfl, rfl⟩), aw'⟩
      · exact .inr ⟨m', List.mem_append.mpr (.inl e), a, b, c, d⟩
  · intro o y hy hys hyw hmax r
    rw [List.countP_append]
    exact halive o y hy hys hyw hmax r
  · have h1 := sum_set (f := cost nums.length) (h' := h') hp
    have h2 := sum_erase (f := credit nums.length) hk
    have h3 := I.pot
    simp only [List.map_append, List.sum_append]
    rcases hW with ⟨e, rfl⟩ | ⟨e1, e2, rfl⟩
    · rw [e]; omega
    · rw [e2]; rw [e1] at h3; simp only [if_true, Bool.false_eq_true, if_false] at h3 ⊢; omega

/-- the frame of a hand that only turns lost, or top, or nothing -/
theorem HInv.mk_lost (H : HInv nums g p h) (hq : ∃ q, q < nums.length ∧ nmAt nums p < nmAt nums q) (hs : h.stage ≠ none) : HInv nums g p { h with lost := true } :=
  ⟨H.num, fun e => absurd e hs, H.far, H.had, fun _ _ => rfl, H.got, H.past, H.won, fun _ => hq, H.top⟩
theorem GInv.lt (I : GInv nums hs ms g many) (hp : hs[p]? = some h) : p < nums.length := by rw [← I.len]; exact lt_of_get hp
theorem GInv.maxUnique (I : GInv nums hs ms g many) {a b : Nat} (ha : a < nums.length) (hb : b < nums.length) (h1 : ∀ q, q < nums.length → nmAt nums q ≤ nmAt nums a) (h2 : ∀ q, q < nums.length → nmAt nums q ≤ nmAt nums b) : a = b :=
  nm_inj I.nodup ha hb (Int.le_antisymm (h2 a ha) (h1 b hb))

/-- what stays of 'alive' and 'crowned' when a mail goes that is no token of the greatest, and no crown -/
theorem alive_keep (I : GInv nums hs ms g many) (hk : ms[k]? = some m) (hp : hs[p]? = some h) (aw : h.stage ≠ none) (hwe : h'.won = h.won) (new : List GM) (hg : ∀ i r, g' i r = g i r)
    (hm : ∀ o r, GM.isTok o r m = true → (∀ q, q < nums.length → nmAt nums q ≤ nmAt nums o) → (∀ y, hs[o]? = some y → y.won = false) → 0 < new.countP (GM.isTok o r)) :
    ∀ o y, (hs.set p h')[o]? = some y → y.stage ≠ none → y.won = false → (∀ q, q < nums.length → nmAt nums q ≤ nmAt nums o) → ∀ r, g' o r = true ∨ 0 < (ms.eraseIdx k).countP (GM.isTok o r) + new.countP (GM.isTok o r) := by
  intro o y hy hys hyw hmax r
  have hlt := lt_of_get hp
  have old : ∃ z, hs[o]? = some z ∧ z.stage ≠ none ∧ z.won = false := by
    rcases (get_set hlt).mp hy with ⟨rfl, rfl⟩ | ⟨_, q⟩
    · exact ⟨h, hp, aw, by rw [← hwe]; exact hyw⟩
    · exact ⟨y, q, hys, hyw⟩
  obtain ⟨z, hz, hzs, hzw⟩ := old
  rw [hg]
  rcases I.alive o z hz hzs hzw hmax r with q | q
  · exact .inl q
  · right
    have hc := count_erase (f := GM.isTok o r) hk
    cases e : GM.isTok o r m with
    | false => rw [e] at hc; simp at hc; omega
    | true =>
      have := hm o r e hmax (fun y' hy' => by rw [hz] at hy'; cases hy'; exact hzw)
      omega
theorem crown_keep (I : GInv nums hs ms g many) (hk : ms[k]? = some m) (hp : hs[p]? = some h) (hwe : h'.won = h.won) (ht : ∀ x, h.top = some x → h'.top = some x) (new : List GM) (hm : m.kind ≠ .crown) :
    ∀ o y, (hs.set p h')[o]? = some y → y.won = true → (∃ m' ∈ ms.eraseIdx k ++ new, m'.kind = .crown ∧ m'.o = o) ∨ ∀ q, q < nums.length → ∃ z, (hs.set p h')[q]? = some z ∧ z.top = some (nmAt nums o) := by
  intro o y hy hyw
  have hlt := lt_of_get hp
  have old : ∃ z, hs[o]? = some z ∧ z.won = true := by
    rcases (get_set hlt).mp hy with ⟨rfl, rfl⟩ | ⟨_, q⟩
    · exact ⟨h, hp, by rw [← hwe]; exact hyw⟩
    · exact ⟨y, q, hyw⟩
  obtain ⟨z, hz, hzw⟩ := old
  rcases I.crowned o z hz hzw with ⟨m', hm', a, b⟩ | q
  · rcases mem_erase hk hm' with rfl | e
    · exact absurd a hm
    · exact .inl ⟨m', List.mem_append.mpr (.inl e), a, b⟩
  · right
    intro i hi
    obtain ⟨z', hz', ht'⟩ := q i hi
    by_cases e : i = p
    · subst e
      rw [hp] at hz'; cases hz'
      exact ⟨h', (get_set hlt).mpr (.inl ⟨rfl, rfl⟩), ht _ ht'⟩
    · exact ⟨z', (get_set hlt).mpr (.inr ⟨e, hz'⟩), ht'⟩
theorem tok_keep (I : GInv nums hs ms g many) (hk : ms[k]? = some m) (new : List GM) (hm : ∀ o r, new.countP (GM.isTok o r) ≤ (GM.isTok o r m).toNat) (o : Nat) (r : Bool) :
    (ms.eraseIdx k).countP (GM.isTok o r) + new.countP (GM.isTok o r) + (g o r).toNat ≤ 1 := by
  have := I.tok o r
  have hc := count_erase (f := GM.isTok o r) hk
  have := hm o r
  omega
end Mine

namespace Mine
variable {nums : List Int} {hs : List Hnd} {ms : List GM} {g g' : Nat → Bool → Bool} {many p k : Nat} {h h' : Hnd} {m : GM}

/-- what a letter leads to -/
def Leads (nums : List Int) (hs : List Hnd) (ms : List GM) (many k p : Nat) (c : Hnd × List Ltr) : Prop :=
  ∃ new g', GInv nums (hs.set p c.1) (ms.eraseIdx k ++ new) g' (many + new.length) ∧ c.2.map (fun l => (dest nums.length p l.way, l)) = new.map (GM.mail nums)

theorem lt_n_of_less {o : Nat} {r : Bool} {j : Nat} (ho : o < nums.length) (hl : ∀ i, 1 ≤ i → i ≤ j → nmOff nums o r i < nmAt nums o) : j < nums.length := by
  apply Nat.lt_of_not_le
  intro hge
  have := hl nums.length (by omega) hge
  unfold nmOff at this
  rw [pl_self o r ho] at this
  exact absurd this (Int.lt_irrefl _)
theorem GInv.topIs (I : GInv nums hs ms g many) (hp : hs[p]? = some h) {x : Int} (hx : h.top = some x) {o : Nat} (ho : o < nums.length) (hmax : ∀ q, q < nums.length → nmAt nums q ≤ nmAt nums o) : x = nmAt nums o := by
  obtain ⟨h1, h2⟩ := (I.hand p h hp).top x hx
  obtain ⟨i, hi, e⟩ := List.getElem_of_mem h1
  have e' : nmAt nums i = x := by simp [nmAt, List.getD_eq_getElem?_getD, List.getElem?_eq_getElem hi, e]
  have a := hmax i hi
  have b := h2 o ho
  omega

theorem drop_ok (I : GInv nums hs ms g many) (hk : ms[k]? = some m) (hp : hs[p]? = some h) (aw : h.stage ≠ none) (hpl : m.kind = .ask → m.j = 1 → pl nums.length m.o m.r 1 = p) (hnc : m.kind ≠ .crown)
    (hm : ∀ o r, GM.isTok o r m = true → (∀ q, q < nums.length → nmAt nums q ≤ nmAt nums o) → (∀ y, hs[o]? = some y → y.won = false) → False) : Leads nums hs ms many k p (h, []) := by
  refine ⟨[], g, ?_, rfl⟩
  exact inv_upd I hk hp aw [] 0 hpl (I.hand p h hp) (fun _ _ _ => rfl) (fun _ _ _ _ q => q) aw id (fun _ q => q) (fun _ q => nomatch q)
    (tok_keep I hk [] fun o r => by simp) (alive_keep I hk hp aw rfl [] (fun _ _ => rfl) fun o r a b c => (hm o r a b c).elim) (crown_keep I hk hp rfl (fun _ q => q) [] hnc) (fun _ _ _ _ _ _ => trivial)
    (.inl ⟨any_set hp rfl, rfl⟩) (by simp)

theorem bool_ne {a b : Bool} (h : ¬ a = b) : a = !b := by cases a <;> cases b <;> first | rfl | exact absurd rfl h
theorem tok_one {f : GM → Bool} (x : GM) : List.countP f [x] = (f x).toNat := by
  rw [List.countP_singleton]; cases f x <;> rfl
theorem ask_ok (I : GInv nums hs ms g many) {o : Nat} {r : Bool} {j s : Nat} (hk : ms[k]? = some ⟨.ask, o, r, j, s⟩) (hp : hs[pl nums.length o r j]? = some h) (aw : h.stage ≠ none) :
    Leads nums hs ms many k (pl nums.length o r j) (h.askCame ⟨wayOf r, .ask, nmAt nums o, s, 2 ^ s + 1 - j⟩) := by
  have hM := I.mail _ (List.mem_of_getElem? hk)
  obtain ⟨y, hy, hst, hj1, hj2, hless⟩ := hM
  dsimp only at hy hst hj1 hj2 hless
  have ho : o < nums.length := I.lt hy
  have hpn := I.lt hp
  have H := I.hand _ h hp
  have hnum := H.num
  have hpl : (GM.mk .ask o r j s).kind = .ask → (GM.mk .ask o r j s).j = 1 → pl nums.length o r 1 = pl nums.length o r j := fun _ e => by dsimp only at e; rw [e]
  have hlt := lt_of_get hp
  unfold Hnd.askCame
  dsimp only
  by_cases c1 : nmAt nums o < nmAt nums (pl nums.length o r j)
  · rw [if_pos (by rw [hnum]; exact c1)]
    refine drop_ok I hk hp aw hpl (fun e => nomatch e) fun o' r' ht hmax _ => ?_
    obtain ⟨_, rfl, _⟩ := isTok_iff.mp ht
    have := hmax _ hpn
    dsimp only at this
    omega
  · rw [if_neg (by rw [hnum]; exact c1)]
    by_cases c2 : nmAt nums (pl nums.length o r j) < nmAt nums o
    · rw [if_pos (by rw [hnum]; exact c2)]
      have hless' : ∀ i, 1 ≤ i → i ≤ j → nmOff nums o r i < nmAt nums o := fun i a b => by
        rcases Nat.lt_or_ge i j with q | q
        · exact hless i a q
        · have : i = j := by omega
          subst this; exact c2
      have hjn : j < nums.length := lt_n_of_less ho hless'
      have hop : o ≠ pl nums.length o r j := fun e => by rw [← e] at c2; omega
      have hy' : (hs.set (pl nums.length o r j) { h with lost := true })[o]? = some y := (get_set hlt).mpr (.inr ⟨hop, hy⟩)
      have H' := H.mk_lost ⟨o, ho, c2⟩ aw
      by_cases c3 : 1 < 2 ^ s + 1 - j
      · rw [if_pos c3]
        refine ⟨[⟨.ask, o, r, j + 1, s⟩], g, ?_, ?_⟩
        · refine inv_upd I hk hp aw _ 0 hpl H' (fun _ _ _ => rfl) (fun _ _ _ _ q => q) aw id (fun _ q => q) ?_ ?_ ?_ (crown_keep (h' := { h with lost := true }) I hk hp rfl (fun _ q => q) _ (fun e => nomatch e)) (fun _ _ _ _ _ _ => trivial) (.inl ⟨any_set hp rfl, rfl⟩) ?_
          · intro m' hm'
            rw [List.mem_singleton.mp hm']
            exact ⟨y, hy', hst, by dsimp only; omega, by dsimp only; omega, fun i a b => hless' i a (by dsimp only at b; omega)⟩
          · exact tok_keep I hk _ fun o' r' => Nat.le_of_eq (tok_one _)
          · refine alive_keep (h' := { h with lost := true }) I hk hp aw rfl _ (fun _ _ => rfl) fun o' r' a _ _ => ?_
            rw [tok_one]
            exact Nat.lt_of_lt_of_eq Nat.zero_lt_one (congrArg Bool.toNat a).symm
          · have : cost nums.length { h with lost := true } = cost nums.length h := rfl
            rw [this]
            simp only [List.map_cons, List.map_nil, List.sum_cons, List.sum_nil, List.length_cons, List.length_nil, credit]
            by_cases q : 2 ^ s < nums.length
            · simp only [if_pos q]; omega
            · simp only [if_neg q]; omega
        · simp only [List.map_cons, List.map_nil, GM.mail]
          rw [dest_pl_succ I.pos]
          congr 3
      · rw [if_neg c3]
        have hj : j = 2 ^ s := by omega
        have h2 := two_pow_pos s
        refine ⟨[⟨.answer, o, r, 2 ^ s - 1, s⟩], g, ?_, ?_⟩
        · refine inv_upd I hk hp aw _ 0 hpl H' (fun _ _ _ => rfl) (fun _ _ _ _ q => q) aw id (fun _ q => q) ?_ ?_ ?_ (crown_keep (h' := { h with lost := true }) I hk hp rfl (fun _ q => q) _ (fun e => nomatch e)) (fun _ _ _ _ _ _ => trivial) (.inl ⟨any_set hp rfl, rfl⟩) ?_
          · intro m' hm'
            rw [List.mem_singleton.mp hm']
            exact ⟨y, hy', hst, by dsimp only; omega, fun i a b => hless' i a (by dsimp only at b; omega)⟩
          · exact tok_keep I hk _ fun o' r' => Nat.le_of_eq (tok_one _)
          · refine alive_keep (h' := { h with lost := true }) I hk hp aw rfl _ (fun _ _ => rfl) fun o' r' a _ _ => ?_
            rw [tok_one]
            exact Nat.lt_of_lt_of_eq Nat.zero_lt_one (congrArg Bool.toNat a).symm
          · have : cost nums.length { h with lost := true } = cost nums.length h := rfl
            rw [this]
            simp only [List.map_cons, List.map_nil, List.sum_cons, List.sum_nil, List.length_cons, List.length_nil, credit]
            rw [if_pos (by omega)]; omega
        · simp only [List.map_cons, List.map_nil, GM.mail]
          have := dest_pl_pred I.pos o r (2 ^ s - 1)
          rw [show 2 ^ s - 1 + 1 = j by omega] at this
          rw [this]
    · rw [if_neg (by rw [hnum]; exact c2)]
      have heq : nmAt nums o = nmAt nums (pl nums.length o r j) := by omega
      have hop : o = pl nums.length o r j := nm_inj I.nodup ho hpn heq
      have hjn : nums.length ≤ j := pl_back ho hj1 hop.symm
      have hmax : ∀ q, q < nums.length → nmAt nums q ≤ nmAt nums o := fun q hq => by
        by_cases e : q = o
        · rw [e]; exact Int.le_refl _
        · obtain ⟨i, i1, i2, e2⟩ := pl_onto r ho hq e
          have := hless i i1 (by omega)
          unfold nmOff at this
          rw [e2] at this; omega
      by_cases c3 : h.won = true
      · rw [if_pos c3]
        refine drop_ok I hk hp aw hpl (fun e => nomatch e) fun o' r' ht _ hw => ?_
        obtain ⟨_, e, _⟩ := isTok_iff.mp ht
        dsimp only at e
        have := hw h (by rw [← e, hop]; exact hp)
        rw [c3] at this; cases this
      · rw [if_neg c3]
        have hpm : ∀ q, q < nums.length → nmAt nums q ≤ nmAt nums (pl nums.length o r j) := by rw [← heq]; exact hmax
        have hnew : (hs.set (pl nums.length o r j) { h with won := true, top := some h.num })[o]? = some { h with won := true, top := some h.num } := (get_set hlt).mpr (.inl ⟨hop, rfl⟩)
        refine ⟨[⟨.crown, o, true, 1, 0⟩], g, ?_, ?_⟩
        · refine inv_upd I hk hp aw _ nums.length hpl ?_ (fun _ _ _ => rfl) (fun _ _ _ _ q => q) aw (fun _ => rfl) (fun x q => ?_) ?_ ?_ ?_ ?_ (fun _ _ _ _ _ _ => trivial) (.inr ⟨?_, any_set_true hp rfl, rfl⟩) ?_
          · exact ⟨H.num, fun e => absurd e aw, H.far, H.had, H.full, H.got, H.past, fun _ => ⟨hpm, congrArg some hnum⟩, H.lost, fun x e => by cases e; rw [hnum]; exact ⟨nm_mem hpn, hpm⟩⟩
          · rw [I.topIs hp q hpn hpm, hnum]
          · intro m' hm'
            rw [List.mem_singleton.mp hm']
            exact ⟨_, hnew, rfl, Nat.le_refl _, I.pos, fun i a b => by dsimp only at b; omega⟩
          · exact tok_keep I hk _ fun o' r' => by rw [List.countP_singleton]; simp [GM.isTok]
          · intro o' y' hy' _ hw' hmx _
            have e : o' = o := I.maxUnique (by have := lt_of_get hy'; rw [List.length_set, I.len] at this; exact this) ho hmx hmax
            rw [e, hnew] at hy'
            cases hy'; cases hw'
          · intro o' y' hy' hw'
            left
            refine ⟨_, List.mem_append.mpr (.inr (List.mem_singleton.mpr rfl)), rfl, ?_⟩
            dsimp only
            by_cases e : o' = pl nums.length o r j
            · rw [e]; exact hop
            · rcases (get_set hlt).mp hy' with ⟨a, _⟩ | ⟨_, a⟩
              · exact absurd a e
              · exact I.maxUnique ho (I.lt a) hmax ((I.hand _ _ a).won hw').1
          · rw [List.any_eq_false]
            intro z hz hzw
            obtain ⟨i, hi, e⟩ := List.getElem_of_mem hz
            have hz' : hs[i]? = some z := by rw [List.getElem?_eq_getElem hi, e]
            have : i = pl nums.length o r j := I.maxUnique (I.lt hz') hpn ((I.hand _ _ hz').won hzw).1 hpm
            rw [this, hp] at hz'
            cases hz'
            exact c3 hzw
          · simp only [List.map_cons, List.map_nil, List.sum_cons, List.sum_nil, List.length_cons, List.length_nil, credit]
            have : cost nums.length { h with won := true, top := some h.num } = cost nums.length h := rfl
            rw [this]
            have := I.pos
            omega
        · simp only [List.map_cons, List.map_nil, GM.mail]
          rw [hnum, ← heq, ← hop, show (1 : Int) = wayOf true from rfl, dest_one]

theorem answerCame_own {h : Hnd} {l : Ltr} {s : Nat} (hst : h.stage = some s) (hn : l.num = h.num) (hl : l.stage = s) :
    h.answerCame l = if h.had + 1 ≠ 2 ∨ h.lost = true then ({ h with had := h.had + 1 }, []) else ({ h with stage := some (s + 1), far := h.far + h.far, had := 0 }, [⟨1, .ask, h.num, s + 1, h.far + h.far⟩, ⟨-1, .ask, h.num, s + 1, h.far + h.far⟩]) := by
  obtain ⟨num, stage, far, had, lost, won, top⟩ := h
  dsimp only at hst hn
  subst hst
  unfold Hnd.answerCame
  dsimp only
  rw [if_neg (by simp [hn]), if_neg (by simp [hl])]
theorem answer_ok (I : GInv nums hs ms g many) {o : Nat} {r : Bool} {j s : Nat} (hk : ms[k]? = some ⟨.answer, o, r, j, s⟩) (hp : hs[pl nums.length o r j]? = some h) (aw : h.stage ≠ none) :
    Leads nums hs ms many k (pl nums.length o r j) (h.answerCame ⟨-wayOf r, .answer, nmAt nums o, s, 0⟩) := by
  have hM := I.mail _ (List.mem_of_getElem? hk)
  obtain ⟨y, hy, hst, hj, hless⟩ := hM
  dsimp only at hy hst hj hless
  have ho : o < nums.length := I.lt hy
  have hpn := I.lt hp
  have H := I.hand _ h hp
  have hnum := H.num
  have hlt := lt_of_get hp
  have hsn : 2 ^ s < nums.length := lt_n_of_less ho hless
  by_cases c1 : nmAt nums o ≠ nmAt nums (pl nums.length o r j)
  · unfold Hnd.answerCame
    dsimp only
    rw [if_pos (by rw [hnum]; exact c1)]
    have hj0 : j ≠ 0 := fun e => c1 (by rw [e, pl_zero r ho])
    have hop : o ≠ pl nums.length o r j := fun e => c1 (by rw [← e])
    have hy' : (hs.set (pl nums.length o r j) h)[o]? = some y := (get_set hlt).mpr (.inr ⟨hop, hy⟩)
    refine ⟨[⟨.answer, o, r, j - 1, s⟩], g, ?_, ?_⟩
    · refine inv_upd I hk hp aw _ 0 (fun e => nomatch e) H (fun _ _ _ => rfl) (fun _ _ _ _ q => q) aw id (fun _ q => q) ?_ ?_ ?_ (crown_keep I hk hp rfl (fun _ q => q) _ (fun e => nomatch e)) (fun _ _ _ _ _ _ => trivial) (.inl ⟨any_set hp rfl, rfl⟩) ?_
      · intro m' hm'
        rw [List.mem_singleton.mp hm']
        exact ⟨y, hy', hst, by dsimp only; omega, hless⟩
      · exact tok_keep I hk _ fun o' r' => Nat.le_of_eq (tok_one _)
      · refine alive_keep I hk hp aw rfl _ (fun _ _ => rfl) fun o' r' a _ _ => ?_
        rw [tok_one]
        exact Nat.lt_of_lt_of_eq Nat.zero_lt_one (congrArg Bool.toNat a).symm
      · simp only [List.map_cons, List.map_nil, List.sum_cons, List.sum_nil, List.length_cons, List.length_nil, credit]
        omega
    · simp only [List.map_cons, List.map_nil, GM.mail]
      have := dest_pl_pred I.pos o r (j - 1)
      rw [show j - 1 + 1 = j by omega] at this
      rw [this]
  · have heq : nmAt nums o = nmAt nums (pl nums.length o r j) := by omega
    have hop : o = pl nums.length o r j := nm_inj I.nodup ho hpn heq
    have hj0 : j = 0 := by
      apply Classical.byContradiction
      intro hne
      have := pl_back ho (by omega) hop.symm
      omega
    have hpo : pl nums.length o r j = o := hop.symm
    rw [hpo] at hp hpn H hlt hnum ⊢
    have hyh : y = h := by rw [hp] at hy; exact (Option.some.inj hy).symm
    subst hyh
    rw [answerCame_own hst hnum.symm rfl]
    have htok := I.tok o r
    have hce := count_erase (f := GM.isTok o r) hk
    have hm1 : GM.isTok o r ⟨.answer, o, r, j, s⟩ = true := by simp [GM.isTok]
    rw [hm1] at hce
    have hgr : g o r = false := by
      cases e : g o r with
      | false => rfl
      | true => rw [e] at htok; simp only [Bool.toNat_true] at htok hce; omega
    have hcr : (ms.eraseIdx k).countP (GM.isTok o r) = 0 := by simp at hce; omega
    have hcn : ∀ o' r', ¬ (o' = o ∧ r' = r) → (ms.eraseIdx k).countP (GM.isTok o' r') = ms.countP (GM.isTok o' r') := fun o' r' hne => by
      have := count_erase (f := GM.isTok o' r') hk
      have e : GM.isTok o' r' ⟨.answer, o, r, j, s⟩ = false := by
        cases q : GM.isTok o' r' ⟨.answer, o, r, j, s⟩ with
        | false => rfl
        | true => exact absurd ⟨(isTok_iff.mp q).2.1.symm, (isTok_iff.mp q).2.2.symm⟩ hne
      rw [e] at this; simpa using this
    have hhad := H.had s hst
    have hsum : (g o true).toNat + (g o false).toNat = (g o (!r)).toNat := by cases r <;> simp [hgr]
    by_cases c2 : y.had + 1 ≠ 2 ∨ y.lost = true
    · rw [if_pos c2]
      refine ⟨[], fun i r' => if i = o ∧ r' = r then true else g i r', ?_, rfl⟩
      have hg1 : ∀ r', (if o = o ∧ r' = r then true else g o r') = (if r' = r then true else g o r') := fun r' => by simp
      refine inv_upd I hk hp aw [] 0 (fun e => nomatch e) ?_ (fun i r' e => by simp [e]) (fun _ _ _ _ q => q) aw id (fun _ q => q) (fun _ q => nomatch q) ?_ ?_ (crown_keep (h' := { y with had := y.had + 1 }) I hk hp rfl (fun _ q => q) [] (fun e => nomatch e)) (fun _ _ _ _ _ _ => trivial) (.inl ⟨any_set hp rfl, rfl⟩) ?_
      · refine ⟨hnum, fun e => absurd e aw, H.far, fun s' e => ?_, fun a b => ?_, fun s' r' e q i i1 i2 => ?_, H.past, H.won, H.lost, H.top⟩
        · dsimp only
          rw [hhad, hsum]
          cases r <;> simp <;> omega
        · rcases c2 with c2 | c2
          · exfalso
            apply c2
            rw [hhad, hsum]
            cases r <;> simp at a b ⊢ <;> simp [a, b]
          · exact c2
        · by_cases e2 : r' = r
          · subst e2
            have e' : y.stage = some s' := e
            rw [hst] at e'; cases e'
            exact hless i i1 i2
          · simp [e2] at q
            exact H.got s' r' e q i i1 i2
      · intro o' r'
        simp only [List.countP_nil, Nat.add_zero]
        by_cases e : o' = o ∧ r' = r
        · rw [e.1, e.2, hcr]; simp
        · rw [hcn o' r' e, if_neg e]; exact I.tok o' r'
      · intro o' y' hy' hys hyw hmax r'
        by_cases e : o' = o ∧ r' = r
        · exact .inl (by simp [e])
        · rw [if_neg e, hcn o' r' e]
          simp only [List.countP_nil, Nat.add_zero]
          have old : ∃ z, hs[o']? = some z ∧ z.stage ≠ none ∧ z.won = false := by
            rcases (get_set hlt).mp hy' with ⟨rfl, rfl⟩ | ⟨_, q⟩
            · exact ⟨y, hp, aw, hyw⟩
            · exact ⟨y', q, hys, hyw⟩
          obtain ⟨z, hz, hzs, hzw⟩ := old
          exact I.alive o' z hz hzs hzw hmax r'
      · have : cost nums.length { y with had := y.had + 1 } = cost nums.length y := rfl
        simp [credit, this]
    · rw [if_neg c2]
      have c2' : y.had + 1 = 2 ∧ y.lost = false := by
        refine ⟨by omega, ?_⟩
        cases e : y.lost with
        | false => rfl
        | true => exact absurd (.inr e) c2
      have hgo : g o (!r) = true := by
        cases e : g o (!r) with
        | true => rfl
        | false => rw [hsum, e] at hhad; simp at hhad; omega
      have hco : ms.countP (GM.isTok o (!r)) = 0 := by have := I.tok o (!r); rw [hgo] at this; simp at this ⊢; omega
      have hfar := H.far s hst
      have hc0 : ∀ r', (ms.eraseIdx k).countP (GM.isTok o r') = 0 := fun r' => by
        by_cases e : r' = r
        · rw [e]; exact hcr
        · have e' : r' = !r := bool_ne e
          rw [hcn o r' (fun q => e q.2), e']; exact hco
      have hpow : 2 ^ s + 2 ^ s = 2 ^ (s + 1) := by rw [Nat.pow_succ]; omega
      refine ⟨[⟨.ask, o, true, 1, s + 1⟩, ⟨.ask, o, false, 1, s + 1⟩], fun i r' => if i = o then false else g i r', ?_, ?_⟩
      · have hnew : (hs.set o { y with stage := some (s + 1), far := y.far + y.far, had := 0 })[o]? = some { y with stage := some (s + 1), far := y.far + y.far, had := 0 } := (get_set hlt).mpr (.inl ⟨rfl, rfl⟩)
        refine inv_upd I hk hp aw _ 0 (fun e => nomatch e) ?_ (fun i r' e => by simp [e]) ?_ (by simp) id (fun _ q => q) ?_ ?_ ?_ (crown_keep (h' := { y with stage := some (s + 1), far := y.far + y.far, had := 0 }) I hk hp rfl (fun _ q => q) _ (fun e => nomatch e)) (fun _ _ _ _ _ _ => trivial) (.inl ⟨any_set hp rfl, rfl⟩) ?_
        · refine ⟨hnum, fun e => by simp at e, fun s' e => ?_, fun s' e => by simp, fun a => by simp at a, fun s' r' e q => by simp at q, fun s' e => ?_, H.won, H.lost, H.top⟩
          · simp at e; subst e
            show y.far + y.far = _
            rw [hfar]; exact hpow
          · simp at e; subst e
            refine ⟨hsn, fun r' i i1 i2 => ?_⟩
            by_cases e2 : r' = r
            · subst e2; exact hless i i1 i2
            · have e' : r' = !r := bool_ne e2
              subst e'
              exact H.got s (!r) hst hgo i i1 i2
        · intro m' hm' e1 e2 _
          exfalso
          have := hc0 m'.r
          rw [List.countP_eq_zero] at this
          exact this m' hm' (isTok_iff.mpr ⟨e2, e1, rfl⟩)
        · have ask1 : ∀ r', MInv nums (hs.set o { y with stage := some (s + 1), far := y.far + y.far, had := 0 }) ⟨.ask, o, r', 1, s + 1⟩ := fun r' => ⟨_, hnew, rfl, Nat.le_refl _, two_pow_pos _, fun i a b => by dsimp only at b; omega⟩
          intro m' hm'
          simp only [List.mem_cons, List.mem_nil_iff, or_false] at hm'
          rcases hm' with rfl | rfl
          · exact ask1 true
          · exact ask1 false
        · intro o' r'
          by_cases e : o' = o
          · subst e
            rw [hc0]
            cases r' <;> simp [GM.isTok]
          · rw [hcn o' r' (fun q => e q.1), if_neg e]
            have e' : ¬ o = o' := fun q => e q.symm
            have : List.countP (GM.isTok o' r') [⟨.ask, o, true, 1, s + 1⟩, ⟨.ask, o, false, 1, s + 1⟩] = 0 := by simp [GM.isTok, e']
            rw [this]; exact I.tok o' r'
        · intro o' y' hy' hys hyw hmax r'
          by_cases e : o' = o
          · right; subst e
            rw [hc0]
            cases r' <;> simp [GM.isTok]
          · rw [if_neg e, hcn o' r' (fun q => e q.1)]
            rcases (get_set hlt).mp hy' with ⟨a, _⟩ | ⟨_, q⟩
            · exact absurd a e
            · rcases I.alive o' y' q hys hyw hmax r' with a | a
              · exact .inl a
              · right; omega
        · simp only [List.map_cons, List.map_nil, List.sum_cons, List.sum_nil, List.length_cons, List.length_nil, credit, cost, hst, costTo, price]
          have := two_pow_pos (s + 1)
          have := I.pos
          by_cases q : 2 ^ (s + 1) < nums.length
          · simp only [if_pos q]; omega
          · simp only [if_neg q]; omega
      · simp only [List.map_cons, List.map_nil, GM.mail]
        rw [hnum, hfar, hpow, ← dest_one, ← dest_one]
        rfl

theorem crown_ok (I : GInv nums hs ms g many) {o : Nat} {r : Bool} {j s : Nat} (hk : ms[k]? = some ⟨.crown, o, r, j, s⟩) (hp : hs[pl nums.length o true j]? = some h) (aw : h.stage ≠ none) :
    Leads nums hs ms many k (pl nums.length o true j) (h.crownCame ⟨1, .crown, nmAt nums o, 0, 0⟩) := by
  have hM := I.mail _ (List.mem_of_getElem? hk)
  obtain ⟨y, hy, hw, hj1, hj2, htops⟩ := hM
  dsimp only at hy hw hj1 hj2 htops
  have ho : o < nums.length := I.lt hy
  have hpn := I.lt hp
  have H := I.hand _ h hp
  have hnum := H.num
  have hlt := lt_of_get hp
  obtain ⟨hmax, hytop⟩ := (I.hand _ _ hy).won hw
  have hall : ∀ o' y', hs[o']? = some y' → y'.won = true → o' = o := fun o' y' hy' hw' => I.maxUnique (I.lt hy') ho ((I.hand _ _ hy').won hw').1 hmax
  unfold Hnd.crownCame
  dsimp only
  by_cases c1 : nmAt nums o = nmAt nums (pl nums.length o true j)
  · rw [if_pos (by rw [hnum]; exact c1)]
    have hop : o = pl nums.length o true j := nm_inj I.nodup ho hpn c1
    have hjn := pl_back ho hj1 hop.symm
    refine ⟨[], g, ?_, rfl⟩
    refine inv_upd I hk hp aw [] 0 (fun e => nomatch e) H (fun _ _ _ => rfl) (fun _ _ _ _ q => q) aw id (fun _ q => q) (fun _ q => nomatch q) (tok_keep I hk [] fun o r => by simp) (alive_keep I hk hp aw rfl [] (fun _ _ => rfl) fun o' r' a => ?_) ?_ (fun _ _ _ _ _ _ => trivial) (.inl ⟨any_set hp rfl, rfl⟩) (by simp)
    · exact absurd rfl (isTok_iff.mp a).1
    · intro o' y' hy' hw'
      right
      have hset : hs.set (pl nums.length o true j) h = hs := by
        have := List.getElem?_eq_some_iff.mp hp
        obtain ⟨q1, q2⟩ := this
        rw [← q2]; exact List.set_getElem_self q1
      rw [hset] at hy' ⊢
      have := hall o' y' hy' hw'
      subst this
      intro q hq
      by_cases e : q = o'
      · subst e; exact ⟨y, hy, hytop⟩
      · obtain ⟨i, i1, i2, e2⟩ := pl_onto true ho hq e
        rw [← e2]
        exact htops i i1 (by omega)
  · rw [if_neg (by rw [hnum]; exact c1)]
    have hop : o ≠ pl nums.length o true j := fun e => c1 (by rw [← e])
    have hjn : j < nums.length := by
      rcases Nat.lt_or_ge j nums.length with q | q
      · exact q
      · have : j = nums.length := by omega
        rw [this, pl_self o true ho] at hop; exact absurd rfl hop
    have hy' : (hs.set (pl nums.length o true j) { h with top := some (nmAt nums o) })[o]? = some y := (get_set hlt).mpr (.inr ⟨hop, hy⟩)
    have ht : ∀ x, h.top = some x → ({ h with top := some (nmAt nums o) } : Hnd).top = some x := fun x q => by rw [I.topIs hp q ho hmax]
    refine ⟨[⟨.crown, o, true, j + 1, 0⟩], g, ?_, ?_⟩
    · refine inv_upd I hk hp aw _ 0 (fun e => nomatch e) ?_ (fun _ _ _ => rfl) (fun _ _ _ _ q => q) aw id ht ?_ ?_ ?_ ?_ (fun _ _ _ _ _ _ => trivial) (.inl ⟨any_set hp rfl, rfl⟩) ?_
      · refine ⟨hnum, fun e => absurd e aw, H.far, H.had, H.full, H.got, H.past, fun e => ?_, H.lost, fun x e => ?_⟩
        · exact absurd (hall _ _ hp e).symm hop
        · cases e; exact ⟨nm_mem ho, hmax⟩
      · intro m' hm'
        rw [List.mem_singleton.mp hm']
        refine ⟨y, hy', hw, by dsimp only; omega, by dsimp only; omega, fun i i1 i2 => ?_⟩
        dsimp only at i2 ⊢
        by_cases e : pl nums.length o true i = pl nums.length o true j
        · rw [e]; exact ⟨_, (get_set hlt).mpr (.inl ⟨rfl, rfl⟩), rfl⟩
        · have : i < j := by
            rcases Nat.lt_or_ge i j with q | q
            · exact q
            · exact absurd (by rw [show i = j by omega]) e
          obtain ⟨z, hz, hzt⟩ := htops i i1 this
          exact ⟨z, (get_set hlt).mpr (.inr ⟨e, hz⟩), hzt⟩
      · exact tok_keep I hk _ fun o' r' => by rw [List.countP_singleton]; simp [GM.isTok]
      · refine alive_keep (h' := { h with top := some (nmAt nums o) }) I hk hp aw rfl _ (fun _ _ => rfl) fun o' r' a => ?_
        exact absurd rfl (isTok_iff.mp a).1
      · intro o' y' hy2 hw'
        left
        refine ⟨_, List.mem_append.mpr (.inr (List.mem_singleton.mpr rfl)), rfl, ?_⟩
        dsimp only
        rcases (get_set hlt).mp hy2 with ⟨a, b⟩ | ⟨_, b⟩
        · subst b
          have := hall _ _ hp hw'
          rw [a, this]
        · exact (hall _ _ b hw').symm
      · have : cost nums.length { h with top := some (nmAt nums o) } = cost nums.length h := rfl
        rw [this]
        simp only [List.map_cons, List.map_nil, List.sum_cons, List.sum_nil, List.length_cons, List.length_nil, credit]
        omega
    · simp only [List.map_cons, List.map_nil, GM.mail]
      have := dest_pl_succ I.pos o true j
      rw [show wayOf true = 1 from rfl] at this
      rw [this]

theorem came_ok (I : GInv nums hs ms g many) (hk : ms[k]? = some m) (hp : hs[(m.mail nums).1]? = some h) (aw : h.stage ≠ none) :
    Leads nums hs ms many k (m.mail nums).1 (h.came (m.mail nums).2) := by
  obtain ⟨kd, o, r, j, s⟩ := m
  cases kd with
  | ask => exact ask_ok I hk hp aw
  | answer => exact answer_ok I hk hp aw
  | crown => exact crown_ok I hk hp aw
end Mine

namespace Mine
variable {nums : List Int} {hs : List Hnd} {ms : List GM} {g g' : Nat → Bool → Bool} {many p k : Nat} {h h' : Hnd} {m : GM} {R : Rng}

def Good (nums : List Int) (R : Rng) : Prop := ∃ ms g, GInv nums R.hands ms g R.many ∧ R.road = ms.map (GM.mail nums)

def Rng.start (nums : List Int) : Rng := ⟨nums.map fun x => { num := x }, [], 0⟩

theorem good_start (h0 : 0 < nums.length) (hn : nums.Nodup) : Good nums (Rng.start nums) := by
  have hget : ∀ {i : Nat} {h : Hnd}, (Rng.start nums).hands[i]? = some h → h = { num := nmAt nums i } := by
    intro i h hh
    simp only [Rng.start, List.getElem?_map, Option.map_eq_some_iff] at hh
    obtain ⟨a, ha, rfl⟩ := hh
    simp [nmAt, List.getD_eq_getElem?_getD, ha]
  refine ⟨[], fun _ _ => false, ⟨h0, hn, by simp [Rng.start], ?_, fun _ _ _ => rfl, fun _ q => (nomatch q), fun _ _ => by simp, ?_, ?_, ?_, ?_⟩, rfl⟩
  · intro i h hh
    rw [hget hh]
    exact ⟨rfl, fun _ => ⟨rfl, fun _ => rfl⟩, fun _ q => (nomatch q), fun _ q => (nomatch q), fun q => (nomatch q), fun _ _ q => (nomatch q), fun _ q => (nomatch q), fun q => (nomatch q), fun q => (nomatch q), fun _ q => (nomatch q)⟩
  · intro o h hh q; rw [hget hh] at q; exact absurd rfl q
  · intro o h hh q; rw [hget hh] at q; exact absurd rfl q
  · intro o h hh q; rw [hget hh] at q; cases q
  · show 0 + 0 ≤ _; omega

theorem wake_awake (aw : h.stage ≠ none) : h.wake = (h, []) := by
  unfold Hnd.wake
  cases e : h.stage with
  | none => exact absurd e aw
  | some s => rfl
theorem wake_asleep (as : h.stage = none) : h.wake = ({ h with stage := some 0 }, h.asks 0) := by
  unfold Hnd.wake
  rw [as]
theorem set_same {hs : List Hnd} (hp : hs[p]? = some h) : hs.set p h = hs := by
  obtain ⟨q1, q2⟩ := List.getElem?_eq_some_iff.mp hp
  rw [← q2]; exact List.set_getElem_self q1

theorem good_wake (G : Good nums R) (p : Nat) : Good nums (R.wake p) := by
  unfold Rng.wake
  cases hp : R.hands[p]? with
  | none => exact G
  | some h =>
    dsimp only
    obtain ⟨ms, g, I, hr⟩ := G
    cases hst : h.stage with
    | some s =>
      rw [wake_awake (by rw [hst]; exact fun q => nomatch q)]
      refine ⟨ms, g, ?_, ?_⟩
      · show GInv nums (R.hands.set p h) ms g (R.many + 0)
        rw [set_same hp]; exact I
      · show R.road ++ [] = _
        rw [List.append_nil, hr]
    | none =>
      rw [wake_asleep hst]
      have W := inv_wake I hp hst
      refine ⟨_, g, W, ?_⟩
      show R.road ++ _ = _
      have hlen : (R.hands.set p { h with stage := some 0 }).length = nums.length := by rw [List.length_set, I.len]
      obtain ⟨hd, _⟩ := (I.hand p h hp).asleep hst
      rw [List.map_append, hr]
      congr 1
      simp only [Hnd.asks, List.map_cons, List.map_nil, GM.mail, hlen]
      rw [← dest_one, ← dest_one, hd]
      rfl

theorem wake_stage (h : Hnd) : h.wake.1.stage ≠ none := by
  unfold Hnd.wake
  cases e : h.stage with
  | none => exact fun q => nomatch q
  | some s => dsimp only; rw [e]; exact fun q => nomatch q

theorem map_eraseIdx {α β : Type} (f : α → β) (l : List α) (k : Nat) : (l.map f).eraseIdx k = (l.eraseIdx k).map f := by
  induction l generalizing k with
  | nil => rfl
  | cons x xs ih => cases k with
    | zero => rfl
    | succ k => simp [ih]
theorem good_bring (G : Good nums R) (k : Nat) : Good nums (R.bring k) := by
  unfold Rng.bring
  cases hk : R.road[k]? with
  | none => exact G
  | some pl0 =>
    obtain ⟨p, l⟩ := pl0
    dsimp only
    cases hp : R.hands[p]? with
    | none => exact G
    | some h =>
      dsimp only
      -- wake first
      have GW := good_wake G p
      unfold Rng.wake at GW
      rw [hp] at GW
      dsimp only at GW
      obtain ⟨ms, g, I, hr⟩ := GW
      have hlt := lt_of_get hp
      have hkl : k < R.road.length := by
        rcases Nat.lt_or_ge k R.road.length with q | q
        · exact q
        · rw [List.getElem?_eq_none q] at hk; cases hk
      simp only [Rng.post] at I hr
      have hk' : (ms.map (GM.mail nums))[k]? = some (p, l) := by
        rw [← hr, List.getElem?_append_left hkl]; exact hk
      rw [List.getElem?_map, Option.map_eq_some_iff] at hk'
      obtain ⟨m, hm, hml⟩ := hk'
      have hp' : (R.hands.set p h.wake.1)[(m.mail nums).1]? = some h.wake.1 := by
        rw [hml]; exact (get_set hlt).mpr (.inl ⟨rfl, rfl⟩)
      obtain ⟨new, g', I', hnew⟩ := came_ok I hm hp' (wake_stage h)
      rw [hml] at I' hnew
      dsimp only at I' hnew
      rw [List.set_set] at I'
      have hlen : R.hands.length = nums.length := by have := I.len; rwa [List.length_set] at this
      refine ⟨ms.eraseIdx k ++ new, g', ?_, ?_⟩
      · simp only [Rng.post, Hnd.take]
        have e : R.many + (h.wake.2 ++ (h.wake.1.came l).2).length = R.many + h.wake.2.length + new.length := by
          have := congrArg List.length hnew
          simp only [List.length_map] at this
          rw [List.length_append, this]; omega
        rw [e]; exact I'
      · simp only [Rng.post, Hnd.take, List.length_set, hlen] at hr ⊢
        rw [List.map_append, List.map_append, ← hnew, ← List.append_assoc]
        congr 1
        rw [← map_eraseIdx, ← hr, List.eraseIdx_append_of_lt_length hkl]
end Mine

namespace Mine
variable {nums : List Int} {hs : List Hnd} {ms : List GM} {g g' : Nat → Bool → Bool} {many p k : Nat} {h h' : Hnd} {m : GM} {R : Rng}

/-! ### what is kept (safety) -/
theorem Good.len (G : Good nums R) : R.hands.length = nums.length := by obtain ⟨_, _, I, _⟩ := G; exact I.len
theorem Good.pos (G : Good nums R) : 0 < nums.length := by obtain ⟨_, _, I, _⟩ := G; exact I.pos
theorem Good.num (G : Good nums R) (hp : R.hands[p]? = some h) : h.num = nmAt nums p := by obtain ⟨_, _, I, _⟩ := G; exact (I.hand p h hp).num
theorem Good.first (G : Good nums R) (hp : R.hands[p]? = some h) (hw : h.won = true) : (∀ q, q < nums.length → nmAt nums q ≤ nmAt nums p) ∧ h.top = some (nmAt nums p) := by
  obtain ⟨_, _, I, _⟩ := G; exact (I.hand p h hp).won hw
theorem Good.top (G : Good nums R) (hp : R.hands[p]? = some h) {x : Int} (hx : h.top = some x) : x ∈ nums ∧ ∀ q, q < nums.length → nmAt nums q ≤ x := by
  obtain ⟨_, _, I, _⟩ := G; exact (I.hand p h hp).top x hx
theorem Good.stage (G : Good nums R) (hp : R.hands[p]? = some h) {s : Nat} (hs : h.stage = some (s + 1)) : 2 ^ s < nums.length ∧ ∀ r j, 1 ≤ j → j ≤ 2 ^ s → nmOff nums p r j < nmAt nums p := by
  obtain ⟨_, _, I, _⟩ := G; exact (I.hand p h hp).past s hs
theorem Good.farIs (G : Good nums R) (hp : R.hands[p]? = some h) {s : Nat} (hs : h.stage = some s) : h.far = 2 ^ s := by
  obtain ⟨_, _, I, _⟩ := G; exact (I.hand p h hp).far s hs

/-- how a hand may turn -/
structure Hnd.Le (h h' : Hnd) : Prop where
  num : h'.num = h.num
  won : h.won = true → h'.won = true
  top : h.top.isSome = true → h'.top.isSome = true
  stage : ∀ s, h.stage = some s → ∃ s', h'.stage = some s' ∧ s ≤ s'
theorem Hnd.Le.refl (h : Hnd) : h.Le h := ⟨rfl, id, id, fun s e => ⟨s, e, Nat.le_refl _⟩⟩
theorem Hnd.Le.trans {a b c : Hnd} (x : a.Le b) (y : b.Le c) : a.Le c :=
  ⟨y.num.trans x.num, fun q => y.won (x.won q), fun q => y.top (x.top q), fun s e => let ⟨s', e', l⟩ := x.stage s e; let ⟨s2, e2, l2⟩ := y.stage s' e'; ⟨s2, e2, Nat.le_trans l l2⟩⟩
theorem wake_le (h : Hnd) : h.Le h.wake.1 := by
  unfold Hnd.wake
  cases e : h.stage with
  | none => exact ⟨rfl, id, id, fun s q => by rw [e] at q; cases q⟩
  | some s => exact Hnd.Le.refl h
theorem came_le (h : Hnd) (l : Ltr) : h.Le (h.came l).1 := by
  unfold Hnd.came
  split
  · unfold Hnd.askCame
    split
    · exact .refl h
    · split
      · exact ⟨rfl, id, id, fun s e => ⟨s, e, Nat.le_refl _⟩⟩
      · split
        · exact .refl h
        · exact ⟨rfl, fun _ => rfl, fun _ => rfl, fun s e => ⟨s, e, Nat.le_refl _⟩⟩
  · unfold Hnd.answerCame
    split
    · exact .refl h
    · split
      · exact .refl h
      · rename_i s0 e0
        split
        · exact .refl h
        · split
          · exact ⟨rfl, id, id, fun s e => ⟨s, e, Nat.le_refl _⟩⟩
          · exact ⟨rfl, id, id, fun s e => ⟨s0 + 1, rfl, by rw [e0] at e; cases e; omega⟩⟩
  · unfold Hnd.crownCame
    split
    · exact .refl h
    · exact ⟨rfl, id, fun _ => rfl, fun s e => ⟨s, e, Nat.le_refl _⟩⟩
theorem take_le (h : Hnd) (l : Ltr) : h.Le (h.take l).1 := (wake_le h).trans (came_le _ l)

def Rng.Le (R R' : Rng) : Prop := R'.hands.length = R.hands.length ∧ ∀ (p : Nat) (h : Hnd), R.hands[p]? = some h → ∃ h' : Hnd, R'.hands[p]? = some h' ∧ h.Le h'
theorem Rng.Le.refl (R : Rng) : R.Le R := ⟨rfl, fun _ h e => ⟨h, e, .refl h⟩⟩
theorem Rng.Le.trans {a b c : Rng} (x : a.Le b) (y : b.Le c) : a.Le c :=
  ⟨y.1.trans x.1, fun p h e => let ⟨h1, e1, l1⟩ := x.2 p h e; let ⟨h2, e2, l2⟩ := y.2 p h1 e1; ⟨h2, e2, l1.trans l2⟩⟩
theorem set_le {R : Rng} {road : List (Nat × Ltr)} {mn : Nat} (hp : R.hands[p]? = some h) (hl : h.Le h') : R.Le ⟨R.hands.set p h', road, mn⟩ := by
  refine ⟨by simp, fun q x e => ?_⟩
  by_cases c : q = p
  · subst c; rw [hp] at e; cases e
    exact ⟨h', (get_set (lt_of_get hp)).mpr (.inl ⟨rfl, rfl⟩), hl⟩
  · exact ⟨x, (get_set (lt_of_get hp)).mpr (.inr ⟨c, e⟩), .refl x⟩
theorem Rng.wake_le (R : Rng) (p : Nat) : R.Le (R.wake p) := by
  unfold Rng.wake
  split
  · exact .refl R
  · rename_i h hp
    exact set_le hp (Mine.wake_le h)
theorem Rng.bring_le (R : Rng) (k : Nat) : R.Le (R.bring k) := by
  unfold Rng.bring
  split
  · exact .refl R
  · split
    · exact .refl R
    · rename_i hp
      exact set_le hp (take_le _ _)

/-! ### the count of those under way -/
theorem Rng.wake_count (R : Rng) (p : Nat) (hc : R.road.length ≤ R.many) : (R.wake p).road.length ≤ (R.wake p).many ∧ (R.wake p).many - (R.wake p).road.length = R.many - R.road.length := by
  unfold Rng.wake
  split
  · exact ⟨hc, rfl⟩
  · simp only [Rng.post, List.length_append, List.length_map]; omega
theorem Good.mail (G : Good nums R) {p : Nat} {l : Ltr} (hk : R.road[k]? = some (p, l)) : ∃ h, R.hands[p]? = some h ∧ h.num = nmAt nums p ∧ (l.word = .ask → 1 ≤ l.steps) ∧
    (l.word = .answer → l.num = nmAt nums p → h.stage = some l.stage) := by
  obtain ⟨ms, g, I, hr⟩ := G
  rw [hr, List.getElem?_map, Option.map_eq_some_iff] at hk
  obtain ⟨m, hm, hml⟩ := hk
  have hM := I.mail m (List.mem_of_getElem? hm)
  have hpn : p < nums.length := by
    have : (m.mail nums).1 = p := by rw [hml]
    rw [← this]
    unfold GM.mail
    split <;> (dsimp only; exact pl_lt I.pos _ _ _)
  obtain ⟨h, hh⟩ : ∃ h, R.hands[p]? = some h := ⟨R.hands[p]'(by rw [I.len]; exact hpn), by rw [List.getElem?_eq_getElem]⟩
  refine ⟨h, hh, (I.hand p h hh).num, fun e => ?_, fun e en => ?_⟩
  · obtain ⟨y, hy, hc⟩ := hM
    unfold GM.mail at hml
    split at hml <;> (cases hml)
    · rename_i hkd
      rw [hkd] at hc
      dsimp only at hc ⊢
      omega
    · cases e
    · cases e
  · obtain ⟨y, hy, hc⟩ := hM
    unfold GM.mail at hml
    split at hml <;> (cases hml)
    · cases e
    · rename_i hkd
      rw [hkd] at hc
      dsimp only at hc en ⊢
      have ho := I.lt hy
      have hop := nm_inj I.nodup ho hpn en
      rw [← hop, hy] at hh
      cases hh
      exact hc.1
    · cases e
theorem Good.bring_count (G : Good nums R) (hk : k < R.road.length) (hc : R.road.length ≤ R.many) :
    (R.bring k).road.length ≤ (R.bring k).many ∧ (R.bring k).many - (R.bring k).road.length = R.many - R.road.length + 1 := by
  obtain ⟨⟨p, l⟩, e⟩ : ∃ x, R.road[k]? = some x := ⟨R.road[k], by rw [List.getElem?_eq_getElem]⟩
  obtain ⟨h, hh, _⟩ := G.mail e
  unfold Rng.bring
  rw [e]
  dsimp only
  rw [hh]
  simp only [Rng.post, List.length_append, List.length_map, List.length_eraseIdx, hk, if_true]
  omega

/-! ### the end -/
theorem Good.quiet (G : Good nums R) (hr : R.road = []) {o : Nat} {ho : Hnd} (hho : R.hands[o]? = some ho) (haw : ho.stage ≠ none) :
    ∀ (p : Nat) (h : Hnd), R.hands[p]? = some h → h.stage ≠ none ∧ (∃ x, h.top = some x ∧ x ∈ nums ∧ ∀ q, q < nums.length → nmAt nums q ≤ x) ∧ (h.won = true ↔ ∀ q, q < nums.length → nmAt nums q ≤ nmAt nums p) := by
  obtain ⟨ms, g, I, hm⟩ := G
  rw [hr] at hm
  have hms : ms = [] := by cases ms with | nil => rfl | cons a b => cases hm
  subst hms
  have hon := I.lt hho
  have all : ∀ j, ∃ h, R.hands[pl nums.length o true j]? = some h ∧ h.stage ≠ none := by
    intro j
    induction j with
    | zero => rw [pl_zero true hon]; exact ⟨ho, hho, haw⟩
    | succ j ih =>
      obtain ⟨h, hh, hs⟩ := ih
      rcases I.reach _ h hh hs true with ⟨h', hh', hs'⟩ | ⟨_, q, _⟩
      · rw [← dest_one, dest_pl_succ I.pos] at hh'
        exact ⟨h', hh', hs'⟩
      · cases q
  have awake : ∀ (p : Nat) (h : Hnd), R.hands[p]? = some h → h.stage ≠ none := by
    intro p h hp
    by_cases e : p = o
    · subst e; rw [hho] at hp; cases hp; exact haw
    · obtain ⟨j, _, _, ej⟩ := pl_onto true hon (I.lt hp) e
      obtain ⟨h', hh', hs'⟩ := all j
      rw [ej, hp] at hh'; cases hh'; exact hs'
  -- the greatest
  have exMax : ∀ n : Nat, 0 < n → n ≤ nums.length → ∃ M, M < n ∧ ∀ q, q < n → nmAt nums q ≤ nmAt nums M := by
    intro n
    induction n with
    | zero => intro q; omega
    | succ n ih =>
      intro _ hn
      by_cases e : n = 0
      · subst e; exact ⟨0, by omega, fun q hq => by have : q = 0 := by omega
                                                    subst this; exact Int.le_refl _⟩
      · obtain ⟨M, hM, hmax⟩ := ih (by omega) (by omega)
        by_cases c : nmAt nums M ≤ nmAt nums n
        · refine ⟨n, by omega, fun q hq => ?_⟩
          by_cases e2 : q = n
          · subst e2; exact Int.le_refl _
          · exact Int.le_trans (hmax q (by omega)) c
        · refine ⟨M, by omega, fun q hq => ?_⟩
          by_cases e2 : q = n
          · subst e2; omega
          · exact hmax q (by omega)
  obtain ⟨M, hM, hmax⟩ := exMax nums.length I.pos (Nat.le_refl _)
  obtain ⟨hMh, hMe⟩ : ∃ h, R.hands[M]? = some h := ⟨R.hands[M]'(by rw [I.len]; exact hM), by rw [List.getElem?_eq_getElem]⟩
  have hMw : hMh.won = true := by
    cases e : hMh.won with
    | true => rfl
    | false =>
      have gr : ∀ r, g M r = true := fun r => by
        rcases I.alive M hMh hMe (awake _ _ hMe) e hmax r with q | q
        · exact q
        · simp at q
      have hl := (I.hand _ _ hMe).full (gr true) (gr false)
      obtain ⟨q, hq, hlt⟩ := (I.hand _ _ hMe).lost hl
      have := hmax q hq
      omega
  have tops : ∀ p, p < nums.length → ∃ h', R.hands[p]? = some h' ∧ h'.top = some (nmAt nums M) := by
    rcases I.crowned M hMh hMe hMw with ⟨_, q, _⟩ | q
    · cases q
    · exact q
  intro p h hp
  refine ⟨awake p h hp, ?_, fun hw => ((I.hand _ _ hp).won hw).1, fun hpm => ?_⟩
  · obtain ⟨h', hh', ht⟩ := tops p (I.lt hp)
    rw [hp] at hh'; cases hh'
    exact ⟨_, ht, nm_mem hM, hmax⟩
  · have := I.maxUnique (I.lt hp) hM hpm hmax
    subst this
    rw [hMe] at hp; cases hp; exact hMw
end Mine

namespace Mine
variable {nums : List Int} {hs : List Hnd} {ms : List GM} {g g' : Nat → Bool → Bool} {many p k : Nat} {h h' : Hnd} {m : GM} {R : Rng}

theorem nodup_le : ∀ (n : Nat) (l : List Nat), l.Nodup → (∀ x ∈ l, x < n) → l.length ≤ n
  | 0, l, _, hl => by
    cases l with
    | nil => simp
    | cons a b => exact absurd (hl a (by simp)) (by omega)
  | n + 1, l, hn, hl => by
    by_cases e : n ∈ l
    · have h1 := List.length_erase_of_mem e
      have h2 := nodup_le n (l.erase n) (hn.erase n) (fun x hx => by
        have := (hn.mem_erase_iff).mp hx
        have := hl x this.2
        omega)
      omega
    · have := nodup_le n l hn (fun x hx => by
        have := hl x hx
        have : x ≠ n := fun q => e (q ▸ hx)
        omega)
      omega

def geStage (t : Nat) (h : Hnd) : Bool := match h.stage with | none => false | some s => decide (t ≤ s)

theorem pl_sub {n i j d : Nat} (hi : i < n) (hd : d ≤ j) : pl n (pl n i true j) false d = pl n i true (j - d) := by
  have h2 := emod_toNat_cast (a := (i : Int) + wayOf true * (j : Int)) (n := n) (by omega)
  show (((pl n i true j : Nat) + wayOf false * (d : Int)) % (n : Int)).toNat = pl n i true (j - d)
  unfold pl
  rw [h2, Int.emod_add_emod]
  congr 2
  simp [wayOf]; omega
theorem pl_inj_j {n i j j' : Nat} (hi : i < n) (hj : j < n) (hj' : j' < n) (h : pl n i true j = pl n i true j') : j = j' := by
  have key : ∀ a b : Nat, a ≤ b → b < n → pl n i true a = pl n i true b → a = b := by
    intro a b hab hb e
    have h1 := pl_sub (d := a) hi hab
    rw [← e, pl_sub (d := a) hi (Nat.le_refl _), Nat.sub_self, pl_zero true hi] at h1
    rcases Nat.eq_or_lt_of_le hab with q | q
    · exact q
    · have := pl_back (r := true) hi (show 1 ≤ b - a by omega) h1.symm
      omega
  rcases Nat.le_total j j' with q | q
  · exact key j j' q hj' h
  · exact (key j' j q hj h.symm).symm

/-- the hands at stage t + 1 or beyond, by their places -/
def placesAt (hs : List Hnd) (t : Nat) : List Nat := (List.range hs.length).filter fun i => (hs[i]?.map (geStage t)).getD false
theorem countP_range (hs : List Hnd) (f : Hnd → Bool) : hs.countP f = ((List.range hs.length).filter fun i => (hs[i]?.map f).getD false).length := by
  rw [← List.countP_eq_length_filter]
  conv => lhs; rw [show hs = (List.range hs.length).map (fun i => hs[i]?.getD { num := 0 }) from by
    apply List.ext_getElem?
    intro i
    simp only [List.getElem?_map]
    rcases Nat.lt_or_ge i hs.length with q | q
    · simp [q]
    · simp [q]]
  rw [List.countP_map]
  apply List.countP_congr
  intro i hi
  have := List.mem_range.mp hi
  simp [this]

theorem pack (G : Good nums R) (t : Nat) : R.hands.countP (geStage (t + 1)) * (2 ^ t + 1) ≤ nums.length := by
  obtain ⟨ms, g, I, _⟩ := G
  have hlen := I.len
  have hpos := I.pos
  rw [countP_range]
  -- what is known of a place in S
  have known : ∀ i ∈ (List.range R.hands.length).filter (fun i => (R.hands[i]?.map (geStage (t + 1))).getD false), i < nums.length ∧ 2 ^ t < nums.length ∧ ∀ r j, 1 ≤ j → j ≤ 2 ^ t → nmOff nums i r j < nmAt nums i := by
    intro i hi
    obtain ⟨h1, h2⟩ := List.mem_filter.mp hi
    have h1' := List.mem_range.mp h1
    obtain ⟨x, hx⟩ : ∃ x, R.hands[i]? = some x := ⟨R.hands[i], by rw [List.getElem?_eq_getElem]⟩
    rw [hx] at h2
    simp only [Option.map_some, Option.getD_some, geStage] at h2
    cases e : x.stage with
    | none => rw [e] at h2; cases h2
    | some s =>
      rw [e] at h2
      have hs := of_decide_eq_true h2
      cases s with
      | zero => omega
      | succ s =>
        obtain ⟨a, b⟩ := (I.hand i x hx).past s e
        have hpw : 2 ^ t ≤ 2 ^ s := Nat.pow_le_pow_right (by omega) (by omega)
        exact ⟨by omega, by omega, fun r j j1 j2 => b r j j1 (by omega)⟩
  have nd : ((List.range R.hands.length).filter (fun i => (R.hands[i]?.map (geStage (t + 1))).getD false)).Nodup := List.Pairwise.filter _ List.nodup_range
  generalize (List.range R.hands.length).filter (fun i => (R.hands[i]?.map (geStage (t + 1))).getD false) = S at known nd
  have hlenB : (S.flatMap fun i => (List.range (2 ^ t + 1)).map fun j => pl nums.length i true j).length = S.length * (2 ^ t + 1) := by
    clear known nd
    induction S with
    | nil => simp
    | cons a b ih => rw [List.flatMap_cons, List.length_append, ih, List.length_map, List.length_range, List.length_cons, Nat.succ_mul]; omega
  rw [← hlenB]
  apply nodup_le
  · -- no place twice
    have meet : ∀ i ∈ S, ∀ i' ∈ S, ∀ j j', j ≤ 2 ^ t → j' ≤ 2 ^ t → j ≤ j' → pl nums.length i true j = pl nums.length i' true j' → i = i' := by
      intro i hi i' hi' j j' hj hj' hle e
      obtain ⟨a1, _, a3⟩ := known i hi
      obtain ⟨b1, _, b3⟩ := known i' hi'
      have h1 : pl nums.length (pl nums.length i true j) false j = pl nums.length (pl nums.length i' true j') false j := by rw [e]
      have h2 := pl_flip true j a1
      rw [show (!true) = false from rfl] at h2
      rw [h2, pl_sub b1 hle] at h1
      rcases Nat.eq_zero_or_pos (j' - j) with q | q
      · rw [q, pl_zero true b1] at h1; exact h1
      · exfalso
        have x1 := b3 true (j' - j) q (by omega)
        have x2 := a3 false (j' - j) q (by omega)
        unfold nmOff at x1 x2
        rw [← h1] at x1
        have h3 := pl_flip true (j' - j) b1
        rw [← h1, show (!true) = false from rfl] at h3
        rw [h3] at x2
        omega
    have meet' : ∀ i ∈ S, ∀ i' ∈ S, ∀ j j', j ≤ 2 ^ t → j' ≤ 2 ^ t → pl nums.length i true j = pl nums.length i' true j' → i = i' := by
      intro i hi i' hi' j j' hj hj' e
      rcases Nat.le_total j j' with q | q
      · exact meet i hi i' hi' j j' hj hj' q e
      · exact (meet i' hi' i hi j' j hj' hj q e.symm).symm
    clear hlenB
    induction S with
    | nil => simp
    | cons a b ih =>
      rw [List.flatMap_cons, List.nodup_append]
      rw [List.nodup_cons] at nd
      refine ⟨?_, ih (fun i hi => known i (List.mem_cons_of_mem _ hi)) nd.2 (fun i hi i' hi' => meet i (List.mem_cons_of_mem _ hi) i' (List.mem_cons_of_mem _ hi')) (fun i hi i' hi' => meet' i (List.mem_cons_of_mem _ hi) i' (List.mem_cons_of_mem _ hi')), ?_⟩
      · obtain ⟨a1, a2, _⟩ := known a (by simp)
        rw [List.nodup_iff_pairwise_ne, List.pairwise_map]
        refine List.Pairwise.imp_of_mem ?_ (List.nodup_iff_pairwise_ne.mp (List.nodup_range (n := 2 ^ t + 1)))
        intro x y hx hy hne e
        have := List.mem_range.mp hx
        have := List.mem_range.mp hy
        exact hne (pl_inj_j a1 (by omega) (by omega) e)
      · intro x hx y hy e
        subst e
        obtain ⟨j, hj, rfl⟩ := List.mem_map.mp hx
        obtain ⟨i', hi', hx2⟩ := List.mem_flatMap.mp hy
        obtain ⟨j', hj', e'⟩ := List.mem_map.mp hx2
        have := meet' a (by simp) i' (List.mem_cons_of_mem _ hi') j j' (by have := List.mem_range.mp hj; omega) (by have := List.mem_range.mp hj'; omega) e'.symm
        subst this
        exact nd.1 hi'
  · intro x hx
    obtain ⟨i, _, hx2⟩ := List.mem_flatMap.mp hx
    obtain ⟨j, _, rfl⟩ := List.mem_map.mp hx2
    exact pl_lt hpos _ _ _

def sumTo (f : Nat → Nat) : Nat → Nat
  | 0 => 0
  | t + 1 => sumTo f t + f t
theorem sumTo_add (f g : Nat → Nat) (T : Nat) : sumTo (fun t => f t + g t) T = sumTo f T + sumTo g T := by
  induction T with
  | zero => rfl
  | succ T ih => simp only [sumTo, ih]; omega
theorem sumTo_le {f g : Nat → Nat} {T : Nat} (h : ∀ t, t < T → f t ≤ g t) : sumTo f T ≤ sumTo g T := by
  induction T with
  | zero => exact Nat.le_refl _
  | succ T ih =>
    have h1 := h T (by omega)
    have h2 := ih fun t ht => h t (by omega)
    simp only [sumTo]; omega
theorem sumTo_zero (T : Nat) : sumTo (fun _ => 0) T = 0 := by
  induction T with
  | zero => rfl
  | succ T ih => simp [sumTo, ih]
theorem cost_eq (n T : Nat) (h : Hnd) (hT : ∀ s, h.stage = some s → s < T) : cost n h = sumTo (fun t => price n t * (geStage t h).toNat) T := by
  have lem : ∀ T s, sumTo (fun t => price n t * (decide (t ≤ s)).toNat) T = costTo n (min T (s + 1)) := by
    intro T s
    induction T with
    | zero => simp [sumTo, costTo]
    | succ T ih =>
      rw [sumTo, ih]
      by_cases c : T ≤ s
      · rw [show min T (s + 1) = T by omega, show min (T + 1) (s + 1) = T + 1 by omega]
        simp [costTo, c]
      · rw [show min T (s + 1) = s + 1 by omega, show min (T + 1) (s + 1) = s + 1 by omega]
        simp [c]
  unfold cost
  cases e : h.stage with
  | none =>
    dsimp only
    rw [← sumTo_zero T]
    congr 1
    funext t
    simp [geStage, e]
  | some s =>
    have h1 := lem T s
    have h2 := hT s e
    rw [show min T (s + 1) = s + 1 by omega] at h1
    dsimp only
    rw [← h1]
    congr 1
    funext t
    simp [geStage, e]
theorem cost_sum (n T : Nat) (hs : List Hnd) (hT : ∀ h ∈ hs, ∀ s, h.stage = some s → s < T) : (hs.map (cost n)).sum = sumTo (fun t => price n t * hs.countP (geStage t)) T := by
  induction hs with
  | nil => simp [sumTo_zero]
  | cons x xs ih =>
    rw [List.map_cons, List.sum_cons, ih (fun h hh => hT h (List.mem_cons_of_mem _ hh)), cost_eq n T x (hT x (by simp)), ← sumTo_add]
    congr 1
    funext t
    rw [List.countP_cons, Nat.mul_add, Nat.add_comm]
    congr 1
    cases geStage t x <;> simp

/-- the bound, stage by stage -/
def bterm (n t : Nat) : Nat := if 2 ^ t < n then 4 * 2 ^ t * (n / (2 ^ (t - 1) + 1)) else 0
def bnd (n : Nat) : Nat := 7 * n + (bterm n 1 + bterm n 2 + bterm n 3 + bterm n 4 + bterm n 5 + bterm n 6)

theorem Good.stage_lt (G : Good nums R) (h64 : nums.length ≤ 64) : ∀ h ∈ R.hands, ∀ s, h.stage = some s → s < 7 := by
  intro h hh s hs
  obtain ⟨i, hi, e⟩ := List.getElem_of_mem hh
  have hp : R.hands[i]? = some h := by rw [List.getElem?_eq_getElem hi, e]
  cases s with
  | zero => omega
  | succ s =>
    have := (G.stage hp hs).1
    apply Nat.lt_of_not_le
    intro q
    have : 2 ^ 6 ≤ 2 ^ s := Nat.pow_le_pow_right (by omega) (by omega)
    omega

theorem Good.bound (G : Good nums R) (h64 : nums.length ≤ 64) : R.many ≤ bnd nums.length := by
  have hcs := cost_sum nums.length 7 R.hands (G.stage_lt h64)
  have P := fun t => pack G t
  have hpos := G.pos
  have h0 : R.hands.countP (geStage 0) ≤ nums.length := by rw [← G.len]; exact List.countP_le_length
  have hpot : R.many ≤ (R.hands.map (cost nums.length)).sum + nums.length := by
    obtain ⟨ms, g, I, _⟩ := G
    have := I.pot
    split at this <;> omega
  -- each stage
  have term : ∀ t, price nums.length (t + 1) * R.hands.countP (geStage (t + 1)) ≤ bterm nums.length (t + 1) + (if 2 ^ t < nums.length ∧ nums.length ≤ 2 ^ (t + 1) then 2 * nums.length else 0) := by
    intro t
    have hp := P t
    have hdiv : R.hands.countP (geStage (t + 1)) ≤ nums.length / (2 ^ t + 1) := (Nat.le_div_iff_mul_le (Nat.succ_pos _)).mpr hp
    have hpw : 2 ^ (t + 1) = 2 * 2 ^ t := by rw [Nat.pow_succ]; omega
    unfold price bterm
    by_cases c : 2 ^ (t + 1) < nums.length
    · rw [if_pos c, if_pos c, Nat.add_sub_cancel]
      exact Nat.le_trans (Nat.mul_le_mul_left _ hdiv) (Nat.le_add_right _ _)
    · rw [if_neg c, if_neg c]
      by_cases c2 : 2 ^ t < nums.length
      · rw [if_pos ⟨c2, by omega⟩]
        have : R.hands.countP (geStage (t + 1)) ≤ 1 := by
          have : nums.length / (2 ^ t + 1) < 2 := Nat.div_lt_of_lt_mul (by omega)
          omega
        calc 2 * nums.length * R.hands.countP (geStage (t + 1)) ≤ 2 * nums.length * 1 := Nat.mul_le_mul_left _ this
          _ = 0 + 2 * nums.length := by omega
      · have : R.hands.countP (geStage (t + 1)) = 0 := by
          have h1 : nums.length / (2 ^ t + 1) = 0 := Nat.div_eq_of_lt (by omega)
          omega
        rw [this]; simp
  have t0 : price nums.length 0 * R.hands.countP (geStage 0) + (if nums.length = 1 then 4 else 0) ≤ 4 * nums.length + (if nums.length = 1 then 2 else 0) := by
    unfold price
    by_cases c : nums.length = 1
    · rw [c] at h0 ⊢
      simp only [Nat.pow_zero, Nat.lt_irrefl, if_false, if_true, Nat.mul_one]
      omega
    · rw [if_neg c, if_neg c, if_pos (by rw [Nat.pow_zero]; omega)]
      rw [Nat.pow_zero]
      have := Nat.mul_le_mul_left 4 h0
      omega
  have e1 := term 0; have e2 := term 1; have e3 := term 2; have e4 := term 3; have e5 := term 4; have e6 := term 5
  rw [hcs] at hpot
  simp only [sumTo] at hpot
  simp only [Nat.zero_add, Nat.reduceAdd] at e1 e2 e3 e4 e5 e6
  unfold bnd
  have hone : (if 2 ^ 0 < nums.length ∧ nums.length ≤ 2 ^ 1 then 2 * nums.length else 0) + (if 2 ^ 1 < nums.length ∧ nums.length ≤ 2 ^ 2 then 2 * nums.length else 0) + (if 2 ^ 2 < nums.length ∧ nums.length ≤ 2 ^ 3 then 2 * nums.length else 0) + (if 2 ^ 3 < nums.length ∧ nums.length ≤ 2 ^ 4 then 2 * nums.length else 0) + (if 2 ^ 4 < nums.length ∧ nums.length ≤ 2 ^ 5 then 2 * nums.length else 0) + (if 2 ^ 5 < nums.length ∧ nums.length ≤ 2 ^ 6 then 2 * nums.length else 0) ≤ 2 * nums.length := by
    simp only [Nat.reducePow]
    split <;> split <;> split <;> split <;> split <;> split <;> omega
  split at t0 <;> omega
end Mine

namespace Mine
def bsum (n : Nat) : Nat → Nat
  | 0 => 0
  | i + 1 => bsum n i + bterm n (i + 1)
theorem bsum_six (n : Nat) : 7 * n + bsum n 6 = bnd n := by
  show 7 * n + ((((((0 + bterm n 1) + bterm n 2) + bterm n 3) + bterm n 4) + bterm n 5) + bterm n 6) = _
  unfold bnd; omega
theorem bsum_stop {n i : Nat} (h : n ≤ 2 ^ (i + 1)) : ∀ j, i ≤ j → bsum n j = bsum n i := by
  intro j
  induction j with
  | zero => intro q; have : i = 0 := by omega
            subst this; rfl
  | succ j ih =>
    intro q
    rcases Nat.eq_or_lt_of_le q with e | e
    · rw [e]
    · have h1 : 2 ^ (i + 1) ≤ 2 ^ (j + 1) := Nat.pow_le_pow_right (by decide) (by omega)
      show bsum n j + bterm n (j + 1) = _
      rw [ih (by omega)]
      unfold bterm
      rw [if_neg (by omega)]; omega
theorem bterm_int {n i : Nat} (h : 2 ^ (i + 1) < n) : 4 * ((2 ^ (i + 1) : Nat) : Int) * (n : Int).fdiv (((2 ^ (i + 1) : Nat) : Int).fdiv 2 + 1) = (bterm n (i + 1) : Int) := by
  have e1 : ((2 ^ (i + 1) : Nat) : Int).fdiv 2 = ((2 ^ i : Nat) : Int) := by
    rw [Int.fdiv_eq_ediv_of_nonneg _ (by decide), Nat.pow_succ]; omega
  have e2 : (n : Int).fdiv (((2 ^ i : Nat) : Int) + 1) = (n : Int) / (((2 ^ i : Nat) : Int) + 1) := Int.fdiv_eq_ediv_of_nonneg _ (Int.natCast_nonneg (2 ^ i + 1))
  rw [e1, e2]
  unfold bterm
  rw [if_pos h, Nat.add_sub_cancel]
  rw [show ((2 ^ i : Nat) : Int) + 1 = ((2 ^ i + 1 : Nat) : Int) from rfl, ← Int.natCast_ediv]
  rw [Int.natCast_mul, Int.natCast_mul]; rfl
/-- a reach's facts -/
theorem reach_facts {n i : Nat} (hi : i ≤ 6) (hn : n ≤ 64) : 2 ≤ 2 ^ (i + 1) ∧ 2 ^ (i + 1) ≤ 128 ∧ 0 ≤ (n : Int).fdiv (((2 ^ (i + 1) : Nat) : Int).fdiv 2 + 1) ∧ (n : Int).fdiv (((2 ^ (i + 1) : Nat) : Int).fdiv 2 + 1) ≤ 64 ∧ 1 ≤ ((2 ^ (i + 1) : Nat) : Int).fdiv 2 + 1 ∧ ((2 ^ (i + 1) : Nat) : Int).fdiv 2 + 1 ≤ 65 := by
  have h1 : 2 ^ (i + 1) ≤ 2 ^ 7 := Nat.pow_le_pow_right (by decide) (by omega)
  have h2 : 2 ^ 1 ≤ 2 ^ (i + 1) := Nat.pow_le_pow_right (by decide) (by omega)
  have e1 : ((2 ^ (i + 1) : Nat) : Int).fdiv 2 = ((2 ^ i : Nat) : Int) := by
    rw [Int.fdiv_eq_ediv_of_nonneg _ (by decide), Nat.pow_succ]; omega
  have h3 : 0 < 2 ^ i := Nat.pow_pos (by decide)
  have h4 : 2 ^ i ≤ 2 ^ 6 := Nat.pow_le_pow_right (by decide) hi
  have e2 : (n : Int).fdiv (((2 ^ i : Nat) : Int) + 1) = (n : Int) / (((2 ^ i : Nat) : Int) + 1) := Int.fdiv_eq_ediv_of_nonneg _ (Int.natCast_nonneg (2 ^ i + 1))
  rw [e1, e2]
  refine ⟨h2, h1, Int.ediv_nonneg (by omega) (by omega), ?_, by omega, by omega⟩
  exact Int.le_trans (Int.ediv_le_self _ (by omega)) (by omega)
theorem reach_lt {n i : Nat} (h : 2 ^ (i + 1) < n) (hn : n ≤ 64) : i ≤ 4 := by
  rcases Nat.lt_or_ge 4 i with q | q
  · have : 2 ^ 6 ≤ 2 ^ (i + 1) := Nat.pow_le_pow_right (by decide) (by omega)
    omega
  · exact q
theorem bsum_next {n i : Nat} {x r : Int} (h : 2 ^ (i + 1) < n) (hx : x = ((7 * n + bsum n i : Nat) : Int)) (hr : r = ((2 ^ (i + 1) : Nat) : Int)) : x + 4 * r * (n : Int).fdiv (r.fdiv 2 + 1) = ((7 * n + bsum n (i + 1) : Nat) : Int) := by
  subst hr
  rw [bterm_int h, hx]
  show _ = ((7 * n + (bsum n i + bterm n (i + 1)) : Nat) : Int)
  omega
theorem bsum_skip {n i : Nat} {x : Int} (h : ¬ 2 ^ (i + 1) < n) (hx : x = ((7 * n + bsum n i : Nat) : Int)) : x = ((7 * n + bsum n (i + 1) : Nat) : Int) := by
  rw [hx]
  rw [bsum_stop (i := i) (by omega) (i + 1) (by omega)]
theorem bsum_done {n i : Nat} {x : Int} (h : ¬ 2 ^ (i + 1) < n) (hi : i ≤ 6) (hx : x = ((7 * n + bsum n i : Nat) : Int)) : x = (bnd n : Int) := by
  rw [hx, ← bsum_six, bsum_stop (i := i) (by omega) 6 hi]
theorem reach_next {i : Nat} {r : Int} (hr : r = ((2 ^ (i + 1) : Nat) : Int)) : 2 * r = ((2 ^ (i + 1 + 1) : Nat) : Int) := by
  rw [hr, Nat.pow_succ 2 (i + 1)]
  generalize 2 ^ (i + 1) = p
  omega
end Mine
namespace Mine
theorem pl_right {n p : Nat} (x : Int) (j : Nat) (hx : x = (j : Int)) (hn : 0 < n) : ((p : Int) + x).fmod (n : Int) = ((pl n p true j : Nat) : Int) := by
  subst hx
  unfold pl
  rw [emod_toNat_cast hn, Int.fmod_eq_emod_of_nonneg _ (by omega)]
  unfold wayOf
  simp
theorem pl_left {n p : Nat} (x : Int) (j : Nat) (hx : x = (j : Int)) (hn : 0 < n) : ((p : Int) + (n : Int) - x).fmod (n : Int) = ((pl n p false j : Nat) : Int) := by
  subst hx
  unfold pl
  rw [emod_toNat_cast hn, Int.fmod_eq_emod_of_nonneg _ (by omega)]
  unfold wayOf
  rw [show (p : Int) + (n : Int) - (j : Int) = ((p : Int) - (j : Int)) + (n : Int) by omega, Int.add_emod_right]
  congr 1
  simp
  omega
/-- a hand's stage as the law tells it -/
def stCode (h : Hnd) : Int := match h.stage with | none => -1 | some s => (s : Int)
theorem stCode_le {h h' : Hnd} (l : h.Le h') : stCode h ≤ stCode h' := by
  unfold stCode
  cases hs : h.stage with
  | none => cases hs' : h'.stage with
    | none => exact Int.le_refl _
    | some s' => show (-1 : Int) ≤ (s' : Int); omega
  | some s =>
    obtain ⟨s', e, q⟩ := l.stage s hs
    rw [e]
    show (s : Int) ≤ (s' : Int)
    omega
end Mine
namespace Mine
theorem Good.awake {nums : List Int} {R : Rng} (G : Good nums R) (h0 : R.many ≠ 0) : ∃ (p : Nat) (h : Hnd), R.hands[p]? = some h ∧ h.stage ≠ none := by
  apply Classical.byContradiction
  intro no
  have all : ∀ h ∈ R.hands, h.stage = none ∧ h.won = false := by
    intro h hh
    obtain ⟨i, hi, e⟩ := List.getElem_of_mem hh
    have hp : R.hands[i]? = some h := by rw [List.getElem?_eq_getElem hi, e]
    cases hs : h.stage with
    | some s => exact absurd ⟨i, h, hp, by rw [hs]; exact fun q => nomatch q⟩ no
    | none =>
      obtain ⟨ms, g, I, _⟩ := G
      obtain ⟨e2, _⟩ := (I.hand i h hp).asleep hs
      exact ⟨rfl, by rw [e2]⟩
  obtain ⟨ms, g, I, _⟩ := G
  have hpot := I.pot
  have h1 : (R.hands.map (cost nums.length)).sum = 0 := by
    have : ∀ l : List Hnd, (∀ h ∈ l, h.stage = none ∧ h.won = false) → (l.map (cost nums.length)).sum = 0 := by
      intro l
      induction l with
      | nil => intro _; rfl
      | cons a l ih =>
        intro q
        rw [List.map_cons, List.sum_cons, ih fun h hh => q h (.tail _ hh)]
        have : cost nums.length a = 0 := by unfold cost; rw [(q a (.head _)).1]
        omega
    exact this _ all
  have h2 : R.hands.any (·.won) = false := by
    rw [List.any_eq_false]
    intro h hh
    rw [(all h hh).2]; exact Bool.false_ne_true
  rw [h1, h2] at hpot
  simp at hpot
  omega
theorem wake_awake_at {R : Rng} {p : Nat} {h : Hnd} (hh : R.hands[p]? = some h) : ∃ h', (R.wake p).hands[p]? = some h' ∧ h'.stage ≠ none := by
  unfold Rng.wake
  rw [hh]
  have hlt : p < R.hands.length := by
    rcases Nat.lt_or_ge p R.hands.length with q | q
    · exact q
    · rw [List.getElem?_eq_none q] at hh; cases hh
  refine ⟨h.wake.1, ?_, ?_⟩
  · show (R.hands.set p h.wake.1)[p]? = _
    rw [List.getElem?_set_self hlt]
  · unfold Hnd.wake
    cases hs : h.stage with
    | none => exact fun q => nomatch q
    | some s => show h.stage ≠ none; rw [hs]; exact fun q => nomatch q
theorem Rng.Le.awake {R R' : Rng} (l : R.Le R') {p : Nat} {h : Hnd} (hh : R.hands[p]? = some h) (hs : h.stage ≠ none) : ∃ h', R'.hands[p]? = some h' ∧ h'.stage ≠ none := by
  obtain ⟨h', e, q⟩ := l.2 p h hh
  refine ⟨h', e, ?_⟩
  cases hs' : h.stage with
  | none => exact absurd hs' hs
  | some s =>
    obtain ⟨s', e', _⟩ := q.stage s hs'
    rw [e']; exact fun q => nomatch q
end Mine

open PySem PySem.W PySem.Calls PyProof.Rows
namespace Mine

/-! ## the known part of the heap -/
abbrev Store := Addr → Option Obj
abbrev Loc := Str → Option Value

def St (h₀ : Heap) (L : Addr) (h : Heap) (σ : Store) : Prop := ∀ a o, σ a = some o → h.get? a = some o ∧ a ≠ L ∧ h₀.get? a = none
def upd (σ : Store) (a : Addr) (o : Obj) : Store := fun b => if b = a then some o else σ b
theorem upd_same {σ : Store} {a : Addr} {o : Obj} : upd σ a o a = some o := if_pos rfl
theorem upd_ne {σ : Store} {a b : Addr} {o : Obj} (h : b ≠ a) : upd σ a o b = σ b := if_neg h
/-- one store holds all that another one holds -/
def Sub (σ τ : Store) : Prop := ∀ a o, σ a = some o → τ a = some o
theorem Sub.refl (σ : Store) : Sub σ σ := fun _ _ e => e
theorem Sub.trans {σ τ υ : Store} (h : Sub σ τ) (k : Sub τ υ) : Sub σ υ := fun a o e => k a o (h a o e)
theorem sub_upd {σ : Store} {a : Addr} {o : Obj} (h : σ a = none) : Sub σ (upd σ a o) := fun b x e => by
  by_cases q : b = a
  · subst q; rw [h] at e; cases e
  · rw [upd_ne q]; exact e
theorem St.sub {h₀ h : Heap} {L : Addr} {σ τ : Store} (S : St h₀ L h τ) (k : Sub σ τ) : St h₀ L h σ := fun a o e => S a o (k a o e)

def lst (σ : Store) (n : Nat) : List (Addr × Obj) := (List.range n).filterMap fun a => (σ a).map fun o => (a, o)
theorem mem_lst {σ : Store} {n : Nat} {p : Addr × Obj} : p ∈ lst σ n ↔ p.1 < n ∧ σ p.1 = some p.2 := by
  unfold lst
  rw [List.mem_filterMap]
  constructor
  · rintro ⟨a, ha, e⟩
    rw [Option.map_eq_some_iff] at e
    obtain ⟨o, ho, rfl⟩ := e
    exact ⟨List.mem_range.mp ha, ho⟩
  · rintro ⟨h1, h2⟩
    exact ⟨p.1, List.mem_range.mpr h1, by rw [h2]; rfl⟩
theorem St.news {h₀ h : Heap} {L : Addr} {σ : Store} (S : St h₀ L h σ) (n : Nat) : News h₀ L h (lst σ n) := fun p hp => S p.1 p.2 (mem_lst.mp hp).2
theorem St.of_news {h₀ h : Heap} {L : Addr} {σ : Store} {news : List (Addr × Obj)} (N : News h₀ L h news) (k : ∀ a o, σ a = some o → (a, o) ∈ news) : St h₀ L h σ := fun a o e => N (a, o) (k a o e)
theorem St.lt {h₀ h : Heap} {L : Addr} {σ : Store} (S : St h₀ L h σ) {a : Addr} {o : Obj} (e : σ a = some o) : a < h.objs.size := Heap.lt_size (S a o e).1
theorem St.mem {h₀ h : Heap} {L : Addr} {σ : Store} (S : St h₀ L h σ) {a : Addr} {o : Obj} (e : σ a = some o) : (a, o) ∈ lst σ h.objs.size := mem_lst.mpr ⟨S.lt e, e⟩
theorem St.fresh {h₀ h : Heap} {L : Addr} {σ : Store} (S : St h₀ L h σ) : σ h.objs.size = none := by
  cases e : σ h.objs.size with
  | none => rfl
  | some o => exact absurd (S.lt e) (Nat.lt_irrefl _)
/-- one object more -/
theorem St.cons {h₀ h h' : Heap} {L : Addr} {σ : Store} {a : Addr} {o : Obj} {n : Nat} (S : St h₀ L h σ) (hn : n = h.objs.size) (N : News h₀ L h' ((a, o) :: lst σ n)) : St h₀ L h' (upd σ a o) := by
  subst hn
  refine St.of_news N fun b x e => ?_
  by_cases q : b = a
  · subst q; rw [upd_same] at e; cases e; exact .head _
  · rw [upd_ne q] at e; exact .tail _ (S.mem e)
theorem lst_split {σ : Store} {d : Nat} {o : Obj} (hd : σ d = some o) : ∀ n : Nat, d < n → ∃ pre post, lst σ n = pre ++ (d, o) :: post ∧ (∀ p ∈ pre, p.1 ≠ d) ∧ ∀ p ∈ post, p.1 ≠ d
  | 0, h => by omega
  | n + 1, h => by
    have e : lst σ (n + 1) = lst σ n ++ ((σ n).map fun o => (n, o)).toList := by
      unfold lst
      rw [List.range_succ, List.filterMap_append]
      cases h : σ n <;> simp [h]
    by_cases q : d = n
    · subst q
      refine ⟨lst σ d, [], by rw [e, hd]; rfl, fun p hp => Nat.ne_of_lt (mem_lst.mp hp).1, fun _ hp => nomatch hp⟩
    · obtain ⟨pre, post, h1, h2, h3⟩ := lst_split hd n (by omega)
      refine ⟨pre, post ++ ((σ n).map fun o => (n, o)).toList, by rw [e, h1]; simp, h2, fun p hp => ?_⟩
      rcases List.mem_append.mp hp with k | k
      · exact h3 p k
      · cases z : σ n with
        | none => rw [z] at k; cases k
        | some x => rw [z] at k; cases k with
          | head => exact fun e => q e.symm
          | tail _ k => cases k
theorem upd_of {d : Addr} {o o' : Obj} : ∀ {pre post : List (Addr × Obj)}, (∀ p ∈ pre, p.1 ≠ d) → (∀ p ∈ post, p.1 ≠ d) → Upd d o o' (pre ++ (d, o) :: post) (pre ++ (d, o') :: post)
  | [], _, _, h2 => .head h2
  | _ :: _, _, h1, h2 => .tail (h1 _ (.head _)) (upd_of (fun p hp => h1 p (.tail _ hp)) h2)
/-- an object of the ledger turned: the list, and what is known behind it -/
theorem St.turn {h₀ h : Heap} {L : Addr} {σ : Store} {d : Addr} {o o' : Obj} (S : St h₀ L h σ) (hd : σ d = some o) :
    ∃ l l', l = lst σ h.objs.size ∧ Upd d o o' l l' ∧ ∀ h', News h₀ L h' l' → St h₀ L h' (upd σ d o') := by
  obtain ⟨pre, post, e, h1, h2⟩ := lst_split hd h.objs.size (S.lt hd)
  refine ⟨_, pre ++ (d, o') :: post, rfl, e ▸ upd_of h1 h2, fun h' N => St.of_news N fun b x ex => ?_⟩
  by_cases q : b = d
  · subst q; rw [upd_same] at ex; cases ex; simp
  · rw [upd_ne q] at ex
    have := S.mem ex
    rw [e] at this
    rcases List.mem_append.mp this with k | k
    · exact List.mem_append.mpr (.inl k)
    · cases k with
      | head => exact absurd rfl q
      | tail _ k => exact List.mem_append.mpr (.inr (.tail _ k))

/-! ## a step's word -/
/-- what stands as the top left it -/
structure Pg where
  prog : Program
  w : World
  K : Frag
  p : Program
  loose : List Str
  mean : ExcName → Option Value
  mg : Str → Option Value
  mb : Str → Option Value
  bl : Addr
  bv : List Value
  h : Heap
structure Cx where
  g : Pg
  A : Around
  env : Env
  h₀ : Heap

/-- the addresses of a frame: its table, its cells -/
def FA (c : Cx) (a : Addr) : Prop := a = c.env.locals ∨ ∃ x, c.env.cells.lookup x = some a
def loc (c : Cx) (m : Loc) : Loc := fun x => if (c.env.cells.lookup x).isSome = true then none else m x
structure Frm (c : Cx) (h : Heap) (m : Loc) : Prop where
  F : Fr c.h₀ c.env.locals h (loc c m)
  cell : ∀ x a, c.env.cells.lookup x = some a → h.IsCell a (m x)
  off : ∀ x a, c.env.cells.lookup x = some a → a ≠ c.env.locals ∧ c.h₀.get? a = none
  inj : ∀ x y a, c.env.cells.lookup x = some a → c.env.cells.lookup y = some a → x = y
/-- the known part, off the frame -/
def Sto (c : Cx) (h : Heap) (σ : Store) : Prop := ∀ a o, σ a = some o → h.get? a = some o ∧ ¬ FA c a ∧ c.h₀.get? a = none
theorem Sto.lt {c : Cx} {h : Heap} {σ : Store} (S : Sto c h σ) {a : Addr} {o : Obj} (e : σ a = some o) : a < h.objs.size := Heap.lt_size (S a o e).1
theorem Sto.fresh {c : Cx} {h : Heap} {σ : Store} (S : Sto c h σ) : σ h.objs.size = none := by
  cases e : σ h.objs.size with
  | none => rfl
  | some o => exact absurd (S.lt e) (Nat.lt_irrefl _)
theorem Sto.sub {c : Cx} {h : Heap} {σ τ : Store} (S : Sto c h τ) (k : Sub σ τ) : Sto c h σ := fun a o e => S a o (k a o e)
theorem Frm.keep {c : Cx} {h : Heap} {m : Loc} (F : Frm c h m) : ∀ b o, c.h₀.get? b = some o → h.get? b = some o := F.F.keep
theorem Frm.has {c : Cx} {h : Heap} {m : Loc} (F : Frm c h m) {a : Addr} (k : FA c a) : ∃ o, h.get? a = some o := by
  rcases k with rfl | ⟨x, hx⟩
  · obtain ⟨oL, _, _, hL, _⟩ := F.F.ns; exact ⟨oL, hL⟩
  · obtain ⟨o, ho, _⟩ := F.cell x a hx; exact ⟨o, ho⟩
theorem Frm.notNew {c : Cx} {h : Heap} {m : Loc} (F : Frm c h m) {a : Addr} (n : h.get? a = none) : ¬ FA c a := fun k => by
  obtain ⟨o, ho⟩ := F.has k; rw [ho] at n; cases n
/-- another heap that keeps the frame -/
theorem Frm.on {c : Cx} {h h' : Heap} {m : Loc} (F : Frm c h m) (F' : Fr c.h₀ c.env.locals h' (loc c m)) (k : ∀ x a, c.env.cells.lookup x = some a → ∀ o, h.get? a = some o → h'.get? a = some o) : Frm c h' m :=
  ⟨F', fun x a hx => let ⟨o, ho, hd⟩ := F.cell x a hx; ⟨o, k x a hx o ho, hd⟩, F.off, F.inj⟩
theorem Frm.keeps {c : Cx} {h h' : Heap} {m : Loc} (F : Frm c h m) (k : ∀ b o, h.get? b = some o → h'.get? b = some o) : Frm c h' m := F.on (F.F.keeps k) fun _ _ _ o e => k _ o e

/-- what a step leaves alone: all that is not known, and no elder object comes to be known -/
structure Fra (c : Cx) (σ : Store) (h h' : Heap) (σ' : Store) : Prop where
  kept : ∀ a o, h.get? a = some o → σ a = none → ¬ FA c a → h'.get? a = some o
  grow : ∀ a o, σ' a = some o → σ a ≠ none ∨ h.get? a = none
theorem Fra.refl {c : Cx} {σ : Store} {h : Heap} : Fra c σ h h σ := ⟨fun _ _ e _ _ => e, fun a o e => .inl (by rw [e]; exact fun q => nomatch q)⟩
theorem Fra.trans {c : Cx} {σ σ₁ σ₂ : Store} {h h₁ h₂ : Heap} (x : Fra c σ h h₁ σ₁) (y : Fra c σ₁ h₁ h₂ σ₂) (S : Sto c h₂ σ₂) : Fra c σ h h₂ σ₂ := by
  refine ⟨fun a o e n l => ?_, fun a o e => ?_⟩
  · refine y.kept a o (x.kept a o e n l) ?_ l
    cases q : σ₁ a with
    | none => rfl
    | some o' =>
      rcases x.grow a o' q with k | k
      · exact absurd n k
      · rw [e] at k; cases k
  · cases n : σ a with
    | some _ => exact .inl fun q => nomatch q
    | none =>
      right
      cases k : h.get? a with
      | none => rfl
      | some o' =>
        exfalso
        have k1 := x.kept a o' k n (S a o e).2.1
        rcases y.grow a o e with q | q
        · cases z : σ₁ a with
          | none => exact q z
          | some o2 =>
            rcases x.grow a o2 z with r | r
            · exact r n
            · rw [k] at r; cases r
        · rw [k1] at q; cases q

def After (c : Cx) (σ : Store) (s s' : Shared) (P : Loc → Store → Prop) : Prop :=
  ∃ h' tk m' σ', s' = { s with heap := h', toks := tk } ∧ Frm c h' m' ∧ Sto c h' σ' ∧ Fra c σ s.heap h' σ' ∧ P m' σ'

/-- an exception in flight through a frame -/
structure Flies (c : Cx) (σ : Store) (h h' : Heap) (m' : Loc) (σ' : Store) (e C : Addr) : Prop where
  fly : ∃ B a0 outer, c.A.frames = some (c.env :: outer) ∧ Heap.FlyingW B (c.env :: outer) e (.ref C) a0 h' ∧ c.g.h.StaysIn B ∧ (∀ a o, σ' a = some o → B.get? a = some o) ∧
    (∀ a o, h.get? a = some o → σ a = none → ¬ FA c a → a ∉ outer.filterMap (·.frame) → B.get? a = some o) ∧
    (∀ a o, h.get? a = some o → σ a = none → ¬ FA c a → ∃ sl, h'.get? a = some { o with slots := sl })
  ns : h'.Ns c.env.locals (loc c m')
  off : ∀ a o, σ' a = some o → ¬ FA c a
  grow : ∀ a o, σ' a = some o → σ a ≠ none ∨ h.get? a = none
/-- what an exception leaves: X of a ref: it was made here; X of a class's int: it flies -/
def AftX (c : Cx) (σ : Store) (s s' : Shared) (X : Value → Loc → Store → Prop) (v : Value) : Prop :=
  (After c σ s s' (X v) ∧ ∃ e, v = .ref e) ∨ ∃ h' tk m' σ' e C, s' = { s with heap := h', toks := tk } ∧ v = .ref e ∧ Flies c σ s.heap h' m' σ' e C ∧ X (.int (C : Nat) 0) m' σ'

def W (c : Cx) {α : Type} (t : Sem α) (m : Loc) (σ : Store) (Q : α → Loc → Store → Prop) (X : Value → Loc → Store → Prop) : Prop :=
  ∀ s, Frm c s.heap m → Sto c s.heap σ →
    wpAny (model c.g.prog c.g.w) c.A t (fun a s' => After c σ s s' (Q a)) (fun e s' => AftX c σ s s' X e) s

/-- all that is new in a heap -/
def full (c : Cx) (h : Heap) : Store := fun a => if a = c.env.locals ∨ (c.h₀.get? a).isSome = true then none else h.get? a
theorem full_some {c : Cx} {h : Heap} {a : Addr} {o : Obj} : full c h a = some o ↔ a ≠ c.env.locals ∧ c.h₀.get? a = none ∧ h.get? a = some o := by
  unfold full
  by_cases e : a = c.env.locals ∨ (c.h₀.get? a).isSome = true
  · rw [if_pos e]
    constructor
    · intro q; cases q
    · rintro ⟨h1, h2, _⟩
      rcases e with e | e
      · exact absurd e h1
      · rw [h2] at e; cases e
  · rw [if_neg e]
    constructor
    · intro q
      refine ⟨fun k => e (.inl k), ?_, q⟩
      cases k : c.h₀.get? a with
      | none => rfl
      | some _ => exact absurd (.inr (by rw [k]; rfl)) e
    · exact fun q => q.2.2
theorem st_full (c : Cx) (h : Heap) : St c.h₀ c.env.locals h (full c h) := fun a o e => let ⟨h1, h2, h3⟩ := full_some.mp e; ⟨h3, h1, h2⟩
theorem Sto.full {c : Cx} {h : Heap} {σ : Store} (S : Sto c h σ) : Sub σ (full c h) := fun a o e => full_some.mpr ⟨fun q => (S a o e).2.1 (.inl q), (S a o e).2.2, (S a o e).1⟩
abbrev allOf (c : Cx) (h : Heap) : List (Addr × Obj) := lst (full c h) h.objs.size
theorem all_news (c : Cx) (h : Heap) : News c.h₀ c.env.locals h (allOf c h) := (st_full c h).news _
theorem kept_of {c : Cx} {s : Shared} {h' : Heap} {m m' : Loc} (F : Frm c s.heap m) (F' : Fr c.h₀ c.env.locals h' m') {b : Addr} {x : Obj} (e : s.heap.get? b = some x) (l : b ≠ c.env.locals)
    (k : full c s.heap b = some x → h'.get? b = some x) : h'.get? b = some x := by
  cases q : c.h₀.get? b with
  | some y => rw [F.keep b y q] at e; cases e; exact F'.keep b x q
  | none => exact k (full_some.mpr ⟨l, q, e⟩)
theorem no_end (h : Heap) : h.get? h.objs.size = none := by
  cases e : h.get? h.objs.size with
  | none => rfl
  | some o => exact absurd (Heap.lt_size e) (Nat.lt_irrefl _)
/-- one object more -/
theorem grown {c : Cx} {s : Shared} {h' : Heap} {m : Loc} {σ : Store} {a : Addr} {o : Obj} (F : Frm c s.heap m) (S : Sto c s.heap σ) (F' : Fr c.h₀ c.env.locals h' (loc c m)) (ha : s.heap.get? a = none)
    (N' : News c.h₀ c.env.locals h' ((a, o) :: allOf c s.heap)) : Frm c h' m ∧ Sto c h' (upd σ a o) ∧ Fra c σ s.heap h' (upd σ a o) := by
  have Sf := (st_full c s.heap).cons rfl N'
  have old : ∀ b x, s.heap.get? b = some x → b ≠ c.env.locals → h'.get? b = some x := fun b x e l => kept_of F F' e l fun z => by
    by_cases q : b = a
    · subst q; rw [ha] at e; cases e
    · exact (Sf b x (by rw [upd_ne q]; exact z)).1
  refine ⟨F.on F' fun x b hb o e => old b o e (F.off x b hb).1, fun b x e => ?_, fun b x e n l => old b x e fun q => l (.inl q), fun b x e => ?_⟩
  · by_cases q : b = a
    · subst q
      have := Sf b x (by rw [upd_same] at e ⊢; exact e)
      exact ⟨this.1, F.notNew ha, this.2.2⟩
    · have := Sf b x (by rw [upd_ne q] at e ⊢; exact S.full b x e)
      rw [upd_ne q] at e
      exact ⟨this.1, (S b x e).2.1, this.2.2⟩
  · by_cases q : b = a
    · subst q; exact .inr ha
    · rw [upd_ne q] at e; exact .inl (by rw [e]; exact fun q => nomatch q)
/-- an object turned -/
theorem turned {c : Cx} {s : Shared} {m : Loc} {σ : Store} {d : Addr} {o o' : Obj} (F : Frm c s.heap m) (S : Sto c s.heap σ) (hd : σ d = some o) :
    ∃ l', Upd d o o' (allOf c s.heap) l' ∧ ∀ h', Fr c.h₀ c.env.locals h' (loc c m) → News c.h₀ c.env.locals h' l' → Frm c h' m ∧ Sto c h' (upd σ d o') ∧ Fra c σ s.heap h' (upd σ d o') := by
  obtain ⟨l, l', e, U, back⟩ := (st_full c s.heap).turn (o' := o') (S.full d o hd)
  subst e
  refine ⟨l', U, fun h' F' N' => ?_⟩
  have Sf := back h' N'
  have old : ∀ b x, s.heap.get? b = some x → b ≠ c.env.locals → b ≠ d → h'.get? b = some x := fun b x e l q => kept_of F F' e l fun z => (Sf b x (by rw [upd_ne q]; exact z)).1
  refine ⟨F.on F' fun x b hb o e => old b o e (F.off x b hb).1 fun q => (S d _ hd).2.1 (q ▸ .inr ⟨x, hb⟩), fun b x e => ?_, fun b x e n l => old b x e (fun q => l (.inl q)) (fun q => by rw [q, hd] at n; cases n), fun b x e => ?_⟩
  · by_cases q : b = d
    · subst q
      have := Sf b x (by rw [upd_same] at e ⊢; exact e)
      exact ⟨this.1, (S b _ hd).2.1, this.2.2⟩
    · have := Sf b x (by rw [upd_ne q] at e ⊢; exact S.full b x e)
      rw [upd_ne q] at e
      exact ⟨this.1, (S b x e).2.1, this.2.2⟩
  · by_cases q : b = d
    · subst q; exact .inl (by rw [hd]; exact fun q => nomatch q)
    · rw [upd_ne q] at e; exact .inl (by rw [e]; exact fun q => nomatch q)

section
variable {c : Cx} {env : Env} {α β : Type} {m : Loc} {σ : Store} {X : Value → Loc → Store → Prop}

theorem After.here {s : Shared} {P : Loc → Store → Prop} (F : Frm c s.heap m) (S : Sto c s.heap σ) (p : P m σ) : After c σ s s P := ⟨s.heap, s.toks, m, σ, rfl, F, S, .refl, p⟩
theorem After.tok {s : Shared} {P : Loc → Store → Prop} {tk : Nat} (F : Frm c s.heap m) (S : Sto c s.heap σ) (p : P m σ) : After c σ s { s with toks := tk } P := ⟨s.heap, tk, m, σ, rfl, F, S, .refl, p⟩
theorem After.at {s : Shared} {P : Loc → Store → Prop} {h' : Heap} {tk : Nat} {m' : Loc} {σ' : Store} (FSF : Frm c h' m' ∧ Sto c h' σ' ∧ Fra c σ s.heap h' σ') (p : P m' σ') : After c σ s { s with heap := h', toks := tk } P := ⟨h', tk, m', σ', rfl, FSF.1, FSF.2.1, FSF.2.2, p⟩
/-- go on from a state that a step left -/
theorem After.on {s s₁ s₂ : Shared} {σ₁ : Store} {P : Loc → Store → Prop} {h₁ : Heap} {tk : Nat} (e : s₁ = { s with heap := h₁, toks := tk }) (x : Fra c σ s.heap h₁ σ₁) (b : After c σ₁ s₁ s₂ P) : After c σ s s₂ P := by
  subst e
  obtain ⟨h', tk', m', σ', rfl, F, S, y, p⟩ := b
  exact ⟨h', tk', m', σ', rfl, F, S, x.trans y S, p⟩
theorem Flies.on {s s₁ : Shared} {σ₁ σ' : Store} {h₁ h' : Heap} {m' : Loc} {e C : Addr} {tk : Nat} (q : s₁ = { s with heap := h₁, toks := tk }) (x : Fra c σ s.heap h₁ σ₁) (b : Flies c σ₁ s₁.heap h' m' σ' e C) : Flies c σ s.heap h' m' σ' e C := by
  subst q
  obtain ⟨⟨B, a0, outer, f1, f2, f3, f4, f5, f6⟩, ns, off, grow⟩ := b
  have no : ∀ a o, s.heap.get? a = some o → σ a = none → σ₁ a = none := fun a o ha hn => by
    cases q : σ₁ a with
    | none => rfl
    | some o' =>
      rcases x.grow a o' q with k | k
      · exact absurd hn k
      · rw [ha] at k; cases k
  refine ⟨⟨B, a0, outer, f1, f2, f3, f4, fun a o ha hn hf ht => f5 a o (x.kept a o ha hn hf) (no a o ha hn) hf ht, fun a o ha hn hf => f6 a o (x.kept a o ha hn hf) (no a o ha hn) hf⟩, ns, off, fun a o ha => ?_⟩
  cases n : σ a with
  | some _ => exact .inl fun q => nomatch q
  | none =>
    right
    cases k : s.heap.get? a with
    | none => rfl
    | some o' =>
      exfalso
      rcases grow a o ha with q | q
      · exact q (no a o' k n)
      · rw [x.kept a o' k n (off a o ha)] at q; cases q
theorem AftX.on {s s₁ s₂ : Shared} {σ₁ : Store} {v : Value} {h₁ : Heap} {tk : Nat} (e : s₁ = { s with heap := h₁, toks := tk }) (x : Fra c σ s.heap h₁ σ₁) (b : AftX c σ₁ s₁ s₂ X v) : AftX c σ s s₂ X v := by
  rcases b with ⟨b, r⟩ | ⟨h', tk', m', σ', e', C, rfl, rfl, fl, q⟩
  · exact .inl ⟨b.on e x, r⟩
  · refine .inr ⟨h', tk', m', σ', e', C, ?_, rfl, fl.on e x, q⟩
    subst e; rfl
theorem After.next {s s₁ : Shared} {P : Loc → Store → Prop} {t : Sem α} {Q : α → Loc → Store → Prop} (a : After c σ s s₁ P) (k : ∀ m σ, P m σ → W c t m σ Q X) :
    wpAny (model c.g.prog c.g.w) c.A t (fun a s' => After c σ s s' (Q a)) (fun e s' => AftX c σ s s' X e) s₁ := by
  obtain ⟨h', tk, m', σ', rfl, F, S, x, p⟩ := a
  exact wpAny_mono (k m' σ' p { s with heap := h', toks := tk } F S) (fun _ _ b => b.on rfl x) fun _ _ b => b.on rfl x
theorem After.mono {s s' : Shared} {P P' : Loc → Store → Prop} (a : After c σ s s' P) (k : ∀ m σ, P m σ → P' m σ) : After c σ s s' P' := by
  obtain ⟨h', tk, m', σ', rfl, F, S, x, p⟩ := a
  exact ⟨h', tk, m', σ', rfl, F, S, x, k _ _ p⟩

theorem AftX.mono {s s' : Shared} {v : Value} {X' : Value → Loc → Store → Prop} (a : AftX c σ s s' X v) (k : ∀ v m σ, X v m σ → X' v m σ) : AftX c σ s s' X' v := by
  rcases a with ⟨b, r⟩ | ⟨h', tk', m', σ', e', C, e1, e2, fl, q⟩
  · exact .inl ⟨b.mono (k v), r⟩
  · exact .inr ⟨h', tk', m', σ', e', C, e1, e2, fl, k _ _ _ q⟩
theorem AftX.no {s s' : Shared} {v : Value} (a : AftX c σ s s' (fun _ _ _ => False) v) : False := by
  rcases a with ⟨⟨_, _, _, _, _, _, _, _, q⟩, _⟩ | ⟨_, _, _, _, _, _, _, _, _, q⟩
  · exact q
  · exact q
theorem W.pure {a : α} {Q : α → Loc → Store → Prop} (h : Q a m σ) : W c (pure a) m σ Q X := fun _ F S => wpAny_pure (After.here F S h)
theorem W.bind {t : Sem α} {f : α → Sem β} {Q : β → Loc → Store → Prop} (h : W c t m σ (fun a m' σ' => W c (f a) m' σ' Q X) X) : W c (t >>= f) m σ Q X :=
  fun s F S => wpAny_bind (wpAny_mono (h s F S) (fun _ _ A => A.next fun _ _ w => w) fun _ _ x => x)
theorem W.mono {t : Sem α} {Q Q' : α → Loc → Store → Prop} {X' : Value → Loc → Store → Prop} (h : W c t m σ Q X) (hQ : ∀ a m σ, Q a m σ → Q' a m σ) (hX : ∀ e m σ, X e m σ → X' e m σ) : W c t m σ Q' X' :=
  fun s F S => wpAny_mono (h s F S) (fun a _ A => A.mono (hQ a)) fun e _ A => A.mono hX
theorem After.sub {s s' : Shared} {τ : Store} {P : Loc → Store → Prop} (k : Sub τ σ) (a : After c τ s s' P) : After c σ s s' P := by
  obtain ⟨h', tk, m', σ', rfl, F, S, x, p⟩ := a
  refine ⟨h', tk, m', σ', rfl, F, S, ⟨fun b o e n l => x.kept b o e ?_ l, fun b o e => (x.grow b o e).imp (fun q n => ?_) id⟩, p⟩
  · cases q : τ b with
    | none => rfl
    | some o' => rw [k b o' q] at n; cases n
  · cases z : τ b with
    | none => exact q z
    | some o' => rw [k b o' z] at n; cases n
theorem AftX.sub {s s' : Shared} {τ : Store} {v : Value} (k : Sub τ σ) (a : AftX c τ s s' X v) : AftX c σ s s' X v := by
  have kn : ∀ b, σ b = none → τ b = none := fun b n => by
    cases q : τ b with
    | none => rfl
    | some o' => rw [k b o' q] at n; cases n
  rcases a with ⟨b, r⟩ | ⟨h', tk', m', σ', e', C, e1, e2, ⟨⟨B, a0, outer, f1, f2, f3, f4, f5, f6⟩, ns, off, grow⟩, q⟩
  · exact .inl ⟨b.sub k, r⟩
  · refine .inr ⟨h', tk', m', σ', e', C, e1, e2, ⟨⟨B, a0, outer, f1, f2, f3, f4, fun a o ha hn => f5 a o ha (kn a hn), fun a o ha hn => f6 a o ha (kn a hn)⟩, ns, off, fun a o ha => (grow a o ha).imp (fun q n => q (kn a n)) id⟩, q⟩
theorem W.sub {t : Sem α} {Q : α → Loc → Store → Prop} {τ : Store} (k : Sub τ σ) (h : W c t m τ Q X) : W c t m σ Q X := fun s F S => wpAny_mono (h s F (S.sub k)) (fun _ _ a => a.sub k) fun _ _ a => a.sub k
/-- a rule of the library of one tree -/
theorem W.via {t₁ : Sem α} {t : Sem β} {f : α → Sem β} {Q : β → Loc → Store → Prop}
    (r : ∀ {Q' : β → Shared → Prop} {E : Value → Shared → Prop} {s : Shared}, wpAny (model c.g.prog c.g.w) c.A t₁ (fun a s₁ => wpAny (model c.g.prog c.g.w) c.A (f a) Q' E s₁) E s → wpAny (model c.g.prog c.g.w) c.A t Q' E s)
    (h : W c t₁ m σ (fun a m' σ' => W c (f a) m' σ' Q X) X) : W c t m σ Q X :=
  fun s F S => r (wpAny_mono (h s F S) (fun _ _ A => A.next fun _ _ w => w) fun _ _ x => x)
theorem W.via1 {t₁ : Sem α} {t : Sem β} {g : α → β} {Q : β → Loc → Store → Prop}
    (r : ∀ {Q' : β → Shared → Prop} {E : Value → Shared → Prop} {s : Shared}, wpAny (model c.g.prog c.g.w) c.A t₁ (fun a s₁ => Q' (g a) s₁) E s → wpAny (model c.g.prog c.g.w) c.A t Q' E s)
    (h : W c t₁ m σ (fun a m' σ' => Q (g a) m' σ') X) : W c t m σ Q X := fun s F S => r (h s F S)

/-! ### nodes -/
theorem w_execs_nil {Q : Flow → Loc → Store → Prop} (h : Q .next m σ) : W c (execs [] env) m σ Q X := fun _ F S => wpAny_execs_nil (After.here F S h)
theorem w_execs_cons {st : Stmt} {rest : List Stmt} {Q : Flow → Loc → Store → Prop}
    (h : W c (exec st env) m σ (fun f m' σ' => match f with | .next => W c (execs rest env) m' σ' Q X | f => Q f m' σ') X) : W c (execs (st :: rest) env) m σ Q X :=
  fun s F S => wpAny_execs_cons (wpAny_mono (h s F S) (fun f s₁ A => by
    cases f with
    | next => exact A.next fun _ _ w => w
    | brk => exact A
    | cont => exact A
    | ret v => exact A) fun _ _ x => x)
theorem w_if {test : Expr} {body orelse : List Stmt} {pos : Pos} {Q : Flow → Loc → Store → Prop}
    (h : W c (isTrue test env (eval test env)) m σ (fun b m' σ' => match b with | true => W c (execs body env) m' σ' Q X | false => W c (execs orelse env) m' σ' Q X) X) :
    W c (exec (.If test body orelse pos) env) m σ Q X :=
  fun s F S => wpAny_If (wpAny_mono (h s F S) (fun b s₁ A => by
    cases b with
    | true => exact A.next fun _ _ w => w
    | false => exact A.next fun _ _ w => w) fun _ _ x => x)
theorem w_ret {e : Expr} {pos : Pos} {Q : Flow → Loc → Store → Prop} (h : W c (eval e env) m σ (fun v m' σ' => Q (.ret v) m' σ') X) : W c (exec (.Return (some e) pos) env) m σ Q X :=
  fun s F S => wpAny_Return_some (h s F S)
theorem w_ret0 {pos : Pos} {Q : Flow → Loc → Store → Prop} (h : Q (.ret .none) m σ) : W c (exec (.Return none pos) env) m σ Q X := fun _ F S => wpAny_Return_none (After.here F S h)
theorem w_pass {pos : Pos} {Q : Flow → Loc → Store → Prop} (h : Q .next m σ) : W c (exec (.Pass pos) env) m σ Q X := fun _ F S => wpAny_Pass (After.here F S h)
theorem w_assign {x : Str} {pos' pos : Pos} {value : Expr} {Q : Flow → Loc → Store → Prop} (hs : swapsWith value (some (.Name x pos')) pos.line env = Pure.pure false)
    (h : W c (eval value env) m σ (fun v m' σ' => W c (storeName env x v) m' σ' (fun _ => Q .next) X) X) : W c (exec (.Assign [.Name x pos'] value pos) env) m σ Q X :=
  fun s F S => wpAny_Assign_Name (wpAny_mono (h s F S) (fun _ _ A => A.next fun _ _ w => w) fun _ _ x => x) hs
theorem w_assign_attr {o : Expr} {attr : Str} {pos' pos : Pos} {value : Expr} {Q : Flow → Loc → Store → Prop} (hs : swapsWith value (some (.Attribute o attr pos')) pos.line env = Pure.pure false)
    (h : W c (eval value env) m σ (fun v m' σ' => W c (eval o env) m' σ' (fun ov m₂ σ₂ => W c (setAttr ov attr v) m₂ σ₂ (fun _ => Q .next) X) X) X) : W c (exec (.Assign [.Attribute o attr pos'] value pos) env) m σ Q X :=
  fun s F S => plainObj_wpAny_Assign_Attribute (wpAny_mono (h s F S) (fun _ _ A => wpAny_mono (A.next fun _ _ w => w) (fun _ _ A' => A'.next fun _ _ w => w) fun _ _ x => x) fun _ _ x => x) hs
theorem w_expr {e : Expr} {pos : Pos} {Q : Flow → Loc → Store → Prop} (h : W c (eval e env) m σ (fun _ m' σ' => Q .next m' σ') X)
    (hi : interactive env = false) (hs : swapsWith e none pos.line env = Pure.pure false) : W c (exec (.Expr e pos) env) m σ Q X :=
  fun s F S => wpAny_Expr_any (h s F S) hi hs

/-! ### expressions -/
theorem w_int {i : Int} {k : Nat} {pos : Pos} {Q : Value → Loc → Store → Prop} (h : ∀ t, Q (.int i t) m σ) : W c (eval (.Constant (.int i) k pos) env) m σ Q X :=
  fun _ F S => wpAny_Constant_int (After.tok F S (h _))
theorem w_bool {b : Bool} {k : Nat} {pos : Pos} {Q : Value → Loc → Store → Prop} (h : Q (.bool b) m σ) : W c (eval (.Constant (.bool b) k pos) env) m σ Q X :=
  fun _ F S => Constant_bool (After.here F S h)
theorem w_none {k : Nat} {pos : Pos} {Q : Value → Loc → Store → Prop} (h : Q .none m σ) : W c (eval (.Constant .none k pos) env) m σ Q X :=
  fun _ F S => Constant_none (After.here F S h)
theorem w_str {x : Str} {k : Nat} {pos : Pos} {Q : Value → Loc → Store → Prop} (h : ∀ t, Q (.str x t) m σ) : W c (eval (.Constant (.str x) k pos) env) m σ Q X :=
  fun _ F S => show wpAny _ _ (mkText x) _ _ _ from wpAny_mkText (After.tok F S (h _))
theorem loc_of {x : Str} {v : Value} (hc : c.env.cells.lookup x = none) (hv : m x = some v) : loc c m x = some v := by unfold loc; rw [hc]; exact hv
theorem w_local {x : Str} {pos : Pos} {v : Value} {Q : Value → Loc → Store → Prop} (hk : c.env.scope.kind = .function) (hx : c.env.kindOf x = some .local) (hc : c.env.cells.lookup x = none) (hd : (x == ("__debug__" : Str)) = false) (hv : m x = some v) (h : Q v m σ) :
    W c (eval (.Name x pos) c.env) m σ Q X := fun _ F S => wpAny_Name (wpAny_loadName_local hk hx F.F.ns (loc_of hc hv) (After.here F S h)) hd
theorem w_cell {x : Str} {pos : Pos} {v : Value} {a : Addr} {Q : Value → Loc → Store → Prop} (hk : c.env.scope.kind = .function) (hx : c.env.kindOf x = some .cell) (hc : c.env.cells.lookup x = some a) (hd : (x == ("__debug__" : Str)) = false) (hv : m x = some v) (h : Q v m σ) :
    W c (eval (.Name x pos) c.env) m σ Q X := fun _ F S => wpAny_Name (wpAny_loadName_cell hk hx hc (hv ▸ F.cell x a hc) (After.here F S h)) hd
theorem w_binop {l r : Expr} {op : Operator} {pos : Pos} {Q : Value → Loc → Store → Prop}
    (h : W c (eval l env) m σ (fun a m₁ σ₁ => W c (eval r env) m₁ σ₁ (fun b m₂ σ₂ => W c (binaryOp op a b) m₂ σ₂ Q X) X) X) : W c (eval (.BinOp l op r pos) env) m σ Q X :=
  fun s F S => wpAny_BinOp (wpAny_mono (h s F S) (fun _ _ A => wpAny_mono (A.next fun _ _ w => w) (fun _ _ A' => A'.next fun _ _ w => w) fun _ _ x => x) fun _ _ x => x)
theorem w_cmp {l r : Expr} {op : CmpOp} {pos : Pos} {Q : Value → Loc → Store → Prop}
    (h : W c (eval l env) m σ (fun a m₁ σ₁ => W c (eval r env) m₁ σ₁ (fun b m₂ σ₂ => W c (compareOp op a b) m₂ σ₂ Q X) X) X)
    (hm : behindInMarks op r = false := by with_unfolding_all rfl) : W c (eval (.Compare l [op] [r] pos) env) m σ Q X :=
  fun s F S => wpAny_Compare1 (wpAny_mono (h s F S) (fun _ _ A => wpAny_mono (A.next fun _ _ w => w) (fun _ _ A' => A'.next fun _ _ w => w) fun _ _ x => x) fun _ _ x => x) hm
theorem w_unop {x : Expr} {op : UnaryOp} {pos : Pos} {Q : Value → Loc → Store → Prop} (h : W c (eval x env) m σ (fun v m' σ' => W c (unaryOp op v) m' σ' Q X) X) : W c (eval (.UnaryOp op x pos) env) m σ Q X :=
  fun s F S => UnaryOp_ (wpAny_mono (h s F S) (fun _ _ A => A.next fun _ _ w => w) fun _ _ x => x)
theorem w_ifexp {test body orelse : Expr} {pos : Pos} {Q : Value → Loc → Store → Prop}
    (h : W c (isTrue test env (eval test env)) m σ (fun b m' σ' => match b with | true => W c (eval body env) m' σ' Q X | false => W c (eval orelse env) m' σ' Q X) X) :
    W c (eval (.IfExp test body orelse pos) env) m σ Q X :=
  fun s F S => IfExp_ (wpAny_mono (h s F S) (fun b s₁ A => by
    cases b with
    | true => exact A.next fun _ _ w => w
    | false => exact A.next fun _ _ w => w) fun _ _ x => x)
theorem w_one {op : BoolOp} {e : Expr} {pos : Pos} {Q : Value → Loc → Store → Prop} (h : W c (eval e env) m σ Q X) : W c (eval (.BoolOp op [e] pos) env) m σ Q X := h
theorem w_and {e₁ e₂ : Expr} {rest : List Expr} {pos : Pos} {Q : Value → Loc → Store → Prop}
    (h : W c (eval e₁ env) m σ (fun v m₁ σ₁ => W c (truthy v) m₁ σ₁ (fun b m₂ σ₂ => match b with | true => W c (eval (.BoolOp .And (e₂ :: rest) pos) env) m₂ σ₂ Q X | false => Q v m₂ σ₂) X) X) :
    W c (eval (.BoolOp .And (e₁ :: e₂ :: rest) pos) env) m σ Q X :=
  fun s F S => BoolOp_and (wpAny_mono (h s F S) (fun v s₁ A => wpAny_mono (A.next fun _ _ w => w) (fun b s₂ A' => by
    cases b with
    | true => exact A'.next fun _ _ w => w
    | false => exact A') fun _ _ x => x) fun _ _ x => x)
theorem w_or {e₁ e₂ : Expr} {rest : List Expr} {pos : Pos} {Q : Value → Loc → Store → Prop}
    (h : W c (eval e₁ env) m σ (fun v m₁ σ₁ => W c (truthy v) m₁ σ₁ (fun b m₂ σ₂ => match b with | true => Q v m₂ σ₂ | false => W c (eval (.BoolOp .Or (e₂ :: rest) pos) env) m₂ σ₂ Q X) X) X) :
    W c (eval (.BoolOp .Or (e₁ :: e₂ :: rest) pos) env) m σ Q X :=
  fun s F S => BoolOp_or (wpAny_mono (h s F S) (fun v s₁ A => wpAny_mono (A.next fun _ _ w => w) (fun b s₂ A' => by
    cases b with
    | true => exact A'
    | false => exact A'.next fun _ _ w => w) fun _ _ x => x) fun _ _ x => x)
theorem w_attr {value : Expr} {attr : Str} {pos : Pos} {Q : Value → Loc → Store → Prop}
    (h : W c (eval value env) m σ (fun o m' σ' => W c (getAttr o attr true) m' σ' Q X) X)
    (he : eval (.Attribute value attr pos) env = (do
      let o ← eval value env
      standAt pos.atName
      let r ← holding [o] (getAttr o attr true)
      letTemporaryGo value o r
      Pure.pure r) := by with_unfolding_all rfl) : W c (eval (.Attribute value attr pos) env) m σ Q X :=
  fun s F S => Attribute_any_ (wpAny_mono (h s F S) (fun _ _ A => A.next fun _ _ w => w) fun _ _ x => x) he
theorem w_sub {value slice : Expr} {pos : Pos} {Q : Value → Loc → Store → Prop}
    (h : W c (eval value env) m σ (fun o m₁ σ₁ => W c (eval slice env) m₁ σ₁ (fun i m₂ σ₂ => W c (subscriptTail value slice o i) m₂ σ₂ Q X) X) X) : W c (eval (.Subscript value slice pos) env) m σ Q X :=
  fun s F S => Subscript_ (wpAny_mono (h s F S) (fun _ _ A => wpAny_mono (A.next fun _ _ w => w) (fun _ _ A' => A'.next fun _ _ w => w) fun _ _ x => x) fun _ _ x => x)
theorem w_list {elts : List Expr} {pos : Pos} {Q : Value → Loc → Store → Prop} (h : W c (spliced (backTo pos (starEach elts env))) m σ (fun vs m' σ' => W c (newList vs) m' σ' Q X) X) : W c (eval (.List elts pos) env) m σ Q X :=
  fun s F S => List_ (wpAny_mono (h s F S) (fun _ _ A => A.next fun _ _ w => w) fun _ _ x => x)
theorem w_tuple {elts : List Expr} {k : Nat} {pos : Pos} {Q : Value → Loc → Store → Prop} (h : W c (spliced (backTo pos (starEach elts env))) m σ (fun vs m' σ' => W c (newTuple vs) m' σ' Q X) X) : W c (eval (.Tuple elts k pos) env) m σ Q X :=
  fun s F S => Tuple_ (wpAny_mono (h s F S) (fun _ _ A => A.next fun _ _ w => w) fun _ _ x => x)
theorem w_spliced_nil {pos : Pos} {Q : List Value → Loc → Store → Prop} (h : Q [] m σ) : W c (spliced (backTo pos (starEach [] env))) m σ Q X := fun _ F S => spliced_nil (After.here F S h)
theorem w_spliced {e : Expr} {rest : List Expr} {pos : Pos} {Q : List Value → Loc → Store → Prop}
    (h : W c (eval e env) m σ (fun v m' σ' => W c (spliced (backTo pos (starEach rest env))) m' σ' (fun vs => Q (v :: vs)) X) X)
    (he : starEach (e :: rest) env = (false, eval e env) :: starEach rest env := by rfl) : W c (spliced (backTo pos (starEach (e :: rest) env))) m σ Q X := by
  rw [he]
  exact fun s F S => spliced_cons (wpAny_mono (h s F S) (fun _ _ A => A.next fun _ _ w => w) fun _ _ x => x)
theorem w_call {func : Expr} {args : List Expr} {pos : Pos} {Q : Value → Loc → Store → Prop}
    (h : W c (eval func env) m σ (fun f m' σ' => W c (callWith pos f [] (backTo pos (starEach args env)) []) m' σ' Q X) X)
    (he : eval (.Call func args [] pos) env = (do callWith pos (← eval func env) [] (backTo pos (starEach args env)) (backToKw pos (keywordEach [] env))) := by rfl) : W c (eval (.Call func args [] pos) env) m σ Q X :=
  fun s F S => Call_ (wpAny_mono (h s F S) (fun _ _ A => A.next fun _ _ w => w) fun _ _ x => x) he
theorem w_meth {o : Expr} {name : Str} {apos pos : Pos} {args : List Expr} {pl : Sem Bool} {Q : Value → Loc → Store → Prop}
    (h : W c (eval o env) m σ (fun ov m₁ σ₁ => W c (getMethod ov name pl) m₁ σ₁ (fun fx m₂ σ₂ => W c (callWith pos fx.1 fx.2 (backTo pos (starEach args env)) []) m₂ σ₂ Q X) X) X)
    (he : eval (.Call (.Attribute o name apos) args [] pos) env = (do
      let ov ← eval o env
      standAt apos.atName
      let (f, first) ← holding [ov] (getMethod ov name pl)
      callWith pos f first (backTo pos (starEach args env)) []) := by rfl) : W c (eval (.Call (.Attribute o name apos) args [] pos) env) m σ Q X :=
  fun s F S => MethodCall_ (wpAny_mono (h s F S) (fun _ _ A => wpAny_mono (A.next fun _ _ w => w) (fun _ _ A' => A'.next fun _ _ w => w) fun _ _ x => x) fun _ _ x => x) he

/-! ### tests -/
theorem t_not {x : Expr} {pos : Pos} {whole : Sem Value} {Q : Bool → Loc → Store → Prop} (h : W c (isTrue x env (eval x env)) m σ (fun b m' σ' => Q (!b) m' σ') X) : W c (isTrue (.UnaryOp .Not x pos) env whole) m σ Q X :=
  fun s F S => isTrue_not (h s F S)
theorem t_and_nil {pos : Pos} {whole : Sem Value} {Q : Bool → Loc → Store → Prop} (h : Q true m σ) : W c (isTrue (.BoolOp .And [] pos) env whole) m σ Q X := fun _ F S => isTrue_and_nil (After.here F S h)
theorem t_or_nil {pos : Pos} {whole : Sem Value} {Q : Bool → Loc → Store → Prop} (h : Q false m σ) : W c (isTrue (.BoolOp .Or [] pos) env whole) m σ Q X := fun _ F S => isTrue_or_nil (After.here F S h)
theorem t_and {x : Expr} {rest : List Expr} {pos : Pos} {whole : Sem Value} {Q : Bool → Loc → Store → Prop}
    (h : W c (isTrue x env (eval x env)) m σ (fun b m' σ' => match b with | true => W c (isTrue (.BoolOp .And rest pos) env whole) m' σ' Q X | false => Q false m' σ') X) : W c (isTrue (.BoolOp .And (x :: rest) pos) env whole) m σ Q X :=
  fun s F S => isTrue_and (wpAny_mono (h s F S) (fun b s₁ A => by
    cases b with
    | true => exact A.next fun _ _ w => w
    | false => exact A) fun _ _ x => x)
theorem t_or {x : Expr} {rest : List Expr} {pos : Pos} {whole : Sem Value} {Q : Bool → Loc → Store → Prop}
    (h : W c (isTrue x env (eval x env)) m σ (fun b m' σ' => match b with | true => Q true m' σ' | false => W c (isTrue (.BoolOp .Or rest pos) env whole) m' σ' Q X) X) : W c (isTrue (.BoolOp .Or (x :: rest) pos) env whole) m σ Q X :=
  fun s F S => isTrue_or (wpAny_mono (h s F S) (fun b s₁ A => by
    cases b with
    | true => exact A
    | false => exact A.next fun _ _ w => w) fun _ _ x => x)
theorem t_cmp {l r : Expr} {op : CmpOp} {pos : Pos} {whole : Sem Value} {Q : Bool → Loc → Store → Prop}
    (h : W c (eval l env) m σ (fun a m₁ σ₁ => W c (eval r env) m₁ σ₁ (fun b m₂ σ₂ => W c (compareOp op a b) m₂ σ₂ (fun v m₃ σ₃ => W c (truthy v) m₃ σ₃ Q X) X) X) X)
    (hm : behindInMarks op r = false := by with_unfolding_all rfl) : W c (isTrue (.Compare l [op] [r] pos) env whole) m σ Q X :=
  fun s F S => wpAny_isTrue_Compare1 (wpAny_mono (h s F S) (fun _ _ A => wpAny_mono (A.next fun _ _ w => w) (fun _ _ A' => wpAny_mono (A'.next fun _ _ w => w) (fun _ _ A'' => A''.next fun _ _ w => w) fun _ _ x => x) fun _ _ x => x) fun _ _ x => x) hm
theorem t_plain {e : Expr} {whole : Sem Value} {Q : Bool → Loc → Store → Prop} (h : W c whole m σ (fun v m' σ' => W c (truthy v) m' σ' Q X) X)
    (he : isTrue e env whole = (do let v ← whole; standAt e.pos; holding [v] (truthy v)) := by rfl) : W c (isTrue e env whole) m σ Q X :=
  fun s F S => isTrue_plain (wpAny_mono (h s F S) (fun _ _ A => A.next fun _ _ w => w) fun _ _ x => x) he
theorem v_bool {b : Bool} {Q : Bool → Loc → Store → Prop} (h : Q b m σ) : W c (truthy (.bool b)) m σ Q X := fun _ F S => wpAny_truthy_bool (After.here F S h)
theorem v_none {Q : Bool → Loc → Store → Prop} (h : Q false m σ) : W c (truthy .none) m σ Q X := fun _ F S => truthy_none (After.here F S h)

/-! ### names stored -/
def setM (m : Loc) (x : Str) (v : Value) : Loc := fun y => if y = x then some v else m y
theorem setM_same {m : Loc} {x : Str} {v : Value} : setM m x v x = some v := if_pos rfl
theorem setM_ne {m : Loc} {x y : Str} {v : Value} {r : Option Value} (h : y ≠ x) (e : m y = r) : setM m x v y = r := (if_neg h).trans e
theorem loc_set {x : Str} {v : Value} (hc : c.env.cells.lookup x = none) : (fun y => if y = x then some v else loc c m y) = loc c (setM m x v) := by
  funext y
  unfold loc setM
  by_cases e : y = x
  · subst e; rw [hc]; simp
  · simp only [if_neg e]
theorem w_store {x : Str} {v : Value} {Q : Unit → Loc → Store → Prop} (hk : c.env.scope.kind = .function) (hx : c.env.kindOf x = some .local) (hc : c.env.cells.lookup x = none) (h : Q () (setM m x v) σ) : W c (storeName c.env x v) m σ Q X :=
  fun _ F S => wpAny_storeName_local hx F.F.ns (fun h' hn hs => After.at ⟨⟨loc_set hc ▸ F.F.set hn hs, fun y a hy => by
      have e : y ≠ x := fun q => by rw [q, hc] at hy; cases hy
      obtain ⟨o, ho, hd⟩ := F.cell y a hy
      exact ⟨o, (hs.2 a (F.off y a hy).1).trans ho, by rw [hd]; unfold setM; rw [if_neg e]⟩, F.off, F.inj⟩,
      fun a o e => ⟨(hs.2 a fun q => (S a o e).2.1 (.inl q)).trans (S a o e).1, (S a o e).2⟩, fun a o e _ l => (hs.2 a fun q => l (.inl q)).trans e, fun a o e => .inl (by rw [e]; exact fun q => nomatch q)⟩ h)
    (by rw [hk]; rfl)
theorem w_store_cell {x : Str} {v : Value} {a : Addr} {Q : Unit → Loc → Store → Prop} (hk : c.env.scope.kind = .function) (hx : c.env.kindOf x = some .cell) (hc : c.env.cells.lookup x = some a) (h : Q () (setM m x v) σ) : W c (storeName c.env x v) m σ Q X :=
  fun s F S => wpAny_storeName_cell hk hx hc (F.cell x a hc) fun h' hv hs => by
    have hL : c.env.locals ≠ a := fun q => (F.off x a hc).1 q.symm
    have eL : loc c m = loc c (setM m x v) := by
      funext y
      unfold loc setM
      by_cases e : y = x
      · subst e; rw [hc]; simp
      · simp only [if_neg e]
    obtain ⟨oL, es, ep, hLo, r⟩ := F.F.ns
    refine ⟨h', s.toks, setM m x v, σ, rfl, ⟨eL ▸ ⟨⟨oL, es, ep, (hs.2 _ hL).trans hLo, r⟩, fun b o e => (hs.2 b fun q => ?_).trans (F.keep b o e), F.F.above⟩, fun y b hy => ?_, F.off, F.inj⟩,
      fun b o e => ⟨(hs.2 b fun q => (S b o e).2.1 (q ▸ .inr ⟨x, hc⟩)).trans (S b o e).1, (S b o e).2⟩, ⟨fun b o e _ l => (hs.2 b fun q => l (q ▸ .inr ⟨x, hc⟩)).trans e, fun b o e => .inl (by rw [e]; exact fun q => nomatch q)⟩, h⟩
    · rw [q, (F.off x a hc).2] at e; cases e
    · by_cases e : y = x
      · subst e; rw [hc] at hy; cases hy; unfold setM; rw [if_pos rfl]; exact hv
      · have hb : b ≠ a := fun q => e (F.inj y x a (q ▸ hy) hc)
        obtain ⟨o, ho, hd⟩ := F.cell y b hy
        exact ⟨o, (hs.2 b hb).trans ho, by rw [hd]; unfold setM; rw [if_neg e]⟩

/-! ### new objects -/
abbrev tupO (vs : List Value) : Obj := { cls := .type "tuple", data := .seq vs.toArray }
abbrev lstO (vs : List Value) (n : Nat) : Obj := { cls := .type "list", data := .seq vs.toArray n }
theorem w_newList {vs : List Value} {Q : Value → Loc → Store → Prop} (h : ∀ a, σ a = none → Q (.ref a) m (upd σ a (lstO vs 0))) (hsz : vs.length ≤ sizeLine) : W c (newList vs) m σ Q X :=
  fun s F S => newList_N F.F (all_news c s.heap) (fun h' F' N' => After.at (grown F S F' (no_end _) N') (h _ S.fresh)) hsz
theorem w_newTuple {vs : List Value} {Q : Value → Loc → Store → Prop} (h : ∀ a, σ a = none → Q (.ref a) m (upd σ a (tupO vs))) (hsz : vs.length ≤ sizeLine) : W c (newTuple vs) m σ Q X :=
  fun s F S => newTuple_N F.F (all_news c s.heap) (fun h' F' N' => After.at (grown F S F' (no_end _) N') (h _ S.fresh)) hsz
end
end Mine

open PySem PySem.W PySem.Calls PyProof.Rows
namespace Mine

/-- the ground of a frame: n is what may still be entered -/
structure Gnd (n : Nat) (c : Cx) : Prop where
  B : ∃ A₀ outer, Below A₀ c.g.h outer c.h₀ ∧ c.A.frames = some (c.env :: outer)
  fr : c.env.frame = some c.env.locals
  knd : c.env.scope.kind = .function
  glob : c.env.globals = mainGlobals
  bi : c.env.builtins = builtinsNs
  X : c.g.K.In c.h₀
  T : Top c.g.p c.g.loose c.g.mean c.g.mg c.g.mb c.h₀
  hh : c.A.handled = none
  dep : c.A.depth + 2 * n < recursionLimit
  un : c.A.units + 20 * n + 20 < cLine
  base : c.h₀.IsList c.g.bl c.g.bv.toArray
  XB : c.g.K.In c.g.h
  TB : Top c.g.p c.g.loose c.g.mean c.g.mg c.g.mb c.g.h
  baseB : c.g.h.IsList c.g.bl c.g.bv.toArray

section
variable {n : Nat} {c : Cx} {env : Env} {α : Type} {m : Loc} {σ : Store} {X : Value → Loc → Store → Prop}

/-- what names of the top want of an environment -/
structure EnvOk (env : Env) : Prop where
  knd : env.scope.kind = .function
  glob : env.globals = mainGlobals
  bi : env.builtins = builtinsNs
theorem Gnd.ok (g : Gnd n c) : EnvOk c.env := ⟨g.knd, g.glob, g.bi⟩
theorem Gnd.now (g : Gnd n c) {s : Shared} (F : Frm c s.heap m) : c.g.K.In s.heap := g.X.keeps F.keep

/-! ### names of the top -/
theorem w_glob {x : Str} {pos : Pos} {v : Value} {Q : Value → Loc → Store → Prop} (g : Gnd n c) (k : EnvOk env) (hx : env.kindOf x = some .globalImplicit) (hd : (x == ("__debug__" : Str)) = false) (hv : c.g.mg x = some v) (h : Q v m σ) :
    W c (eval (.Name x pos) env) m σ Q X := fun s F S =>
  Name_function_global k.knd hx (loadGlobal_global (by rw [k.glob]; exact g.T.g.keeps F.keep) hv (After.here F S h)) hd
theorem w_built {x : Str} {pos : Pos} {v : Value} {Q : Value → Loc → Store → Prop} (g : Gnd n c) (k : EnvOk env) (hx : env.kindOf x = some .globalImplicit) (hd : (x == ("__debug__" : Str)) = false) (hm : c.g.mg x = none) (hn : x ≠ "__name__") (hv : bootBuiltins x = some v) (h : Q v m σ) :
    W c (eval (.Name x pos) env) m σ Q X := fun s F S =>
  Name_function_global k.knd hx (loadGlobal_builtin (by rw [k.glob]; exact g.T.g.keeps F.keep) hm (by rw [k.bi]; exact g.T.b.keeps F.keep) ((g.T.builtins x hn).trans hv) (After.here F S h)) hd

/-! ### ints -/
variable {a b : Int} {t u : Tok}
theorem i_add {Q : Value → Loc → Store → Prop} (h : ∀ t, Q (.int (a + b) t) m σ) : W c (binaryOp .Add (.int a t) (.int b u)) m σ Q X := fun _ F S => add_int (After.tok F S (h _))
theorem i_sub {Q : Value → Loc → Store → Prop} (h : ∀ t, Q (.int (a - b) t) m σ) : W c (binaryOp .Sub (.int a t) (.int b u)) m σ Q X := fun _ F S => sub_int (After.tok F S (h _))
theorem i_mul {Q : Value → Loc → Store → Prop} (h : ∀ t, Q (.int (a * b) t) m σ) (hm : IntMulOk a b) : W c (binaryOp .Mult (.int a t) (.int b u)) m σ Q X := fun _ F S => mul_int (After.tok F S (h _)) hm
theorem i_mod {Q : Value → Loc → Store → Prop} (hb : b ≠ 0) (h : ∀ t, Q (.int (a.fmod b) t) m σ) : W c (binaryOp .Mod (.int a t) (.int b u)) m σ Q X := fun _ F S => mod_int hb (After.tok F S (h _))
theorem i_neg {Q : Value → Loc → Store → Prop} (h : ∀ t, Q (.int (-a) t) m σ) : W c (unaryOp .USub (.int a t)) m σ Q X := fun _ F S => P.neg_int (After.tok F S (h _))
theorem i_eq {Q : Value → Loc → Store → Prop} (h : Q (.bool (a == b)) m σ) : W c (compareOp .Eq (.int a t) (.int b u)) m σ Q X := fun _ F S => eq_int (After.here F S h)
theorem i_ne {Q : Value → Loc → Store → Prop} (h : Q (.bool (a != b)) m σ) : W c (compareOp .NotEq (.int a t) (.int b u)) m σ Q X := fun _ F S => ne_int (After.here F S h)
theorem i_lt {Q : Value → Loc → Store → Prop} (h : Q (.bool (decide (a < b))) m σ) : W c (compareOp .Lt (.int a t) (.int b u)) m σ Q X := fun _ F S => lt_int (After.here F S h)
theorem i_gt {Q : Value → Loc → Store → Prop} (h : Q (.bool (decide (b < a))) m σ) : W c (compareOp .Gt (.int a t) (.int b u)) m σ Q X := fun _ F S => gt_int (After.here F S h)
theorem i_le {Q : Value → Loc → Store → Prop} (h : Q (.bool (decide (a ≤ b))) m σ) : W c (compareOp .LtE (.int a t) (.int b u)) m σ Q X := fun _ F S => le_int (After.here F S h)
theorem i_ge {Q : Value → Loc → Store → Prop} (h : Q (.bool (decide (b ≤ a))) m σ) : W c (compareOp .GtE (.int a t) (.int b u)) m σ Q X := fun _ F S => ge_int (After.here F S h)

/-! ### what a class gives -/
structure FieldOk (K : Frag) (C : Addr) (name : Str) : Prop where
  pg : plainGet K C name = true
  hd : hasDictIn K C = true
  nf : findIn K (.ref C) name = some none
  sa : findIn K (.ref C) "__setattr__" = some (some (.builtin "object.__setattr__"))
  po : plainOver K C = true
structure MethOk (K : Frag) (C : Addr) (name : Str) (f : Addr) : Prop where
  pg : plainGet K C name = true
  hf : findIn K (.ref C) name = some (some (.ref f))
  fn : isFn K (.ref f) = true
  kp : keepIn K (.ref f) = true

theorem inst_at {s : Shared} {x C dx : Addr} {od : Obj} (S : Sto c s.heap σ) (hx : σ x = some (instObj C dx)) (hd : σ dx = some od) : W.InstAt s.heap x (instObj C dx) C (some od) :=
  ⟨(S x _ hx).1, rfl, rfl, (S dx _ hd).1⟩

theorem w_get {x C dx : Addr} {name : Str} {es : List DictEntry} {k : Nat} {v : Value} {Q : Value → Loc → Store → Prop} (g : Gnd n c) (f : FieldOk c.g.K C name) (hx : σ x = some (instObj C dx)) (hd : σ dx = some (dictOf es k))
    (hl : getL name es = some (some v)) (hv : handedIn v = true) (h : Q v m σ) : W c (getAttr (.ref x) name true) m σ Q X :=
  fun _ F S => get_own F.F g.X (inst_at S hx hd) f.pg f.hd f.nf rfl hl hv (After.tok F S h)

theorem putL_len (name : Str) (hsh : Int) (key v : Value) : ∀ es : List DictEntry, (putL name hsh key v es).length ≤ es.length + 1
  | [] => Nat.le_refl _
  | e :: r => by
    unfold putL
    split
    · simp
    · have := putL_len name hsh key v r
      simp only [List.length_cons]; omega
theorem w_set {x C dx : Addr} {name : Str} {es : List DictEntry} {k : Nat} {v : Value} {Q : Unit → Loc → Store → Prop} (g : Gnd n c) (f : FieldOk c.g.K C name) (hx : σ x = some (instObj C dx)) (hd : σ dx = some (dictOf es k))
    (hl : (getL name es).isSome = true) (hz : es.length < 1000) (h : ∀ tk, Q () m (upd σ dx (dictOf (putL name (PyData.keyHash c.g.w.params name) (.str name tk) v es) (putN name es k)))) : W c (setAttr (.ref x) name v) m σ Q X :=
  fun s F S => by
    obtain ⟨l', U, back⟩ := turned (o' := dictOf (putL name (PyData.keyHash c.g.w.params name) (.str name (s.toks + 1)) v es) (putN name es k)) F S hd
    have ht : takerIn c.g.K C name = some none := by unfold takerIn; rw [f.nf]; rfl
    have hz' : (putL name (PyData.keyHash c.g.w.params name) (.str name (s.toks + 1)) v es).length ≤ 1000 := by have := putL_len name (PyData.keyHash c.g.w.params name) (.str name (s.toks + 1)) v es; omega
    exact set_dict F.F g.X (all_news c s.heap) (inst_at S hx hd) rfl f.sa f.po ht f.hd hl rfl U hz' fun h' F' N' => After.at (back h' F' N') (h _)
theorem w_getMeth {x C dx f : Addr} {name : Str} {es : List DictEntry} {k : Nat} {pl : Sem Bool} {Q : Value × List Value → Loc → Store → Prop} (g : Gnd n c) (o : MethOk c.g.K C name f) (hx : σ x = some (instObj C dx)) (hd : σ dx = some (dictOf es k))
    (hl : getL name es = some none) (h : Q (.ref f, [.ref x]) m σ) : W c (getMethod (.ref x) name pl) m σ Q X :=
  fun _ F S => method_inst F.F g.X (inst_at S hx hd) o.pg o.hf o.fn hl (After.here F S h)

/-! ### calls -/
theorem w_with0 {pos : Pos} {f : Value} {first : List Value} {Q : Value → Loc → Store → Prop} (g : Gnd n c) (hk : keepIn c.g.K f = true) (h : W c (call f (first ++ [])) m σ Q X) :
    W c (callWith pos f first (backTo pos (starEach [] env)) []) m σ Q X :=
  fun s F S => callWith_K0 (g.now F) hk (h s F S)
theorem w_with {pos : Pos} {f : Value} {first : List Value} {e : Expr} {rest : List Expr} {Q : Value → Loc → Store → Prop} (g : Gnd n c) (hk : keepIn c.g.K f = true)
    (h : W c (spliced (backTo pos (starEach (e :: rest) env))) m σ (fun vs m' σ' => W c (call f (first ++ vs)) m' σ' Q X) X)
    (he : starEach (e :: rest) env = (false, eval e env) :: starEach rest env := by rfl) (hp : (backTo pos (starEach rest env)).any (·.1) = false := by rfl) :
    W c (callWith pos f first (backTo pos (starEach (e :: rest) env)) []) m σ Q X :=
  fun s F S => callWith_K g.X hk (wpAny_mono (h s F S) (fun vs s₁ A => by
    refine ⟨?_, A.next fun _ _ w => w⟩
    obtain ⟨h', tk, m', σ', rfl, F', S', _, w⟩ := A
    exact g.now (s := { s with heap := h', toks := tk }) F') fun _ _ x => x) he hp
/-- a built-in's call: no road of its own -/
def plainF : Value → Bool
  | .ref _ => false
  | _ => true
theorem keeps_plain {M : Model} {f : Value} (hf : plainF f = true) (h : Heap) (_ : True) : ∃ k, (k = Keeper.frame ∨ k = Keeper.machine ∨ k = Keeper.boundFrame) ∧ Looks M h (keeperOf f) k := by
  refine ⟨.machine, .inr (.inl rfl), ?_⟩
  cases f with
  | ref a => cases hf
  | _ => exact fun A Q E s _ q => wpAny_pure q
theorem w_bwith0 {pos : Pos} {f : Value} {first : List Value} {Q : Value → Loc → Store → Prop} (hf : plainF f = true) (h : W c (call f (first ++ [])) m σ Q X) :
    W c (callWith pos f first (backTo pos (starEach [] env)) []) m σ Q X :=
  fun s F S => callWith_of (P := fun _ => True) rfl (keeps_plain hf) (evalArgs_nil3 ⟨trivial, h s F S⟩)
theorem w_bwith {pos : Pos} {f : Value} {first : List Value} {e : Expr} {rest : List Expr} {Q : Value → Loc → Store → Prop} (hf : plainF f = true)
    (h : W c (spliced (backTo pos (starEach (e :: rest) env))) m σ (fun vs m' σ' => W c (call f (first ++ vs)) m' σ' Q X) X)
    (he : starEach (e :: rest) env = (false, eval e env) :: starEach rest env := by rfl) (hp : (backTo pos (starEach rest env)).any (·.1) = false := by rfl) :
    W c (callWith pos f first (backTo pos (starEach (e :: rest) env)) []) m σ Q X := by
  rw [he] at h ⊢
  exact fun s F S => callWith_of (P := fun _ => True) (by show ((false || (backTo pos (starEach rest env)).any (·.1)) || false) = false; rw [hp]; rfl) (keeps_plain hf)
    (evalArgs_plain (wpAny_mono (h s F S) (fun vs s₁ A => ⟨trivial, A.next fun _ _ w => w⟩) fun _ _ x => x))

/-- what a call of f comes to, from whatever frame -/
def Fn (g : Pg) (n : Nat) (f : Value) (args : List Value) (σ : Store) (Q X : Value → Store → Prop) : Prop :=
  ∀ (A : Around) (env : Env) (h₀ : Heap) (m : Loc) (s : Shared), Gnd n ⟨g, A, env, h₀⟩ → Frm ⟨g, A, env, h₀⟩ s.heap m → Sto ⟨g, A, env, h₀⟩ s.heap σ →
    codeAny (model g.prog g.w) A (.call f ⟨args, []⟩) (fun r s' => match r with
      | .ok (.ret v) => After ⟨g, A, env, h₀⟩ σ s s' (fun m' σ' => m' = m ∧ Q v σ')
      | .ok _ => False
      | .error e => AftX ⟨g, A, env, h₀⟩ σ s s' (fun e m' σ' => m' = m ∧ X e σ') e) s
theorem Gnd.less {k : Nat} (g : Gnd n c) (h : k ≤ n) : Gnd k c := ⟨g.B, g.fr, g.knd, g.glob, g.bi, g.X, g.T, g.hh, by have := g.dep; omega, by have := g.un; omega, g.base, g.XB, g.TB, g.baseB⟩
theorem w_fn {f : Value} {args : List Value} {Q : Value → Loc → Store → Prop} {k : Nat} {P Y : Value → Store → Prop} (g : Gnd n c) (hk : k ≤ n) (hf : Fn c.g k f args σ P Y) (h : ∀ v σ', P v σ' → Q v m σ') (hx : ∀ e σ', Y e σ' → X e m σ') : W c (call f args) m σ Q X :=
  fun s F S => wpAny_call (codeAny_mono (hf c.A c.env c.h₀ m s (g.less hk) F S) fun r s' z => by
    rcases r with e | (_ | _ | _ | v)
    · exact AftX.mono z fun e m' σ' q => by obtain ⟨rfl, q⟩ := q; exact hx e σ' q
    · exact z
    · exact z
    · exact z
    · exact After.mono z fun m' σ' q => by obtain ⟨rfl, q⟩ := q; exact h v σ' q)
theorem Fn.mono {g : Pg} {f : Value} {args : List Value} {Q X Q' X' : Value → Store → Prop} (h : Fn g n f args σ Q X) (hQ : ∀ v σ', Q v σ' → Q' v σ') (hX : ∀ v σ', X v σ' → X' v σ') : Fn g n f args σ Q' X' :=
  fun A env h₀ m s G F S => codeAny_mono (h A env h₀ m s G F S) fun r s' z => by
    rcases r with e | (_ | _ | _ | v)
    · exact AftX.mono z fun _ m' σ' q => ⟨q.1, hX _ _ q.2⟩
    · exact z
    · exact z
    · exact z
    · exact After.mono z fun m' σ' q => ⟨q.1, hQ _ _ q.2⟩

/-- behind a call: the caller's frame again -/
theorem called_back {c c' : Cx} {σ : Store} {s : Shared} {h₁ : Heap} (F : Frm c s.heap m) (FG : Fr c.h₀ c.env.locals c'.h₀ (loc c m)) (st : c.h₀.StaysIn c'.h₀)
    (N' : News c'.h₀ c'.env.locals h₁ (allOf c s.heap)) (F' : Fr c'.h₀ c'.env.locals h₁ (loc c' m')) (young : ∀ b o, s.heap.get? b = some o → ¬ FA c' b)
    (S : Sto c s.heap σ) {h' : Heap} {m'' : Loc} {σ' : Store} (F'' : Frm c' h' m'') (S'' : Sto c' h' σ') (x : Fra c' σ h₁ h' σ') :
    Frm c h' m ∧ Sto c h' σ' ∧ Fra c σ s.heap h' σ' := by
  have LG : ∃ oL, c'.h₀.get? c.env.locals = some oL := by obtain ⟨oL, _, _, hL, _⟩ := FG.ns; exact ⟨oL, hL⟩
  have elder : ∀ b o, s.heap.get? b = some o → b ≠ c.env.locals → h₁.get? b = some o := by
    intro b o e l
    cases q : c.h₀.get? b with
    | some y =>
      rw [F.keep b y q] at e; cases e
      exact F'.keep b o (st b o q)
    | none => exact (N' (b, o) (mem_lst.mpr ⟨Heap.lt_size e, full_some.mpr ⟨l, q, e⟩⟩)).1
  have kept : ∀ b o, s.heap.get? b = some o → σ b = none → b ≠ c.env.locals → h'.get? b = some o := fun b o e n l => x.kept b o (elder b o e l) n (young b o e)
  have cellσ : ∀ y b, c.env.cells.lookup y = some b → σ b = none := fun y b hy => by
    cases q : σ b with
    | none => rfl
    | some o => exact absurd (.inr ⟨y, hy⟩) (S b o q).2.1
  refine ⟨F.on ?_ fun y b hy o e => kept b o e (cellσ y b hy) (F.off y b hy).1, fun a o e => ⟨(S'' a o e).1, fun q => ?_, ?_⟩, fun b o e n l => kept b o e n fun q => l (.inl q), fun b o e => ?_⟩
  · obtain ⟨oL, es, ep, hL, r⟩ := FG.ns
    exact ⟨⟨oL, es, ep, F''.keep _ _ hL, r⟩, fun b o e => F''.keep b o (st b o e), F.F.above⟩
  · rcases q with q | ⟨y, hy⟩
    · obtain ⟨oL, hL⟩ := LG
      have := (S'' a o e).2.2; rw [q, hL] at this; cases this
    · rcases x.grow a o e with z | z
      · exact z (cellσ y a hy)
      · obtain ⟨o', ho', _⟩ := F.cell y a hy
        rw [elder a o' ho' (F.off y a hy).1] at z; cases z
  · cases q : c.h₀.get? a with
    | none => rfl
    | some o' => have := (S'' a o e).2.2; rw [st _ _ q] at this; cases this
  · rcases x.grow b o e with q | q
    · exact .inl q
    · right
      cases k : s.heap.get? b with
      | none => rfl
      | some o' =>
        by_cases l : b = c.env.locals
        · obtain ⟨oL, hL⟩ := LG
          rw [l, F'.keep _ _ hL] at q; cases q
        · rw [elder b o' k l] at q; cases q

theorem fn_of_body {g : Pg} {f : Addr} {args : List Value} {Q X : Value → Store → Prop} {name qual : Str} {params : Arguments} {body : List Stmt} {scope : Scope} {dV kV doc pm cdv ct oc : Value} {an od : Option Addr} {osl : Array (Option Value)} {binds : List (Str × Value)}
    (ho : g.K.lookup f = some ⟨oc, od, .func (fnX name qual params body scope [] dV kV doc pm an cdv ct), osl⟩) (hcd : codeIn g.K cdv qual = true)
    (hb : bindArgs (fnX name qual params body scope [] dV kV doc pm an cdv ct) ⟨args, []⟩ = pure binds) (hloc : ∀ y ∈ binds, scope.names.lookup y.1 = some .local) (hcell : ∀ x ∈ scope.names, x.2 ≠ .cell)
    (hco : scope.isCoroutine = false) (hgen : scope.isGenerator = false) (hk : scope.kind = .function)
    (h : ∀ c : Cx, c.g = g → Gnd n c → c.env.scope = scope → c.env.cells = [] → W c (execs body c.env) (fun y => binds.reverse.lookup y) σ (fun fl _ σ' => Q (match fl with | .ret v => v | _ => .none) σ') (fun _ _ _ => False)) :
    Fn g (n + 1) (.ref f) args σ Q X := by
  intro A env h₀ m s G F S
  obtain ⟨A₀, outer, B, hA⟩ := G.B
  dsimp only at B hA
  have hfr : env.frame = some env.locals := G.fr
  have hke : env.scope.kind = .function := G.knd
  have N := all_news ⟨g, A, env, h₀⟩ s.heap
  have KX : g.K.In s.heap := G.now F
  refine callX_plain (cl := []) B F.F N G.T.nolimit hA hfr hke (KX _ _ ho) rfl (codeRec_of KX hcd) (by have := G.dep; dsimp only at this; omega) (BindsTo.of_eq hb) hloc ?_ hcell hco hgen hk
  intro g' L' h₁ FG F' N' B' st young
  let c' : Cx := ⟨g, A.deeper (envX qual scope L' f cdv []), envX qual scope L' f cdv [], g'⟩
  have hloc0 : ∀ m : Loc, loc c' m = m := fun m => by funext x; rfl
  have G' : Gnd n c' := by
    refine ⟨⟨A, env :: outer, B', by show (A.frames.map _) = _; rw [hA]; rfl⟩, rfl, hk, rfl, rfl, G.X.keeps st, G.T.keeps st, G.hh, ?_, ?_, G.base.at fun o e => st _ o e, G.XB, G.TB, G.baseB⟩
    · have := G.dep
      show A.depth + 1 + 2 * n < recursionLimit
      dsimp only at this; omega
    · have := G.un
      show A.units + 3 + 20 * n + 20 < cLine
      dsimp only at this; omega
  have F1 : Frm c' h₁ (fun y => binds.reverse.lookup y) := ⟨by rw [hloc0]; exact F', fun x a hx => (by cases hx), fun x a hx => (by cases hx), fun x y a hx => (by cases hx)⟩
  have yng : ∀ b o, s.heap.get? b = some o → ¬ FA c' b := by
    intro b o e q
    rcases q with q | ⟨x, hx⟩
    · have hb : b = L' := q
      subst hb
      by_cases l : b = env.locals
      · obtain ⟨oL, _, _, hL, _⟩ := FG.ns
        exact absurd (Nat.lt_of_lt_of_le (Heap.lt_size (show g'.get? b = some oL from l ▸ hL)) F'.above) (Nat.lt_irrefl _)
      · cases q : h₀.get? b with
        | some y => exact absurd (Nat.lt_of_lt_of_le (Heap.lt_size (st b y q)) F'.above) (Nat.lt_irrefl _)
        | none => exact absurd (young (b, o) (mem_lst.mpr ⟨Heap.lt_size e, full_some.mpr ⟨l, q, e⟩⟩)) (Nat.lt_irrefl _)
    · cases hx
  have S1 : Sto c' h₁ σ := fun a o e => by
    have mem : (a, o) ∈ allOf ⟨g, A, env, h₀⟩ s.heap := mem_lst.mpr ⟨S.lt e, S.full (c := ⟨g, A, env, h₀⟩) a o e⟩
    exact ⟨(N' _ mem).1, yng a o (S a o e).1, (N' _ mem).2.2⟩
  have key := h c' rfl G' rfl rfl { s with heap := h₁, toks := s.toks + binds.length } F1 S1
  have back := fun {h' : Heap} {m'' : Loc} {σ' : Store} => called_back (c := ⟨g, A, env, h₀⟩) (c' := c') (m := m) (m' := fun y => binds.reverse.lookup y) (s := s) (σ := σ) (h₁ := h₁) (h' := h') (m'' := m'') (σ' := σ') F FG st N' F1.F yng S
  refine wpAny_mono key (fun fl s' Aft => ?_) fun e s' Aft => ?_
  · obtain ⟨h', tk, m', σ', rfl, F'', S'', x, q⟩ := Aft
    obtain ⟨a1, a2, a3⟩ := back F'' S'' x
    exact ⟨L', _, [], F''.F, fun _ hp => (nomatch hp), fun _ _ => ⟨h', tk, m, σ', rfl, a1, a2, a3, rfl, q⟩⟩
  · exact Aft.no.elim
end
end Mine

open PySem PySem.W PySem.Calls PyProof.Rows
namespace Mine
section
variable {n : Nat} {c : Cx} {α : Type} {m : Loc} {σ : Store} {X : Value → Loc → Store → Prop}

abbrev NoX : Value → Loc → Store → Prop := fun _ _ _ => False

/-- the walk over what v yields, its turns' body -/
def Turns (c : Cx) (x : Str) (tp : Pos) (body : List Stmt) (v : Value) (m : Loc) (σ : Store) (Q : Flow → Loc → Store → Prop) : Prop :=
  ∀ s, Frm c s.heap m → Sto c s.heap σ →
    wpAny (model c.g.prog c.g.w) c.A (pyIter v) (fun it s₂ => codeAny (model c.g.prog c.g.w) c.A (.forLoop (.Name x tp) it body [] c.env)
      (fun r s' => match r with | .ok f => After c σ s s' (Q f) | .error _ => False) s₂) (fun _ _ => False) s

theorem w_for {x : Str} {tp pos : Pos} {iter : Expr} {body : List Stmt} {Q : Flow → Loc → Store → Prop}
    (h : W c (eval iter c.env) m σ (fun v m₁ σ₁ => Turns c x tp body v m₁ σ₁ Q) X)
    (hs : ∀ x, foldedSetIterable iter c.env x = Pure.pure x := by intro _; rfl) : W c (exec (.For (.Name x tp) iter body [] pos) c.env) m σ Q X :=
  fun s F S => wpAny_For (wpAny_mono (h s F S) (fun v s₁ A => by
    obtain ⟨h', tk, m', σ', rfl, F', S', fx, T⟩ := A
    refine wpAny_mono (T { s with heap := h', toks := tk } F' S') (fun it s₂ C => codeAny_mono C fun r s' z => ?_) fun _ _ x => x.elim
    cases r with
    | error e => exact z.elim
    | ok f => exact z.on rfl fx) fun _ _ x => x) hs

/-- between two turns -/
structure Mid (c : Cx) (σ₀ : Store) (s₀ : Shared) (I : Addr) (SW : Nat → Heap → Prop) (J : Nat → Loc → Store → Prop) (i : Nat) (m : Loc) (σ : Store) (h : Heap) : Prop where
  F : Frm c h m
  S : Sto c h σ
  fra : Fra c σ₀ s₀.heap h σ
  J : J i m σ
  sw : SW i h
  no : σ I = none

theorem turns_walk {x : Str} {tp : Pos} {body : List Stmt} {v : Value} {Q : Flow → Loc → Store → Prop} (g : Gnd n c) (hx : c.env.kindOf x = some .local) (hxc : c.env.cells.lookup x = none) {N : Nat} {P : Nat → Value → Prop} (J : Nat → Loc → Store → Prop)
    (fp : Addr → List Addr) (SW : Addr → Nat → Heap → Prop)
    (open_ : ∀ s, Frm c s.heap m → Sto c s.heap σ → ∃ io : Obj, io.isFreed = false ∧ Walks c.g.prog c.g.w c.A s.heap.objs.size (fp s.heap.objs.size) [s.heap.objs.size] N P (SW s.heap.objs.size) ∧ SW s.heap.objs.size 0 (s.heap.push io) ∧
      ∀ Q' E', Q' (.ref s.heap.objs.size) { s with heap := s.heap.push io } → wpAny (model c.g.prog c.g.w) c.A (pyIter v) Q' E' s)
    (some_ : ∀ I i h, SW I i h → (h.get? I).isSome = true)
    (stay : ∀ I, ∀ b ∈ fp I, b ≠ I → ∃ o, ∀ i m σ, J i m σ → (c.h₀.get? b = some o ∨ σ b = some o))
    (h0 : J 0 m σ)
    (turn : ∀ i v m' σ', i < N → P i v → J i m' σ' → W c (execs body c.env) (setM m' x v) σ' (fun f m'' σ'' => match f with
      | .next => J (i + 1) m'' σ'' | .cont => J (i + 1) m'' σ'' | .brk => Q .next m'' σ'' | .ret r => Q (.ret r) m'' σ'') NoX)
    (done : ∀ m' σ', J N m' σ' → Q .next m' σ') : Turns c x tp body v m σ Q := by
  intro s F S
  obtain ⟨io, hio, Wk, sw0, go⟩ := open_ s F S
  refine go _ _ ?_
  generalize hI : s.heap.objs.size = I at *
  have hIs : s.heap.get? I = none := by rw [← hI]; exact no_end _
  have hI0 : c.h₀.get? I = none := by
    cases q : c.h₀.get? I with
    | none => rfl
    | some o => rw [F.keep I o q] at hIs; cases hIs
  have hIL : ¬ FA c I := F.notNew hIs
  have pushK : ∀ b o, s.heap.get? b = some o → (s.heap.push io).get? b = some o := fun b o e => Heap.get?_push_of_some _ e
  refine codeAny_forLoop (fun k s' => ∃ i m' σ' h tk, k = N - i ∧ i ≤ N ∧ s' = { s with heap := h, toks := tk } ∧ Mid c σ s I (SW I) J i m' σ' h) ?_ N ?_
  · rintro k s' ⟨i, m', σ', h, tk, rfl, hi, rfl, M⟩
    have hIh : ∃ o, h.get? I = some o := Option.isSome_iff_exists.mp (some_ I i h M.sw)
    -- what holds behind a step of the iterator
    have next : ∀ h', (∀ b o, b ∉ [I] → h.get? b = some o → h'.get? b = some o) → Frm c h' m' ∧ Sto c h' σ' ∧ Fra c σ s.heap h' σ' := by
      intro h' hk
      have ne : ∀ b, b ≠ I → b ∉ [I] := fun b q z => q (List.mem_singleton.mp z)
      refine ⟨M.F.on ⟨?_, fun b o e => hk b o (ne b fun q => by rw [q, hI0] at e; cases e) (M.F.keep b o e), M.F.F.above⟩ fun x b hb o e => hk b o (ne b fun q => hIL (q ▸ .inr ⟨x, hb⟩)) e, fun a o e => ⟨hk a o (ne a fun q => by rw [q, M.no] at e; cases e) (M.S a o e).1, (M.S a o e).2⟩, fun b o e z l => hk b o (ne b fun q => by rw [q, hIs] at e; cases e) (M.fra.kept b o e z l), M.fra.grow⟩
      obtain ⟨oL, es, ep, hL, r⟩ := M.F.F.ns
      exact ⟨oL, es, ep, hk _ _ (ne _ fun q => hIL (.inl q.symm)) hL, r⟩
    rcases Nat.lt_or_ge i N with hlt | hge
    · refine Wk.item i _ _ _ hlt M.sw fun v h' tk' hP hsw hk => ?_
      obtain ⟨F', S', fx⟩ := next h' hk
      dsimp only
      refine wpAny_assign_Name (wpAny_storeName_local hx F'.F.ns (fun h2 hn hsb => ?_) (by rw [g.knd]; rfl))
      have F2 : Frm c h2 (setM m' x v) := ⟨loc_set hxc ▸ F'.F.set hn hsb, fun y a hy => by
        have e : y ≠ x := fun q => by rw [q, hxc] at hy; cases hy
        obtain ⟨o, ho, hd⟩ := F'.cell y a hy
        exact ⟨o, (hsb.2 a (F'.off y a hy).1).trans ho, by rw [hd]; unfold setM; rw [if_neg e]⟩, F'.off, F'.inj⟩
      have S2 : Sto c h2 σ' := fun a o e => ⟨(hsb.2 a fun q => (S' a o e).2.1 (.inl q)).trans (S' a o e).1, (S' a o e).2⟩
      have fx2 : Fra c σ s.heap h2 σ' := ⟨fun b o e z l => (hsb.2 b fun q => l (.inl q)).trans (fx.kept b o e z l), fx.grow⟩
      have sw2 : SW I (i + 1) h2 := by
        refine Wk.frame _ _ _ hsw fun b hb o e => (hsb.2 b fun q => ?_).trans e
        subst q
        by_cases e2 : c.env.locals = I
        · exact hIL (.inl e2.symm)
        · obtain ⟨o', ho'⟩ := stay I c.env.locals hb e2
          rcases ho' i m' σ' M.J with q | q
          · exact absurd (Nat.lt_of_lt_of_le (Heap.lt_size q) F.F.above) (Nat.lt_irrefl _)
          · exact (S' _ _ q).2.1 (.inl rfl)
      have key := turn i v m' σ' hlt hP M.J { s with heap := h2, toks := tk' + 1 } F2 S2
      refine wpAny_mono key (fun f s3 A3 => ?_) fun e s3 A3 => ?_
      · obtain ⟨h3, tk3, m3, σ3, rfl, F3, S3, x3, q3⟩ := A3
        have fx3 := fx2.trans x3 S3
        have ends : ∀ {f}, Q f m3 σ3 → After c σ s { s with heap := h3, toks := tk3 } (Q f) := fun q => ⟨h3, tk3, m3, σ3, rfl, F3, S3, fx3, q⟩
        have on : J (i + 1) m3 σ3 → ∃ k', k' < N - i ∧ ∃ i' m' σ' h tk, k' = N - i' ∧ i' ≤ N ∧ ({ s with heap := h3, toks := tk3 } : Shared) = { s with heap := h, toks := tk } ∧ Mid c σ s I (SW I) J i' m' σ' h := by
          intro q
          refine ⟨N - (i + 1), by omega, i + 1, m3, σ3, h3, tk3, rfl, by omega, rfl, F3, S3, fx3, q, ?_, ?_⟩
          · refine Wk.frame _ _ _ sw2 fun b hb o e => ?_
            by_cases e2 : b = I
            · subst e2; exact x3.kept _ o e M.no hIL
            · obtain ⟨o', ho'⟩ := stay I b hb e2
              have h2b : h2.get? b = some o' := by
                rcases ho' i m' σ' M.J with q | q
                · exact F2.keep b o' q
                · exact (S2 b o' q).1
              rw [h2b] at e; cases e
              rcases ho' (i + 1) m3 σ3 q with q | q
              · exact F3.keep b o q
              · exact (S3 b o q).1
          · cases z : σ3 I with
            | none => rfl
            | some o =>
              rcases x3.grow I o z with r | r
              · exact absurd M.no r
              · have : h2.get? I ≠ none := by
                  obtain ⟨o2, ho2⟩ := Option.isSome_iff_exists.mp (some_ I _ h2 sw2)
                  rw [ho2]; exact fun q => nomatch q
                exact absurd r this
        cases f with
        | next => exact on q3
        | cont => exact on q3
        | brk => exact ends q3
        | ret r => exact ends q3
      · exact A3.no.elim
    · have : i = N := by omega
      subst this
      refine Wk.done _ _ _ M.sw fun h' tk' hk => ?_
      obtain ⟨F', S', fx⟩ := next h' hk
      exact wpAny_execs_nil ⟨h', tk', m', σ', rfl, F', S', fx, done m' σ' M.J⟩
  · refine ⟨0, m, σ, s.heap.push io, s.toks, rfl, Nat.zero_le _, rfl, F.keeps pushK, fun a o e => ⟨pushK _ _ (S a o e).1, (S a o e).2⟩, ⟨fun b o e _ _ => pushK b o e, fun a o e => .inl (by rw [e]; exact fun q => nomatch q)⟩, h0, sw0, ?_⟩
    cases z : σ I with
    | none => rfl
    | some o => rw [(S I o z).1] at hIs; cases hIs
end
end Mine

open PySem PySem.W PySem.Calls PyProof.Rows
namespace Mine
section
variable {n : Nat} {c : Cx} {α : Type} {m : Loc} {σ : Store} {X : Value → Loc → Store → Prop}

theorem isList_of {h : Heap} {l : Addr} {vs : List Value} {k : Nat} (S : Sto c h σ) (e : σ l = some (lstO vs k)) : h.IsList l vs.toArray := ⟨_, (S l _ e).1, rfl, k, rfl⟩
theorem isTup_of {h : Heap} {l : Addr} {vs : List Value} (S : Sto c h σ) (e : σ l = some (tupO vs)) : IsTup h l vs.toArray := ⟨_, (S l _ e).1, rfl, 0, rfl⟩
theorem isList_base {h : Heap} {l : Addr} {its : Array Value} (F : Frm c h m) (e : c.h₀.IsList l its) : h.IsList l its := e.at fun o q => F.keep l o q
theorem pushed {s : Shared} (F : Frm c s.heap m) (S : Sto c s.heap σ) (o : Obj) (hf : o.isFreed = false) : Frm c (s.heap.push o) m ∧ Sto c (s.heap.push o) (upd σ s.heap.objs.size o) ∧ Fra c σ s.heap (s.heap.push o) (upd σ s.heap.objs.size o) :=
  grown F S (F.F.push o) (no_end _) ((all_news c s.heap).push F.F o hf)

/-! ### ranges -/
abbrev rngO (a b : Int) (t u v : Tok) : Obj := { cls := .type "range", data := .fields #[.int a t, .int b u, .int 1 v] }
theorem w_range1 {k : Int} {t : Tok} {Q : Value → Loc → Store → Prop} (h : ∀ a t u v, σ a = none → Q (.ref a) m (upd σ a (rngO 0 k t u v))) : W c (call (.type "range") [.int k t]) m σ Q X :=
  fun _ F S => call_range_1 (After.at (pushed F S _ rfl) (h _ _ _ _ S.fresh))
theorem w_range2 {i k : Int} {t u : Tok} {Q : Value → Loc → Store → Prop} (h : ∀ a t u v, σ a = none → Q (.ref a) m (upd σ a (rngO i k t u v))) : W c (call (.type "range") [.int i t, .int k u]) m σ Q X :=
  fun _ F S => call_range_2 (After.at (pushed F S _ rfl) (h _ _ _ _ S.fresh))

abbrev Turn (c : Cx) (x : Str) (body : List Stmt) (Q : Flow → Loc → Store → Prop) (J : Loc → Store → Prop) (v : Value) (m : Loc) (σ : Store) : Prop :=
  W c (execs body c.env) (setM m x v) σ (fun f m'' σ'' => match f with
      | .next => J m'' σ'' | .cont => J m'' σ'' | .brk => Q .next m'' σ'' | .ret r => Q (.ret r) m'' σ'') NoX

theorem turns_range {x : Str} {tp : Pos} {body : List Stmt} {r : Addr} {i k : Int} {t u v : Tok} {Q : Flow → Loc → Store → Prop} (g : Gnd n c) (hx : c.env.kindOf x = some .local) (hxc : c.env.cells.lookup x = none) (J : Nat → Loc → Store → Prop)
    (hr : σ r = some (rngO i k t u v)) (hi : -(2 ^ 62) ≤ i) (hi' : i < 2 ^ 62) (hk : -(2 ^ 62) ≤ k) (hk' : k < 2 ^ 62) (h0 : J 0 m σ)
    (turn : ∀ j t m' σ', j < (k - i).toNat → J j m' σ' → Turn c x body Q (J (j + 1)) (.int (i + j) t) m' σ')
    (done : ∀ m' σ', J (k - i).toNat m' σ' → Q .next m' σ') : Turns c x tp body (.ref r) m σ Q := by
  have hsm := small_one hi hi' hk hk'
  have hsz : Builtin.Range.rangeSize i k 1 = (((k - i).toNat : Nat) : Int) := by rw [rangeSize_one]; split <;> omega
  refine turns_walk (N := (k - i).toNat) (P := fun j v => ∃ t, v = .int (i + j * 1) t) g hx hxc J (fun I => [I]) (fun I j h => IsRangeIter h I (i + (j : Nat) * 1) (((k - i).toNat : Int) - (j : Nat)) 1) ?_ ?_ ?_ h0 ?_ done
  · intro s F S
    refine ⟨{ cls := .type "range_iterator", data := .fields #[rawInt i, rawInt (Builtin.Range.rangeSize i k 1), rawInt 1] }, rfl, Walks.range g.hh _ i 1 _, ?_, fun Q' E' hq => wpAny_pyIter_range (S r _ hr).1 hsm hq⟩
    show IsRangeIter _ _ _ _ _
    rw [hsz]
    simpa using Heap.get?_push_size s.heap (o := { cls := .type "range_iterator", data := .fields #[rawInt i, rawInt (((k - i).toNat : Nat) : Int), rawInt 1] }) rfl
  · intro I j h e; rw [show h.get? I = _ from e]; rfl
  · intro I b hb hne; exact absurd (List.mem_singleton.mp hb) hne
  · rintro j v m' σ' hj ⟨t, rfl⟩ hJ
    rw [show i + (j : Int) * 1 = i + (j : Int) by omega]
    exact turn j t m' σ' hj hJ

/-! ### lists walked -/
theorem turns_list {x : Str} {tp : Pos} {body : List Stmt} {l : Addr} {vs : List Value} {k : Nat} {Q : Flow → Loc → Store → Prop} (g : Gnd n c) (hx : c.env.kindOf x = some .local) (hxc : c.env.cells.lookup x = none) (J : Nat → Loc → Store → Prop)
    (hl : ∀ i m σ, J i m σ → σ l = some (lstO vs k)) (h0 : J 0 m σ)
    (turn : ∀ j v m' σ', vs[j]? = some v → J j m' σ' → Turn c x body Q (J (j + 1)) v m' σ')
    (done : ∀ m' σ', J vs.length m' σ' → Q .next m' σ') : Turns c x tp body (.ref l) m σ Q := by
  refine turns_walk (N := vs.length) (P := fun j v => vs.toArray[j]? = some v) g hx hxc J (fun I => [I, l]) (fun I j h => h.IsListIter I l j ∧ h.IsList l vs.toArray) ?_ ?_ ?_ h0 ?_ done
  · intro s F S
    have hls := isList_of S (hl _ _ _ h0)
    have hne : l ≠ s.heap.objs.size := Nat.ne_of_lt (S.lt (hl _ _ _ h0))
    have Wk := Walks.list (prog := c.g.prog) (w := c.g.w) g.hh s.heap.objs.size l hne vs.toArray
    rw [List.size_toArray] at Wk
    exact ⟨{ cls := .type "list_iterator", data := .fields #[.ref l, .int 0 0] }, rfl, Wk, ⟨⟨_, Heap.get?_push_size _ rfl, rfl, rfl⟩, hls.at fun o e => Heap.get?_push_of_some _ e⟩, fun Q' E' hq => wpAny_pyIter_list hls hq⟩
  · rintro I j h ⟨⟨o, ho, _⟩, _⟩; rw [ho]; rfl
  · intro I b hb hne
    rcases List.mem_cons.mp hb with q | q
    · exact absurd q hne
    · rw [List.mem_singleton.mp q]; exact ⟨_, fun i m σ q => .inr (hl i m σ q)⟩
  · intro j v m' σ' _ hP hJ
    exact turn j v m' σ' (by simpa using hP) hJ
theorem turns_base {x : Str} {tp : Pos} {body : List Stmt} {l : Addr} {vs : List Value} {Q : Flow → Loc → Store → Prop} (g : Gnd n c) (hx : c.env.kindOf x = some .local) (hxc : c.env.cells.lookup x = none) (J : Nat → Loc → Store → Prop)
    (hl : c.h₀.IsList l vs.toArray) (h0 : J 0 m σ)
    (turn : ∀ j v m' σ', vs[j]? = some v → J j m' σ' → Turn c x body Q (J (j + 1)) v m' σ')
    (done : ∀ m' σ', J vs.length m' σ' → Q .next m' σ') : Turns c x tp body (.ref l) m σ Q := by
  obtain ⟨ol, hol, _⟩ := id hl
  refine turns_walk (N := vs.length) (P := fun j v => vs.toArray[j]? = some v) g hx hxc J (fun I => [I, l]) (fun I j h => h.IsListIter I l j ∧ h.IsList l vs.toArray) ?_ ?_ ?_ h0 ?_ done
  · intro s F S
    have hls := isList_base F hl
    have hne : l ≠ s.heap.objs.size := Nat.ne_of_lt (Heap.lt_size (F.keep l ol hol))
    have Wk := Walks.list (prog := c.g.prog) (w := c.g.w) g.hh s.heap.objs.size l hne vs.toArray
    rw [List.size_toArray] at Wk
    exact ⟨{ cls := .type "list_iterator", data := .fields #[.ref l, .int 0 0] }, rfl, Wk, ⟨⟨_, Heap.get?_push_size _ rfl, rfl, rfl⟩, hls.at fun o e => Heap.get?_push_of_some _ e⟩, fun Q' E' hq => wpAny_pyIter_list hls hq⟩
  · rintro I j h ⟨⟨o, ho, _⟩, _⟩; rw [ho]; rfl
  · intro I b hb hne
    rcases List.mem_cons.mp hb with q | q
    · exact absurd q hne
    · rw [List.mem_singleton.mp q]; exact ⟨_, fun i m σ _ => .inl hol⟩
  · intro j v m' σ' _ hP hJ
    exact turn j v m' σ' (by simpa using hP) hJ

/-! ### lists, tuples: length, items -/
theorem w_len {l : Addr} {vs : List Value} {k : Nat} {Q : Value → Loc → Store → Prop} (hl : σ l = some (lstO vs k)) (hz : vs.length ≤ sizeLine) (h : ∀ t, Q (.int vs.length t) m σ) : W c (call (.builtin "len") [.ref l]) m σ Q X :=
  fun _ F S => call_len_list (isList_of S hl) (by rw [sizeLine_eq] at hz; simp; omega) (After.tok F S (by simpa using h _))
theorem w_len_base {l : Addr} {vs : List Value} {Q : Value → Loc → Store → Prop} (hl : c.h₀.IsList l vs.toArray) (hz : vs.length ≤ sizeLine) (h : ∀ t, Q (.int vs.length t) m σ) : W c (call (.builtin "len") [.ref l]) m σ Q X :=
  fun _ F S => call_len_list (isList_base F hl) (by rw [sizeLine_eq] at hz; simp; omega) (After.tok F S (by simpa using h _))
theorem w_item {value slice : Expr} {l : Addr} {vs : List Value} {k : Nat} {i : Int} {t : Tok} {v : Value} {Q : Value → Loc → Store → Prop} (hl : σ l = some (lstO vs k)) (h0 : 0 ≤ i) (h1 : i < 2 ^ 63) (hv : vs[i.toNat]? = some v) (h : Q v m σ)
    (hs : subscripted slice false (.ref l) (.int i t) = operate [.ref l, .int i t] (getItem (.ref l) (.int i t)) := by with_unfolding_all rfl) : W c (subscriptTail value slice (.ref l) (.int i t)) m σ Q X :=
  fun _ F S => tail_any (isList_of S hl).typeIs slot_list_getitem.lookup (wpAny_getItem_list (isList_of S hl) h0 h1 (by simpa using hv) (After.here F S h)) hs
theorem w_item_base {value slice : Expr} {l : Addr} {vs : List Value} {i : Int} {t : Tok} {v : Value} {Q : Value → Loc → Store → Prop} (hl : c.h₀.IsList l vs.toArray) (h0 : 0 ≤ i) (h1 : i < 2 ^ 63) (hv : vs[i.toNat]? = some v) (h : Q v m σ)
    (hs : subscripted slice false (.ref l) (.int i t) = operate [.ref l, .int i t] (getItem (.ref l) (.int i t)) := by with_unfolding_all rfl) : W c (subscriptTail value slice (.ref l) (.int i t)) m σ Q X :=
  fun _ F S => tail_any (isList_base F hl).typeIs slot_list_getitem.lookup (wpAny_getItem_list (isList_base F hl) h0 h1 (by simpa using hv) (After.here F S h)) hs
theorem w_item_tup {value slice : Expr} {l : Addr} {vs : List Value} {i : Int} {j : Nat} {t : Tok} {v : Value} {Q : Value → Loc → Store → Prop} (hl : σ l = some (tupO vs)) (h0 : -(2 ^ 63) ≤ i) (h1 : i < 2 ^ 63) (hj : seqIndex? i vs.length = some j) (hv : vs[j]? = some v) (h : Q v m σ)
    (hs : subscripted slice false (.ref l) (.int i t) = operate [.ref l, .int i t] (getItem (.ref l) (.int i t)) := by with_unfolding_all rfl) : W c (subscriptTail value slice (.ref l) (.int i t)) m σ Q X :=
  fun _ F S => item_tupleT (isTup_of S hl) h0 h1 hj hv (After.here F S h) hs

/-! ### lists changed -/
theorem w_lmeth {l : Addr} {vs : List Value} {k : Nat} {name : Str} {id : String} {pl : Sem Bool} {Q : Value × List Value → Loc → Store → Prop} (hl : σ l = some (lstO vs k)) (slot : Slot "list" name id) (hty : typeOf (.builtin id) = Pure.pure (.type "method_descriptor"))
    (h : Q (.builtin id, [.ref l]) m σ) : W c (getMethod (.ref l) name pl) m σ Q X :=
  fun _ F S => getMethod_builtin ⟨_, (S l _ hl).1, rfl⟩ PySem.F.plainAttrs_list slot hty (fun a e => by cases e; exact ⟨_, (S l _ hl).1, rfl⟩) (After.here F S h)
theorem w_append {l : Addr} {vs : List Value} {k : Nat} {v : Value} {Q : Value → Loc → Store → Prop} (hl : σ l = some (lstO vs k)) (hz : vs.length ≤ sizeLine) (h : Q .none m (upd σ l (lstO (vs ++ [v]) (k + 1)))) : W c (call (.builtin "list.append") [.ref l, v]) m σ Q X :=
  fun s F S => by
    obtain ⟨l', U, back⟩ := turned (o' := lstO (vs ++ [v]) (k + 1)) F S hl
    refine append_K F.F (all_news c s.heap) (its := vs.toArray) (n := k) (news' := l') (by simpa using U) (fun h' F' N' => After.at (back h' F' N') h) (by simpa using hz)
theorem w_pop {l : Addr} {vs : List Value} {k j : Nat} {i : Int} {t : Tok} {v : Value} {Q : Value → Loc → Store → Prop} (hl : σ l = some (lstO vs k)) (hz : vs.length ≤ sizeLine) (hi : i = (j : Int)) (hv : vs[j]? = some v)
    (h : Q v m (upd σ l (lstO (vs.eraseIdx j) (k + 1)))) : W c (call (.builtin "list.pop") [.ref l, .int i t]) m σ Q X :=
  fun s F S => by
    have hj : j < vs.length := by
      rcases Nat.lt_or_ge j vs.length with q | q
      · exact q
      · rw [List.getElem?_eq_none q] at hv; cases hv
    have ev : vs[j] = v := by rw [List.getElem?_eq_getElem hj] at hv; exact Option.some.inj hv
    have e1 : vs = vs.take j ++ v :: vs.drop (j + 1) := by
      rw [← ev, List.getElem_cons_drop, List.take_append_drop]
    have e2 : vs.eraseIdx j = vs.take j ++ vs.drop (j + 1) := List.eraseIdx_eq_take_drop_succ vs j
    obtain ⟨l', U, back⟩ := turned (o' := lstO (vs.eraseIdx j) (k + 1)) F S hl
    have z := S l _ hl
    subst hi
    rw [sizeLine_eq] at hz
    have cut : ∀ (p q : List Value), kl_cut (p ++ v :: q) p.length = some (p, v, q) := by
      intro p q
      induction p with
      | nil => rfl
      | cons x p ih => show (match kl_cut (p ++ v :: q) p.length with | some (p', y, q') => some (x :: p', y, q') | none => none) = _; rw [ih]
    have cutv : kl_cut vs j = some (vs.take j, v, vs.drop (j + 1)) := by
      have := cut (vs.take j) (vs.drop (j + 1))
      rw [← e1, List.length_take, Nat.min_eq_left (by omega)] at this
      exact this
    refine kl_popAt F.F (all_news c s.heap) (its := vs.toArray) (k := j) (p := vs.take j) (q := vs.drop (j + 1)) (y := v) ?_ ?_ cutv (by rw [← e2]; exact U) (by rw [sizeLine_eq]; exact hz) fun h' F' N' => After.at (back h' F' N') h
    · unfold Builtin.List.listFitsIndex; simp; omega
    · unfold seqIndex?; simp; omega
theorem w_clear {l : Addr} {vs : List Value} {k : Nat} {Q : Value → Loc → Store → Prop} (hl : σ l = some (lstO vs k)) (hne : vs.length ≠ 0) (hz : vs.length ≤ sizeLine) (h : Q .none m (upd σ l (lstO [] (k + 1)))) : W c (call (.builtin "list.clear") [.ref l]) m σ Q X :=
  fun s F S => by
    obtain ⟨l', U, back⟩ := turned (o' := lstO [] (k + 1)) F S hl
    exact kl_clear F.F (all_news c s.heap) (its := vs.toArray) U hne hz fun h' F' N' => After.at (back h' F' N') h
theorem w_copy {l : Addr} {vs : List Value} {k : Nat} {Q : Value → Loc → Store → Prop} (hl : σ l = some (lstO vs k)) (hz : vs.length ≤ sizeLine) (h : ∀ a k', σ a = none → Q (.ref a) m (upd σ a (lstO vs k'))) : W c (call (.type "list") [.ref l]) m σ Q X :=
  fun s F S => call_list_seq l (.inl rfl) (S l _ hl).1 rfl rfl (fun h' c' hk hD => After.at (grown F S (F.F.keeps hk) (no_end _) (news_pushed F.F (all_news c s.heap) hk hD rfl)) (h _ _ S.fresh)) (by simpa using hz)
end
end Mine

open PySem PySem.W PySem.Calls PyProof.Rows
namespace Mine
section
variable {n : Nat} {c : Cx} {env : Env} {α : Type} {m : Loc} {σ : Store} {X : Value → Loc → Store → Prop}

/-! ### cells of a frame -/
theorem bindL_eq (k : Str → Option NameKind) : ∀ (binds : List (Str × Value)) (m : Loc) (x : Str), bindL k binds m x = if k x = some .local then (binds.reverse.lookup x).or (m x) else m x
  | [], m, x => by simp [bindL]
  | (y, v) :: r, m, x => by
    rw [bindL, bindL_eq k r]
    have e : ((y, v) :: r).reverse.lookup x = (r.reverse.lookup x).or (if x = y then some v else none) := by
      rw [List.reverse_cons, List.lookup_append]
      congr 1
      by_cases q : x = y
      · subst q; simp [List.lookup]
      · have : (x == y) = false := by simpa using q
        simp [List.lookup, this, q]
    rw [e]
    by_cases h : k x = some .local
    · rw [if_pos h, if_pos h, Option.or_assoc]
      congr 1
      by_cases q : x = y
      · subst q; simp [h]
      · by_cases h2 : k y = some .local
        · simp [h2, q]
        · simp [h2, q]
    · rw [if_neg h, if_neg h]
      by_cases h2 : k y = some .local
      · have : x ≠ y := fun q => h (q ▸ h2)
        simp [h2, this]
      · simp [h2]
theorem bindC_eq (k : Str → Option NameKind) : ∀ (binds : List (Str × Value)) (m : Loc) (x : Str), bindC k binds m x = if k x = some .local then m x else (binds.reverse.lookup x).or (m x)
  | [], m, x => by simp [bindC]
  | (y, v) :: r, m, x => by
    rw [bindC, bindC_eq k r]
    have e : ((y, v) :: r).reverse.lookup x = (r.reverse.lookup x).or (if x = y then some v else none) := by
      rw [List.reverse_cons, List.lookup_append]
      congr 1
      by_cases q : x = y
      · subst q; simp [List.lookup]
      · have : (x == y) = false := by simpa using q
        simp [List.lookup, this, q]
    rw [e]
    by_cases h : k x = some .local
    · rw [if_pos h, if_pos h]
      by_cases h2 : k y = some .local
      · simp [h2]
      · have : x ≠ y := fun q => h2 (q ▸ h)
        simp [h2, this]
    · rw [if_neg h, if_neg h, Option.or_assoc]
      congr 1
      by_cases q : x = y
      · subst q; simp [h]
      · by_cases h2 : k y = some .local
        · simp [h2, q]
        · simp [h2, q]
theorem cf_apart : ∀ (names : List (Str × NameKind)) (n : Nat) (acc : List (Str × Addr)), (∀ p ∈ acc, p.2 < n) → acc.Pairwise (fun x y => x.2 ≠ y.2) → (cellsFrom n names acc).Pairwise fun x y => x.2 ≠ y.2
  | [], _, _, _, h => h
  | (y, k) :: r, n, acc, h1, h2 => by
    unfold cellsFrom
    split
    · refine cf_apart r (n + 1) _ (fun p hp => ?_) (List.pairwise_cons.mpr ⟨fun p hp => Nat.ne_of_gt (h1 p hp), h2⟩)
      rcases List.mem_cons.mp hp with rfl | hp
      · exact Nat.lt_succ_self _
      · exact Nat.lt_succ_of_lt (h1 p hp)
    · exact cf_apart r n acc h1 h2
theorem mem_of_look {l : List (Str × Addr)} {x : Str} {a : Addr} (h : l.lookup x = some a) : (x, a) ∈ l := by
  induction l with
  | nil => cases h
  | cons p r ih =>
    rw [List.lookup_cons] at h
    by_cases q : (x == p.1) = true
    · rw [q] at h; cases h; rw [eq_of_beq q]; exact .head _
    · have : (x == p.1) = false := by simpa using q
      rw [this] at h; exact .tail _ (ih h)
theorem apart_inj {l : List (Str × Addr)} (h : l.Pairwise fun x y => x.2 ≠ y.2) {x y : Str} {a : Addr} (hx : (x, a) ∈ l) (hy : (y, a) ∈ l) : x = y := by
  induction l with
  | nil => cases hx
  | cons p r ih =>
    obtain ⟨h1, h2⟩ := List.pairwise_cons.mp h
    rcases List.mem_cons.mp hx with e | hx
    · rcases List.mem_cons.mp hy with e' | hy
      · rw [← e'] at e; exact (Prod.mk.inj e).1
      · exact absurd (by rw [← e]) (h1 _ hy)
    · rcases List.mem_cons.mp hy with e' | hy
      · exact absurd (by rw [← e']) (h1 _ hx)
      · exact ih h2 hx hy
theorem cells_at {cm : Loc} {cs : List (Str × Addr)} {cells : List (Addr × Obj)} (Y : CellsAre cm cs cells) {x : Str} {a : Addr} (h : cs.lookup x = some a) : ∃ o, (a, o) ∈ cells ∧ o.data = .cell (cm x) := by
  induction Y with
  | nil => cases h
  | @cons y c o cs cells hd _ ih =>
    rw [List.lookup_cons] at h
    by_cases q : (x == y) = true
    · rw [q] at h; cases h; rw [eq_of_beq q]; exact ⟨_, .head _, hd⟩
    · have : (x == y) = false := by simpa using q
      rw [this] at h
      obtain ⟨o, ho, hd⟩ := ih h
      exact ⟨o, .tail _ ho, hd⟩
/-- a frame with cells, entered -/
theorem frm_cells {c : Cx} {h₁ : Heap} {binds : List (Str × Value)} {cells : List (Addr × Obj)} {k : Nat} (hc : c.env.cells = cellsFrom k c.env.scope.names [])
    (F : Fr c.h₀ c.env.locals h₁ (bindL c.env.kindOf binds fun _ => none)) (N : News c.h₀ c.env.locals h₁ cells) (Y : CellsAre (bindC c.env.kindOf binds fun _ => none) c.env.cells cells)
    (hkind : ∀ y ∈ binds, c.env.kindOf y.1 = some .local ∨ c.env.kindOf y.1 = some .cell) (hcl : ∀ x a, c.env.cells.lookup x = some a → c.env.kindOf x = some .cell) (hcl' : ∀ x, c.env.kindOf x = some .cell → (c.env.cells.lookup x).isSome = true) :
    Frm c h₁ (fun y => binds.reverse.lookup y) := by
  have e1 : loc c (fun y => binds.reverse.lookup y) = bindL c.env.kindOf binds fun _ => none := by
    funext x
    rw [bindL_eq]
    unfold loc
    cases q : c.env.cells.lookup x with
    | some a => rw [hcl x a q]; simp
    | none =>
      simp only [Option.isSome_none, Bool.false_eq_true, if_false]
      by_cases h : c.env.kindOf x = some .local
      · rw [if_pos h]; simp
      · rw [if_neg h]
        cases z : binds.reverse.lookup x with
        | none => rfl
        | some v =>
          exfalso
          have mem : ∃ y ∈ binds, y.1 = x := by
            have : ∀ l : List (Str × Value), l.lookup x = some v → ∃ y ∈ l, y.1 = x := by
              intro l
              induction l with
              | nil => intro h; cases h
              | cons p r ih =>
                intro h
                rw [List.lookup_cons] at h
                by_cases q : (x == p.1) = true
                · exact ⟨p, .head _, (eq_of_beq q).symm⟩
                · have : (x == p.1) = false := by simpa using q
                  rw [this] at h
                  obtain ⟨y, hy, e⟩ := ih h
                  exact ⟨y, .tail _ hy, e⟩
            obtain ⟨y, hy, e⟩ := this _ z
            exact ⟨y, List.mem_reverse.mp hy, e⟩
          obtain ⟨y, hy, e⟩ := mem
          rcases hkind y hy with k | k
          · exact h (e ▸ k)
          · have := hcl' x (e ▸ k); rw [q] at this; cases this
  have ap : c.env.cells.Pairwise fun x y => x.2 ≠ y.2 := by rw [hc]; exact cf_apart _ _ _ (fun _ h => nomatch h) List.Pairwise.nil
  refine ⟨e1 ▸ F, fun x a hx => ?_, fun x a hx => ?_, fun x y a hx hy => apart_inj ap (mem_of_look hx) (mem_of_look hy)⟩
  · obtain ⟨o, ho, hd⟩ := cells_at Y hx
    refine ⟨o, (N _ ho).1, ?_⟩
    rw [hd, bindC_eq, hcl x a hx]; simp
  · obtain ⟨o, ho, _⟩ := cells_at Y hx
    exact ⟨(N _ ho).2.1, (N _ ho).2.2⟩
theorem cf_kind : ∀ (names : List (Str × NameKind)) (k : Nat) (acc : List (Str × Addr)) (p : Str × Addr), p ∈ cellsFrom k names acc → p ∈ acc ∨ (p.1, NameKind.cell) ∈ names
  | [], _, _, _, h => .inl h
  | (y, kd) :: r, k, acc, p, h => by
    unfold cellsFrom at h
    split at h
    · rename_i hk
      rcases cf_kind r (k + 1) _ p h with q | q
      · rcases List.mem_cons.mp q with rfl | q
        · exact .inr (by rw [eq_of_beq hk]; exact .head _)
        · exact .inl q
      · exact .inr (.tail _ q)
    · rcases cf_kind r k acc p h with q | q
      · exact .inl q
      · exact .inr (.tail _ q)
/-- no name stands twice in the table -/
def onceNames (l : List (Str × NameKind)) : Bool := (l.map (·.1)).eraseDups.length == l.length
theorem look_mem_nodup {l : List (Str × NameKind)} (h : (l.map (·.1)).Nodup) {x : Str} {k : NameKind} (hm : (x, k) ∈ l) : l.lookup x = some k := by
  induction l with
  | nil => cases hm
  | cons p r ih =>
    rw [List.lookup_cons]
    obtain ⟨h1, h2⟩ := List.nodup_cons.mp h
    rcases List.mem_cons.mp hm with rfl | hm
    · simp
    · have : (x == p.1) = false := by
        apply beq_eq_false_iff_ne.mpr
        intro e
        exact h1 (List.mem_map.mpr ⟨(x, k), hm, e⟩)
      rw [this]; exact ih h2 hm

theorem fn_of_bodyC {g : Pg} {f : Addr} {args : List Value} {Q X : Value → Store → Prop} {name qual : Str} {params : Arguments} {body : List Stmt} {scope : Scope} {dV kV doc pm cdv ct oc : Value} {an od : Option Addr} {osl : Array (Option Value)} {binds : List (Str × Value)}
    (ho : g.K.lookup f = some ⟨oc, od, .func (fnX name qual params body scope [] dV kV doc pm an cdv ct), osl⟩) (hcd : codeIn g.K cdv qual = true)
    (hb : bindArgs (fnX name qual params body scope [] dV kV doc pm an cdv ct) ⟨args, []⟩ = pure binds) (hkind : (binds.all fun y => scope.names.lookup y.1 == some .local || scope.names.lookup y.1 == some .cell) = true)
    (hnd : (scope.names.map (·.1)).Nodup) (hco : scope.isCoroutine = false) (hgen : scope.isGenerator = false) (hk : scope.kind = .function)
    (h : ∀ c : Cx, c.g = g → Gnd n c → c.env.scope = scope → c.env.cells = cellsFrom (c.env.locals + 1) scope.names [] → W c (execs body c.env) (fun y => binds.reverse.lookup y) σ (fun fl _ σ' => Q (match fl with | .ret v => v | _ => .none) σ') (fun _ _ _ => False)) :
    Fn g (n + 1) (.ref f) args σ Q X := by
  intro A env h₀ m s G F S
  obtain ⟨A₀, outer, B, hA⟩ := G.B
  dsimp only at B hA
  have hfr : env.frame = some env.locals := G.fr
  have hke : env.scope.kind = .function := G.knd
  have N := all_news ⟨g, A, env, h₀⟩ s.heap
  have KX : g.K.In s.heap := G.now F
  have hnd' : ((cellsFrom 0 scope.names []).map (·.1)).Nodup := by
    have : ∀ (names : List (Str × NameKind)) (k : Nat) (acc : List (Str × Addr)), (names.map (·.1)).Nodup → (acc.map (·.1)).Nodup → (∀ p ∈ acc, p.1 ∉ names.map (·.1)) → ((cellsFrom k names acc).map (·.1)).Nodup := by
      intro names
      induction names with
      | nil => intro k acc _ h _; exact h
      | cons p r ih =>
        obtain ⟨y, kd⟩ := p
        intro k acc h1 h2 h3
        obtain ⟨a1, a2⟩ := List.nodup_cons.mp h1
        unfold cellsFrom
        split
        · refine ih (k + 1) _ a2 (List.nodup_cons.mpr ⟨fun q => ?_, h2⟩) fun p hp => ?_
          · obtain ⟨p, hp, e⟩ := List.mem_map.mp q
            exact h3 p hp (by rw [e]; exact .head _)
          · rcases List.mem_cons.mp hp with rfl | hp
            · exact a1
            · exact fun q => h3 p hp (.tail _ q)
        · exact ih k acc a2 h2 fun p hp q => h3 p hp (.tail _ q)
    exact this _ 0 [] hnd List.nodup_nil (fun _ h => nomatch h)
  refine callX_cells B F.F N G.T.nolimit hA hfr hke (KX _ _ ho) rfl (codeRec_of KX hcd) (by have := G.dep; dsimp only at this; omega) (BindsTo.of_eq hb) (kindsX hkind) hnd' ?_ hco hgen hk
  intro g' L' h₁ tk cells FG F' N' Y B' st young
  let c' : Cx := ⟨g, A.deeper (envOfC qual scope L' f cdv), envOfC qual scope L' f cdv, g'⟩
  have G' : Gnd n c' := by
    refine ⟨⟨A, env :: outer, B', by show (A.frames.map _) = _; rw [hA]; rfl⟩, rfl, hk, rfl, rfl, G.X.keeps st, G.T.keeps st, G.hh, ?_, ?_, G.base.at fun o e => st _ o e, G.XB, G.TB, G.baseB⟩
    · have := G.dep
      show A.depth + 1 + 2 * n < recursionLimit
      dsimp only at this; omega
    · have := G.un
      show A.units + 3 + 20 * n + 20 < cLine
      dsimp only at this; omega
  have hbk : ∀ y ∈ binds, c'.env.kindOf y.1 = some .local ∨ c'.env.kindOf y.1 = some .cell := fun y hy => by
    have := List.all_eq_true.mp hkind y hy
    rcases Bool.or_eq_true_iff.mp this with q | q
    · exact .inl (beq_iff_eq.mp q)
    · exact .inr (beq_iff_eq.mp q)
  have hcl : ∀ x a, c'.env.cells.lookup x = some a → c'.env.kindOf x = some .cell := fun x a hx => by
    rcases cf_kind scope.names (L' + 1) [] (x, a) (mem_of_look hx) with q | q
    · cases q
    · exact look_mem_nodup hnd q
  have NC : News g' L' h₁ cells := fun p hp => N' p (List.mem_append.mpr (.inl hp))
  have NO : News g' L' h₁ (allOf ⟨g, A, env, h₀⟩ s.heap) := fun p hp => N' p (List.mem_append.mpr (.inr hp))
  have F1 : Frm c' h₁ (fun y => binds.reverse.lookup y) := frm_cells (k := L' + 1) rfl F' NC Y hbk hcl fun x hx => cellsFrom_some _ _ _ (.inl hx)
  have yng : ∀ b o, s.heap.get? b = some o → ¬ FA c' b := by
    intro b o e q
    have hlt : b < L' := by
      by_cases l : b = env.locals
      · obtain ⟨oL, _, _, hL, _⟩ := FG.ns
        exact Nat.lt_of_lt_of_le (Heap.lt_size (show g'.get? b = some oL from l ▸ hL)) F'.above
      · cases q : h₀.get? b with
        | some y => exact Nat.lt_of_lt_of_le (Heap.lt_size (st b y q)) F'.above
        | none => exact young (b, o) (mem_lst.mpr ⟨Heap.lt_size e, full_some.mpr ⟨l, q, e⟩⟩)
    rcases q with q | ⟨x, hx⟩
    · have hb : b = L' := q
      rw [hb] at hlt; exact absurd hlt (Nat.lt_irrefl _)
    · have ge : ∀ (names : List (Str × NameKind)) (k : Nat) (acc : List (Str × Addr)), (∀ p ∈ acc, L' < p.2) → L' < k → ∀ p ∈ cellsFrom k names acc, L' < p.2 := by
        intro names
        induction names with
        | nil => intro k acc h _; exact h
        | cons p r ih =>
          obtain ⟨y, kd⟩ := p
          intro k acc h1 h2
          unfold cellsFrom
          split
          · exact ih (k + 1) _ (fun p hp => by rcases List.mem_cons.mp hp with rfl | hp; exact h2; exact h1 p hp) (Nat.lt_succ_of_lt h2)
          · exact ih k acc h1 h2
      have := ge scope.names (L' + 1) [] (fun _ h => nomatch h) (Nat.lt_succ_self _) (x, b) (mem_of_look hx)
      exact absurd (Nat.lt_trans this hlt) (Nat.lt_irrefl _)
  have S1 : Sto c' h₁ σ := fun a o e => by
    have mem : (a, o) ∈ allOf ⟨g, A, env, h₀⟩ s.heap := mem_lst.mpr ⟨S.lt e, S.full (c := ⟨g, A, env, h₀⟩) a o e⟩
    exact ⟨(NO _ mem).1, yng a o (S a o e).1, (NO _ mem).2.2⟩
  have key := h c' rfl G' rfl rfl { s with heap := h₁, toks := tk } F1 S1
  have back := fun {h' : Heap} {m'' : Loc} {σ' : Store} => called_back (c := ⟨g, A, env, h₀⟩) (c' := c') (m := m) (m' := fun y => binds.reverse.lookup y) (s := s) (σ := σ) (h₁ := h₁) (h' := h') (m'' := m'') (σ' := σ') F FG st NO F1.F yng S
  refine wpAny_mono key (fun fl s' Aft => ?_) fun e s' Aft => ?_
  · obtain ⟨h', tk, m', σ', rfl, F'', S'', x, q⟩ := Aft
    obtain ⟨a1, a2, a3⟩ := back F'' S'' x
    exact ⟨L', _, [], F''.F, fun _ hp => (nomatch hp), fun _ _ => ⟨h', tk, m, σ', rfl, a1, a2, a3, rfl, q⟩⟩
  · exact Aft.no.elim
end
end Mine

open PySem PySem.W PySem.Calls PyProof.Rows
namespace Mine
section
variable {n : Nat} {c : Cx} {env : Env} {α : Type} {m : Loc} {σ : Store} {X : Value → Loc → Store → Prop}

theorem updated {s : Shared} {d : Addr} {o o' : Obj} {f : Obj → Obj} (F : Frm c s.heap m) (S : Sto c s.heap σ) (hd : σ d = some o) (e : f o = o') (hf : o'.isFreed = false) :
    Frm c (s.heap.update d f) m ∧ Sto c (s.heap.update d f) (upd σ d o') ∧ Fra c σ s.heap (s.heap.update d f) (upd σ d o') := by
  obtain ⟨l', U, back⟩ := turned (o' := o') F S hd
  obtain ⟨pre, post, e1, e2, h1, h2⟩ := U.split
  have N := all_news c s.heap
  rw [e1] at N
  obtain ⟨a, b⟩ := news_upd (f := f) F.F N h1 h2 e hf
  rw [← e2] at b
  exact back _ a b

/-! ### a class called -/
theorem fn_make {g : Pg} {C fI : Addr} {args : List Value} {Q X : Value → Store → Prop} (hm : makesIn g.K C = true) (hi : findIn g.K (.ref C) "__init__" = some (some (.ref fI))) (hf : isFn g.K (.ref fI) = true)
    (h : ∀ x dx, σ x = none → σ dx = none → x ≠ dx → Fn g n (.ref fI) (.ref x :: args) (upd (upd σ dx (dictOf [] 0)) x (instObj C dx)) (fun v σ' => v = .none ∧ Q (.ref x) σ') X) : Fn g (n + 1) (.ref C) args σ Q X := by
  intro A env h₀ m s G F S
  refine W.make_K F.F (all_news ⟨g, A, env, h₀⟩ s.heap) (G.now F) hm hi (beq_iff_eq.mp hf) fun x dx h' F' N' hlt hxd => ?_
  have G' : Gnd n ⟨g, A.under (.builtin "type.__call__" ⟨.ref C :: args, []⟩), env, h₀⟩ := by
    obtain ⟨A₀, outer, B, hA⟩ := G.B
    refine ⟨⟨A₀, outer, B, hA⟩, G.fr, G.knd, G.glob, G.bi, G.X, G.T, G.hh, ?_, ?_, G.base, G.XB, G.TB, G.baseB⟩
    · have := G.dep
      show A.depth + 1 + 2 * n < recursionLimit
      dsimp only at this; omega
    · have := G.un
      show A.units + 1 + 20 * n + 20 < cLine
      dsimp only at this; omega
  have new : ∀ b o, s.heap.get? b = some o → b ≠ env.locals → h'.get? b = some o := fun b o e l => kept_of (c := ⟨g, A, env, h₀⟩) F F' e l fun z => (N' (b, o) (.tail _ (.tail _ (mem_lst.mpr ⟨Heap.lt_size e, z⟩)))).1
  have hdx : s.heap.get? dx = none := by
    cases q : s.heap.get? dx with
    | none => rfl
    | some o =>
      exfalso
      have N2 := (N' (dx, emptyDict) (.tail _ (.head _)))
      by_cases l : dx = env.locals
      · exact N2.2.1 l
      · exact absurd (hlt (dx, o) (mem_lst.mpr ⟨Heap.lt_size q, full_some.mpr ⟨l, N2.2.2, q⟩⟩)) (Nat.lt_irrefl _)
  have hx : s.heap.get? x = none := by
    cases q : s.heap.get? x with
    | none => rfl
    | some o =>
      exfalso
      have N2 := (N' (x, instObj C dx) (.head _))
      by_cases l : x = env.locals
      · exact N2.2.1 l
      · exact absurd (Nat.lt_trans hxd (hlt (x, o) (mem_lst.mpr ⟨Heap.lt_size q, full_some.mpr ⟨l, N2.2.2, q⟩⟩))) (Nat.lt_irrefl _)
  have F1 : Frm ⟨g, A, env, h₀⟩ h' m := F.on F' fun y b hb o e => new b o e (F.off y b hb).1
  have none_of : ∀ a, s.heap.get? a = none → σ a = none := fun a e => by
    cases q : σ a with
    | none => rfl
    | some o => rw [(S a o q).1] at e; cases e
  have hne : x ≠ dx := Nat.ne_of_gt hxd
  have S1 : Sto ⟨g, A, env, h₀⟩ h' (upd (upd σ dx (dictOf [] 0)) x (instObj C dx)) := fun a o e => by
    by_cases q : a = x
    · subst q; rw [upd_same] at e; cases e
      have := N' (a, instObj C dx) (.head _)
      exact ⟨this.1, F.notNew hx, this.2.2⟩
    · rw [upd_ne q] at e
      by_cases q2 : a = dx
      · subst q2; rw [upd_same] at e; cases e
        have := N' (a, emptyDict) (.tail _ (.head _))
        exact ⟨this.1, F.notNew hdx, this.2.2⟩
      · rw [upd_ne q2] at e
        exact ⟨new a o (S a o e).1 fun z => (S a o e).2.1 (.inl z), (S a o e).2⟩
  have fx : Fra ⟨g, A, env, h₀⟩ σ s.heap h' (upd (upd σ dx (dictOf [] 0)) x (instObj C dx)) := ⟨fun b o e _ l => new b o e fun z => l (.inl z), fun a o e => by
    by_cases q : a = x
    · subst q; exact .inr hx
    · rw [upd_ne q] at e
      by_cases q2 : a = dx
      · subst q2; exact .inr hdx
      · rw [upd_ne q2] at e; exact .inl (by rw [e]; exact fun q => nomatch q)⟩
  refine codeAny_mono (h x dx (none_of x hx) (none_of dx hdx) hne _ env h₀ m { s with heap := h' } G' ⟨F1.F, F1.cell, F1.off, F1.inj⟩ (fun a o e => S1 a o e)) fun r s' z => ?_
  rcases r with e | (_ | _ | _ | v)
  · rcases z with ⟨⟨h2, tk, m2, σ2, rfl, F2, S2, x2, q⟩, r⟩ | ⟨h2, tk, m2, σ2, e', C', rfl, rfl, ⟨⟨B, a0, outer, f1, f2, f3, f4, f5, f6⟩, ns, off, grow⟩, q⟩
    · have x3 : Fra ⟨g, A, env, h₀⟩ _ h' h2 σ2 := ⟨x2.kept, x2.grow⟩
      exact .inl ⟨⟨h2, tk, m2, σ2, rfl, ⟨F2.F, F2.cell, F2.off, F2.inj⟩, fun a o e => S2 a o e, fx.trans x3 (fun a o e => S2 a o e), q⟩, r⟩
    · have fl : Flies ⟨g, A, env, h₀⟩ _ h' h2 m2 σ2 e' C' := ⟨⟨B, a0, outer, f1, f2, f3, f4, f5, f6⟩, ns, off, grow⟩
      exact .inr ⟨h2, tk, m2, σ2, e', C', rfl, rfl, fl.on (s := s) (s₁ := { s with heap := h' }) (tk := s.toks) rfl fx, q⟩
  · exact z
  · exact z
  · exact z
  · obtain ⟨h2, tk, m2, σ2, rfl, F2, S2, x2, q1, q2, q3⟩ := z
    have x3 : Fra ⟨g, A, env, h₀⟩ _ h' h2 σ2 := ⟨x2.kept, x2.grow⟩
    exact ⟨q2, h2, tk, m2, σ2, rfl, ⟨F2.F, F2.cell, F2.off, F2.inj⟩, fun a o e => S2 a o e, fx.trans x3 (fun a o e => S2 a o e), q1, q3⟩

/-! ### the law's own call -/
theorem top_call {g : Pg} {s₁ : Shared} {name : Str} {params : Arguments} {body : List Stmt} {scope : Scope} {pm cd doc : Value} {fa : Addr} {o : Obj} {args : List Value} {binds : List (Str × Value)}
    (T : Top g.p g.loose g.mean g.mg g.mb s₁.heap) (KX : g.K.In s₁.heap) (hbase : s₁.heap.IsList g.bl g.bv.toArray) (hgh : g.h = s₁.heap) (ho : s₁.heap.get? fa = some o) (hd : o.data = .func (docDef name params body scope pm cd doc)) (hcd : s₁.heap.CodeRec cd name)
    (hb : bindArgs (docDef name params body scope pm cd doc) ⟨args, []⟩ = pure binds) (hkind : (binds.all fun y => scope.names.lookup y.1 == some .local || scope.names.lookup y.1 == some .cell) = true)
    (hnd : (scope.names.map (·.1)).Nodup) (hnd' : ((cellsFrom 0 scope.names []).map (·.1)).Nodup) (hco : scope.isCoroutine = false) (hgen : scope.isGenerator = false) (hk : scope.kind = .function)
    (h : ∀ c : Cx, c.g = g → Gnd 300 c → c.env.scope = scope → c.env.cells = cellsFrom (c.env.locals + 1) scope.names [] → c.h₀ = s₁.heap → c.A.frames = some [c.env] →
      W c (execs body c.env) (fun y => binds.reverse.lookup y) (fun _ => none) (fun fl _ _ => (match fl with | .ret v => v | _ => .none) = .bool true) NoX) :
    codeAny (model g.prog g.w) callerA (.call (.ref fa) ⟨args, []⟩) (fun r s' => r = .ok (.ret (.bool true)) ∧ (∀ b o, s₁.heap.get? b = some o → s'.heap.get? b = some o) ∧ s'.os = s₁.os ∧ s'.gens = s₁.gens) s₁ := by
  refine call_cellsN (by decide) ho hd T.nolimit hcd hb (fun x hx => kindsX hkind _ x hx) hnd' ?_ hco hgen hk
  intro h₁ tk cells F' NC Y
  let c' : Cx := ⟨g, callerA.deeper (envOfC name scope s₁.heap.objs.size fa cd), envOfC name scope s₁.heap.objs.size fa cd, s₁.heap⟩
  have G' : Gnd 300 c' := ⟨⟨callerA, [], by show Below callerA g.h [] s₁.heap; rw [hgh]; exact below_caller s₁.heap, rfl⟩, rfl, hk, rfl, rfl, KX, T, rfl, by show 1 + claimMargin + 1 + 2 * 300 < recursionLimit; decide, by show 4 + 3 + 20 * 300 + 20 < cLine; decide, hbase, by show g.K.In g.h; rw [hgh]; exact KX, by show Top g.p g.loose g.mean g.mg g.mb g.h; rw [hgh]; exact T, by show g.h.IsList g.bl g.bv.toArray; rw [hgh]; exact hbase⟩
  have hbk : ∀ y ∈ binds, c'.env.kindOf y.1 = some .local ∨ c'.env.kindOf y.1 = some .cell := fun y hy => by
    have := List.all_eq_true.mp hkind y hy
    rcases Bool.or_eq_true_iff.mp this with q | q
    · exact .inl (beq_iff_eq.mp q)
    · exact .inr (beq_iff_eq.mp q)
  have hcl : ∀ x a, c'.env.cells.lookup x = some a → c'.env.kindOf x = some .cell := fun x a hx => by
    rcases cf_kind scope.names (s₁.heap.objs.size + 1) [] (x, a) (mem_of_look hx) with q | q
    · cases q
    · exact look_mem_nodup hnd q
  have F1 : Frm c' h₁ (fun y => binds.reverse.lookup y) := frm_cells (k := s₁.heap.objs.size + 1) rfl F' NC Y hbk hcl fun x hx => cellsFrom_some _ _ _ (.inl hx)
  have S1 : Sto c' h₁ (fun _ => none) := fun _ _ e => nomatch e
  refine wpAny_mono (h c' rfl G' rfl rfl rfl rfl { s₁ with heap := h₁, toks := tk } F1 S1) (fun fl s' A => ?_) fun e s' A => ?_
  · obtain ⟨h', tk', m', σ', rfl, F2, S2, x2, q⟩ := A
    exact ⟨congrArg (fun v => Except.ok (Flow.ret v)) q, fun b o e => F2.keep b o e, rfl, rfl⟩
  · exact A.no.elim
end
theorem good_true (l : OpenLaw) {cl : Str → Option Addr} {mean : ExcName → Option Value} {args : List WData} {s₁ s' : Shared} (hk : ∀ b o, s₁.heap.get? b = some o → s'.heap.get? b = some o) (hos : s'.os = s₁.os) (hg : s'.gens = #[]) :
    GoodW l.row.claim cl mean args s₁ (.ok (.ret (.bool true))) s' :=
  ⟨.inl ⟨.bool true, .bool true, [], rfl, fun _ => rfl, .bool true, postW_of (r := l.row.toRowW) (X := (true == true)) rfl (w_eq_bool (R := l.row.records) (a := .res) (b := .lit (.bool true)) (k := true) (l := true) (w_res rfl) w_lit) rfl, fun _ => ⟨List.nodup_nil, fun _ h => nomatch h⟩⟩, hk, hos, hg⟩
end Mine

open PySem PySem.W PySem.Calls PyProof.Rows
namespace Mine
abbrev NoE : Value → Store → Prop := fun _ _ => False
/-- a branch -/
def Br (b : Bool) (P Q : Prop) : Prop := (b = true → P) ∧ (b = false → Q)
theorem br_true {P Q : Prop} (h : P) : Br true P Q := ⟨fun _ => h, fun e => nomatch e⟩
theorem br_false {P Q : Prop} (h : Q) : Br false P Q := ⟨fun e => (nomatch e), fun _ => h⟩
theorem br_not {b : Bool} {P Q : Prop} (h : Br b Q P) : Br (!b) P Q := by
  cases b with
  | true => exact br_false (h.1 rfl)
  | false => exact br_true (h.2 rfl)
theorem br_dec {p : Prop} [Decidable p] {P Q : Prop} (h1 : p → P) (h2 : ¬ p → Q) : Br (decide p) P Q := ⟨fun e => h1 (of_decide_eq_true e), fun e => h2 (of_decide_eq_false e)⟩
theorem br_beq {a b : Int} {P Q : Prop} (h1 : a = b → P) (h2 : a ≠ b → Q) : Br (a == b) P Q := ⟨fun e => h1 (eq_of_beq e), fun e => h2 (ne_of_beq_false e)⟩
theorem br_bne {a b : Int} {P Q : Prop} (h1 : a ≠ b → P) (h2 : a = b → Q) : Br (a != b) P Q := ⟨fun e => h1 (bne_iff_ne.mp e), fun e => h2 (by simpa using e)⟩
theorem br_any {b : Bool} {P Q : Prop} (h1 : b = true → P) (h2 : b = false → Q) : Br b P Q := ⟨h1, h2⟩

section
variable {n : Nat} {c : Cx} {env : Env} {sc : Scope} {α : Type} {m : Loc} {σ : Store} {X : Value → Loc → Store → Prop} {x : Str} {pos pos' : Pos} {v : Value}
theorem kind_is {k : NameKind} (hs : c.env.scope = sc) (hx : sc.names.lookup x = some k) : c.env.kindOf x = some k := by unfold Env.kindOf; rw [hs]; exact hx
theorem nocell (hc : c.env.cells = []) : c.env.cells.lookup x = none := by rw [hc]; rfl
theorem n_local {Q : Value → Loc → Store → Prop} (g : Gnd n c) (hs : c.env.scope = sc) (hc : c.env.cells = []) (hx : sc.names.lookup x = some .local) (hd : (x == ("__debug__" : Str)) = false) (hv : m x = some v) (h : Q v m σ) :
    W c (eval (.Name x pos) c.env) m σ Q X := w_local g.knd (kind_is hs hx) (nocell hc) hd hv h
theorem n_store {Q : Unit → Loc → Store → Prop} (g : Gnd n c) (hs : c.env.scope = sc) (hc : c.env.cells = []) (hx : sc.names.lookup x = some .local) (h : Q () (setM m x v) σ) : W c (storeName c.env x v) m σ Q X :=
  w_store g.knd (kind_is hs hx) (nocell hc) h
theorem n_glob {Q : Value → Loc → Store → Prop} (g : Gnd n c) (hs : c.env.scope = sc) (hx : sc.names.lookup x = some .globalImplicit) (hd : (x == ("__debug__" : Str)) = false) (hv : nsIn c.g.K mainGlobals x = some (some v)) (h : Q v m σ) :
    W c (eval (.Name x pos) c.env) m σ Q X := w_glob g g.ok (kind_is hs hx) hd (mg_of g.X g.T.g hv) h
theorem n_built {Q : Value → Loc → Store → Prop} (g : Gnd n c) (hs : c.env.scope = sc) (hx : sc.names.lookup x = some .globalImplicit) (hd : (x == ("__debug__" : Str)) = false) (hm : nsIn c.g.K mainGlobals x = some none) (hn : x ≠ "__name__") (hv : bootBuiltins x = some v) (h : Q v m σ) :
    W c (eval (.Name x pos) c.env) m σ Q X := w_built g g.ok (kind_is hs hx) hd (mg_none_of g.X g.T.g hm) hn hv h

/-! ### statements, with what follows -/
theorem execs_append (a b : List Stmt) (env : Env) : execs (a ++ b) env = (execs a env >>= fun f => match f with | .next => execs b env | f => pure f) := by
  induction a with
  | nil => show execs b env = (pure Flow.next >>= _); rfl
  | cons s r ih =>
    show (exec s env >>= fun f => match f with | .next => execs (r ++ b) env | f => pure f) = ((exec s env >>= fun f => match f with | .next => execs r env | f => pure f) >>= _)
    rw [bind_assoc]
    congr 1
    funext f
    cases f with
    | next => exact ih
    | _ => rfl
theorem w_appends {a b : List Stmt} {Q : Flow → Loc → Store → Prop} (h : W c (execs a env) m σ (fun f m' σ' => match f with | .next => W c (execs b env) m' σ' Q X | f => Q f m' σ') X) : W c (execs (a ++ b) env) m σ Q X := by
  rw [execs_append]
  refine W.bind (h.mono (fun f m' σ' q => ?_) fun _ _ _ q => q)
  cases f with
  | next => exact q
  | brk => exact W.pure q
  | cont => exact W.pure q
  | ret v => exact W.pure q
variable {rest : List Stmt} {Q : Flow → Loc → Store → Prop}
theorem x_nil (h : Q .next m σ) : W c (execs [] env) m σ Q X := w_execs_nil h
theorem x_assign {value : Expr} (hs : swapsWith value (some (.Name x pos')) pos.line env = Pure.pure false)
    (h : W c (eval value env) m σ (fun v m' σ' => W c (storeName env x v) m' σ' (fun _ m₂ σ₂ => W c (execs rest env) m₂ σ₂ Q X) X) X) : W c (execs (.Assign [.Name x pos'] value pos :: rest) env) m σ Q X :=
  w_execs_cons (w_assign hs h)
theorem x_attr {o value : Expr} {attr : Str} (hs : swapsWith value (some (.Attribute o attr pos')) pos.line env = Pure.pure false)
    (h : W c (eval value env) m σ (fun v m' σ' => W c (eval o env) m' σ' (fun ov m₂ σ₂ => W c (setAttr ov attr v) m₂ σ₂ (fun _ m₃ σ₃ => W c (execs rest env) m₃ σ₃ Q X) X) X) X) : W c (execs (.Assign [.Attribute o attr pos'] value pos :: rest) env) m σ Q X :=
  w_execs_cons (w_assign_attr hs h)
theorem x_ret {e : Expr} (h : W c (eval e env) m σ (fun v m' σ' => Q (.ret v) m' σ') X) : W c (execs (.Return (some e) pos :: rest) env) m σ Q X := w_execs_cons (w_ret h)
theorem x_pass (h : W c (execs rest env) m σ Q X) : W c (execs (.Pass pos :: rest) env) m σ Q X := w_execs_cons (w_pass h)
theorem x_expr {e : Expr} (hi : interactive env = false) (hs : swapsWith e none pos.line env = Pure.pure false) (h : W c (eval e env) m σ (fun _ m' σ' => W c (execs rest env) m' σ' Q X) X) : W c (execs (.Expr e pos :: rest) env) m σ Q X := w_execs_cons (w_expr h hi hs)
theorem x_if {test : Expr} {body orelse : List Stmt}
    (h : W c (isTrue test env (eval test env)) m σ (fun b m' σ' => Br b (W c (execs (body ++ rest) env) m' σ' Q X) (W c (execs (orelse ++ rest) env) m' σ' Q X)) X) :
    W c (execs (.If test body orelse pos :: rest) env) m σ Q X := by
  have e : execs (.If test body orelse pos :: rest) env = (standAt pos >>= fun _ => isTrue test env (eval test env) >>= fun b => if b then execs (body ++ rest) env else execs (orelse ++ rest) env) := by
    show ((standAt pos >>= fun _ => isTrue test env (eval test env) >>= fun b => if b then execs body env else execs orelse env) >>= fun f => match f with | .next => execs rest env | f => pure f) = _
    simp only [bind_assoc]
    congr 1
    funext _
    congr 1
    funext b
    cases b with
    | true => exact (execs_append body rest env).symm
    | false => exact (execs_append orelse rest env).symm
  rw [e]
  refine W.bind (fun s F S => wpAny_standAt (After.here F S ?_))
  refine W.bind (h.mono (fun b m' σ' q => ?_) fun _ _ _ q => q)
  cases b with
  | true => exact q.1 rfl
  | false => exact q.2 rfl
theorem x_for {tp : Pos} {iter : Expr} {body : List Stmt}
    (h : W c (eval iter env) m σ (fun v m₁ σ₁ => Turns c x tp body v m₁ σ₁ (fun f m' σ' => match f with | .next => W c (execs rest env) m' σ' Q X | f => Q f m' σ')) X) (he : env = c.env)
    (hs : ∀ x, foldedSetIterable iter env x = Pure.pure x) : W c (execs (.For (.Name x tp) iter body [] pos :: rest) env) m σ Q X := by
  subst he
  exact w_execs_cons (w_for h hs)

/-! ### tests with branches -/
theorem b_and {y : Expr} {l : List Expr} {whole : Sem Value} {Q : Bool → Loc → Store → Prop}
    (h : W c (isTrue y env (eval y env)) m σ (fun b m' σ' => Br b (W c (isTrue (.BoolOp .And l pos) env whole) m' σ' Q X) (Q false m' σ')) X) : W c (isTrue (.BoolOp .And (y :: l) pos) env whole) m σ Q X :=
  t_and (h.mono (fun b _ _ q => by cases b with | true => exact q.1 rfl | false => exact q.2 rfl) fun _ _ _ q => q)
theorem b_or {y : Expr} {l : List Expr} {whole : Sem Value} {Q : Bool → Loc → Store → Prop}
    (h : W c (isTrue y env (eval y env)) m σ (fun b m' σ' => Br b (Q true m' σ') (W c (isTrue (.BoolOp .Or l pos) env whole) m' σ' Q X)) X) : W c (isTrue (.BoolOp .Or (y :: l) pos) env whole) m σ Q X :=
  t_or (h.mono (fun b _ _ q => by cases b with | true => exact q.1 rfl | false => exact q.2 rfl) fun _ _ _ q => q)
theorem e_and {e₁ e₂ : Expr} {l : List Expr} {Q : Value → Loc → Store → Prop}
    (h : W c (eval e₁ env) m σ (fun v m₁ σ₁ => W c (truthy v) m₁ σ₁ (fun b m₂ σ₂ => Br b (W c (eval (.BoolOp .And (e₂ :: l) pos) env) m₂ σ₂ Q X) (Q v m₂ σ₂)) X) X) : W c (eval (.BoolOp .And (e₁ :: e₂ :: l) pos) env) m σ Q X :=
  w_and (h.mono (fun v _ _ w => w.mono (fun b _ _ q => by cases b with | true => exact q.1 rfl | false => exact q.2 rfl) fun _ _ _ q => q) fun _ _ _ q => q)
theorem e_or {e₁ e₂ : Expr} {l : List Expr} {Q : Value → Loc → Store → Prop}
    (h : W c (eval e₁ env) m σ (fun v m₁ σ₁ => W c (truthy v) m₁ σ₁ (fun b m₂ σ₂ => Br b (Q v m₂ σ₂) (W c (eval (.BoolOp .Or (e₂ :: l) pos) env) m₂ σ₂ Q X)) X) X) : W c (eval (.BoolOp .Or (e₁ :: e₂ :: l) pos) env) m σ Q X :=
  w_or (h.mono (fun v _ _ w => w.mono (fun b _ _ q => by cases b with | true => exact q.1 rfl | false => exact q.2 rfl) fun _ _ _ q => q) fun _ _ _ q => q)
theorem e_if {test body orelse : Expr} {Q : Value → Loc → Store → Prop}
    (h : W c (isTrue test env (eval test env)) m σ (fun b m' σ' => Br b (W c (eval body env) m' σ' Q X) (W c (eval orelse env) m' σ' Q X)) X) : W c (eval (.IfExp test body orelse pos) env) m σ Q X :=
  w_ifexp (h.mono (fun b _ _ q => by cases b with | true => exact q.1 rfl | false => exact q.2 rfl) fun _ _ _ q => q)

/-! ### looking into the store -/
theorem look_new {a b : Addr} {o o' : Obj} (hn : σ a = none) (h : σ b = some o) : upd σ a o' b = some o := by
  rw [upd_ne fun q => by rw [q, hn] at h; cases h]; exact h
theorem look_off {a b : Addr} {o o' : Obj} (hne : b ≠ a) (h : σ b = some o) : upd σ a o' b = some o := by rw [upd_ne hne]; exact h
theorem look_kind {a b : Addr} {o o' oa : Obj} (ha : σ a = some oa) (hk : o.cls ≠ oa.cls) (h : σ b = some o) : upd σ a o' b = some o := by
  refine look_off (fun q => ?_) h
  subst q; rw [ha] at h; cases h; exact hk rfl
end

/-- the body of a def that raises nothing -/
theorem fn_body {n : Nat} {σ : Store} {g : Pg} {f : Addr} {args : List Value} {Q : Value → Store → Prop} {name qual : Str} {params : Arguments} {body : List Stmt} {scope : Scope} {dV kV doc pm cdv ct oc : Value} {an od : Option Addr} {osl : Array (Option Value)} (binds : List (Str × Value))
    (ho : g.K.lookup f = some ⟨oc, od, .func (fnX name qual params body scope [] dV kV doc pm an cdv ct), osl⟩) (hcd : codeIn g.K cdv qual = true)
    (hb : bindArgs (fnX name qual params body scope [] dV kV doc pm an cdv ct) ⟨args, []⟩ = pure binds) (hloc : ∀ y ∈ binds, scope.names.lookup y.1 = some .local) (hcell : ∀ x ∈ scope.names, x.2 ≠ .cell)
    (hco : scope.isCoroutine = false) (hgen : scope.isGenerator = false) (hk : scope.kind = .function)
    (h : ∀ (c : Cx) (m : Loc), c.g = g → Gnd n c → c.env.scope = scope → c.env.cells = [] → interactive c.env = false → (∀ y, m y = binds.reverse.lookup y) → W c (execs body c.env) m σ (fun fl _ σ' => Q (match fl with | .ret v => v | _ => .none) σ') NoX) :
    Fn g (n + 1) (.ref f) args σ Q NoE :=
  fn_of_body ho hcd hb hloc hcell hco hgen hk fun c h1 h2 h3 h4 => (h c _ h1 h2 h3 h4 (by unfold interactive; rw [h3, hk]; rfl) fun _ => rfl).mono (fun _ _ _ q => q) fun _ _ _ q => q.elim
end Mine

open PySem PySem.W PySem.Calls PyProof.Rows
namespace Mine
section
variable {n : Nat} {c : Cx} {env : Env} {m : Loc} {σ : Store} {X : Value → Loc → Store → Prop} {a b : Int} {t u : Tok} {Q : Value → Loc → Store → Prop}
theorem br_isT {b : Bool} {P Q : Prop} (e : b = true) (h : P) : Br b P Q := by subst e; exact br_true h
theorem br_isF {b : Bool} {P Q : Prop} (e : b = false) (h : Q) : Br b P Q := by subst e; exact br_false h
theorem s_eq {x y : Str} (h : Q (.bool (x == y)) m σ) : W c (compareOp .Eq (.str x t) (.str y u)) m σ Q X := fun _ F S => eq_str (After.here F S h)
theorem s_ne {x y : Str} (h : Q (.bool (x != y)) m σ) : W c (compareOp .NotEq (.str x t) (.str y u)) m σ Q X := fun _ F S => ne_str (After.here F S h)
theorem is_no (h : Q (.bool true) m σ) : W c (compareOp .Is .none .none) m σ Q X := fun _ F S => wpAny_is_self rfl (After.here F S h)
theorem isnot_no (h : Q (.bool false) m σ) : W c (compareOp .IsNot .none .none) m σ Q X := fun _ F S => wpAny_isNot_self rfl (After.here F S h)
theorem is_no_int (h : Q (.bool false) m σ) : W c (compareOp .Is (.int a t) .none) m σ Q X := fun _ F S => is_int_none (After.here F S h)
theorem isnot_no_int (h : Q (.bool true) m σ) : W c (compareOp .IsNot (.int a t) .none) m σ Q X := fun _ F S => isnot_int_none (After.here F S h)
theorem is_no_ref {x : Addr} (h : Q (.bool false) m σ) : W c (compareOp .Is (.ref x) .none) m σ Q X := fun _ F S => is_ref_none (After.here F S h)
theorem isnot_no_ref {x : Addr} (h : Q (.bool true) m σ) : W c (compareOp .IsNot (.ref x) .none) m σ Q X := fun _ F S => isnot_ref_none (After.here F S h)

theorem Fra.less {σ' τ' : Store} {h h' : Heap} (k : Sub σ' τ') (x : Fra c σ h h' τ') : Fra c σ h h' σ' := ⟨x.kept, fun a o e => x.grow a o (k a o e)⟩
/-- two objects made, of which one is told -/
theorem pushed2 {s : Shared} (F : Frm c s.heap m) (S : Sto c s.heap σ) (o o' : Obj) (hf : o.isFreed = false) (hf' : o'.isFreed = false) :
    Frm c ((s.heap.push o).push o') m ∧ Sto c ((s.heap.push o).push o') (upd σ (s.heap.objs.size + 1) o') ∧ Fra c σ s.heap ((s.heap.push o).push o') (upd σ (s.heap.objs.size + 1) o') := by
  obtain ⟨F1, S1, x1⟩ := pushed F S o hf
  obtain ⟨F2, S2, x2⟩ := pushed (s := { s with heap := s.heap.push o }) F1 S1 o' hf'
  have e : (s.heap.push o).objs.size = s.heap.objs.size + 1 := Heap.size_push ..
  have e2 : ({ s with heap := s.heap.push o } : Shared).heap.objs.size = s.heap.objs.size + 1 := e
  rw [e2] at S2 x2
  have k : Sub (upd σ (s.heap.objs.size + 1) o') (upd (upd σ s.heap.objs.size o) (s.heap.objs.size + 1) o') := fun b x q => by
    by_cases z : b = s.heap.objs.size + 1
    · subst z; rw [upd_same] at q ⊢; exact q
    · rw [upd_ne z] at q ⊢
      exact look_new S.fresh q
  exact ⟨F2, S2.sub k, (x1.trans x2 S2).less k⟩

theorem add_lists {l₁ l₂ : Addr} {vs ws : List Value} {k₁ k₂ : Nat} (h1 : σ l₁ = some (lstO vs k₁)) (h2 : σ l₂ = some (lstO ws k₂)) (hz : vs.length + ws.length ≤ sizeLine) (h : ∀ a, σ a = none → Q (.ref a) m (upd σ a (lstO (vs ++ ws) 0))) :
    W c (binaryOp .Add (.ref l₁) (.ref l₂)) m σ Q X := fun s F S =>
  add_arrays F.F (all_news c s.heap) (isList_of S h1) (isList_of S h2) (fun h' F' N' => After.at (grown F S F' (no_end _) (by simpa using N')) (h _ S.fresh)) (by simpa using hz)
theorem add_tups {l₁ l₂ : Addr} {vs ws : List Value} (h1 : σ l₁ = some (tupO vs)) (h2 : σ l₂ = some (tupO ws)) (hv : vs ≠ []) (hw : ws ≠ []) (hz : vs.length + ws.length ≤ sizeLine) (h : ∀ a, σ a = none → Q (.ref a) m (upd σ a (tupO (vs ++ ws)))) :
    W c (binaryOp .Add (.ref l₁) (.ref l₂)) m σ Q X := fun s F S =>
  PyProof.Rows.add_tuples F.F (all_news c s.heap) (isTup_of S h1) (isTup_of S h2) (fun e => absurd e hv) (fun _ e => absurd e hw) (fun _ _ h' F' N' => After.at (grown F S F' (no_end _) N') (h _ S.fresh)) hz
/-- a tuple's tail -/
theorem w_tail {value : Expr} {lower : Option Expr} {p pos : Pos} (h : W c (eval value env) m σ (fun o m₁ σ₁ => W c (evalPart lower env) m₁ σ₁ (fun vl m₂ σ₂ =>
      ∃ l vs k t, o = .ref l ∧ vl = .int ((k : Nat) : Int) t ∧ σ₂ l = some (tupO vs) ∧ 1 ≤ k ∧ k ≤ vs.length ∧ vs.length ≤ sizeLine ∧ ∀ a, σ₂ a = none → Q (.ref a) m₂ (upd σ₂ a (tupO (vs.drop k)))) X) X)
    (ht : ∀ o r, letTemporaryGo value o r = Pure.pure () := by intro _ _; rfl) : W c (eval (.Subscript value (.Slice lower none none p) pos) env) m σ Q X :=
  fun s F S => wpAny_Subscript_Slice (T := "tuple") slot_tuple_getitem.lookup (wpAny_mono (h s F S) (fun o s₁ A => by
    obtain ⟨h', tk, m', σ', rfl, F', S', x, w⟩ := A
    refine wpAny_Slice (wpAny_mono (w { s with heap := h', toks := tk } F' S') (fun vl s₂ A => ?_) fun _ _ e => e.on rfl x)
    obtain ⟨h2, tk2, m2, σ2, rfl, F2, S2, x2, l, vs, k, t, rfl, rfl, hl, h1, hk, hz, q⟩ := A
    rw [evalPart_none]
    refine wpAny_pure (wpAny_pure ?_)
    have ht := isTup_of S2 hl
    have ht' : IsTup (h2.push { cls := .type "slice", data := .fields #[.int ((k : Nat) : Int) t, .none, .none] }) l vs.toArray := ht.keeps fun _ _ e => Heap.get?_push_of_some _ e
    refine ⟨ht'.typeIs, getItem_tuple_from ht' (Heap.IsSliceOf.new ..) h1 (by simpa using hk) ?_ (by simpa using hz)⟩
    have P := pushed2 (s := { s with heap := h2, toks := tk2 }) F2 S2 { cls := .type "slice", data := .fields #[.int ((k : Nat) : Int) t, .none, .none] } (tupO (vs.drop k)) rfl rfl
    have hf : σ2 (h2.objs.size + 1) = none := by
      cases e : σ2 (h2.objs.size + 1) with
      | none => rfl
      | some o => exact absurd (show _ < h2.objs.size from S2.lt e) (by omega)
    have e : (h2.push { cls := .type "slice", data := .fields #[.int ((k : Nat) : Int) t, .none, .none] }).objs.size = h2.objs.size + 1 := Heap.size_push ..
    show After c σ s _ _
    refine After.on (s₁ := { s with heap := h2, toks := tk2 }) rfl (x.trans x2 S2) ?_
    refine ⟨_, tk2, m2, _, rfl, P.1, P.2.1, P.2.2, ?_⟩
    show Q (.ref (h2.push _).objs.size) _ _
    rw [e]
    exact q _ hf) fun _ _ e => e) ht
/-- a list's tail -/
theorem w_tailL {value : Expr} {lower : Option Expr} {p pos : Pos} (h : W c (eval value env) m σ (fun o m₁ σ₁ => W c (evalPart lower env) m₁ σ₁ (fun vl m₂ σ₂ =>
      ∃ l vs k t, o = .ref l ∧ vl = .int ((k : Nat) : Int) t ∧ (c.h₀.IsList l vs.toArray ∨ ∃ j, σ₂ l = some (lstO vs j)) ∧ vs.length ≤ sizeLine ∧ ∀ a, σ₂ a = none → Q (.ref a) m₂ (upd σ₂ a (lstO (vs.drop k) 0))) X) X)
    (ht : ∀ o r, letTemporaryGo value o r = Pure.pure () := by intro _ _; rfl) : W c (eval (.Subscript value (.Slice lower none none p) pos) env) m σ Q X :=
  fun s F S => wpAny_Subscript_list_slice (wpAny_mono (h s F S) (fun o s₁ A => by
    obtain ⟨h', tk, m', σ', rfl, F', S', x, w⟩ := A
    refine wpAny_mono (w { s with heap := h', toks := tk } F' S') (fun vl s₂ A => ?_) fun _ _ e => e.on rfl x
    obtain ⟨h2, tk2, m2, σ2, rfl, F2, S2, x2, l, vs, k, t, rfl, rfl, hl, hz, q⟩ := A
    rw [evalPart_none]
    have hl' : h2.IsList l vs.toArray := by
      rcases hl with hl | ⟨j, hl⟩
      · exact isList_base F2 hl
      · exact isList_of S2 hl
    refine wpAny_pure ⟨l, vs.toArray, some ((k : Nat) : Int), none, rfl, hl', by simpa using hz, .int _ _, .none, ?_⟩
    have P := pushed2 (s := { s with heap := h2, toks := tk2 }) F2 S2 { cls := .type "slice", data := .fields #[.int ((k : Nat) : Int) t, .none, .none] } (lstO (vs.drop k) 0) rfl rfl
    have hf : σ2 (h2.objs.size + 1) = none := by
      cases e : σ2 (h2.objs.size + 1) with
      | none => rfl
      | some o => exact absurd (show _ < h2.objs.size from S2.lt e) (by omega)
    refine After.on (s₁ := { s with heap := h2, toks := tk2 }) rfl (x.trans x2 S2) ?_
    rw [slicePick_from']
    exact ⟨_, tk2, m2, _, rfl, P.1, P.2.1, P.2.2, q _ hf⟩) fun _ _ e => e) ht

/-! ### ints -/
theorem i_div (hb : b ≠ 0) (hs : b.natAbs < 1073741824) (h : ∀ t, Q (.int (a.fdiv b) t) m σ) : W c (binaryOp .FloorDiv (.int a t) (.int b u)) m σ Q X := fun _ F S => floordiv_int hb (After.tok F S (h _)) (.inl (PyProof.noPylong_small hs))
theorem i_pow (hn : 0 ≤ b) (hn2 : b ≤ 1000000) (ha : a.natAbs < 2 ^ 64) (h : ∀ t, Q (.int (a ^ b.toNat) t) m σ) : W c (binaryOp .Pow (.int a t) (.int b u)) m σ Q X := fun _ F S => pow_int_small hn hn2 ha (After.tok F S (h _))
theorem i_abs (h : ∀ t, Q (.int (if a < 0 then -a else a) t) m σ) : W c (call (.builtin "abs") [.int a t]) m σ Q X := fun _ F S => call_abs_int fun _ _ => After.tok F S (h _)
theorem i_ofbool {b : Bool} (h : ∀ t, Q (.int (if b then 1 else 0) t) m σ) : W c (call (.type "int") [.bool b]) m σ Q X := fun _ F S => PySem.call_int_bool (After.tok F S (h _))
theorem isi_int_int (h : Q (.bool true) m σ) : W c (call (.builtin "isinstance") [.int a t, .type "int"]) m σ Q X := fun _ F S => IsiPair.int_int (After.here F S h)
theorem isi_int_bool (h : Q (.bool false) m σ) : W c (call (.builtin "isinstance") [.int a t, .type "bool"]) m σ Q X := fun _ F S => IsiPair.int_bool (After.tok F S h)
theorem isi_bool_bool {b : Bool} (h : Q (.bool true) m σ) : W c (call (.builtin "isinstance") [.bool b, .type "bool"]) m σ Q X := fun _ F S => IsiPair.bool_bool (After.here F S h)
theorem isi_bool_int {b : Bool} (h : Q (.bool true) m σ) : W c (call (.builtin "isinstance") [.bool b, .type "int"]) m σ Q X := fun _ F S => IsiPair.bool_int (After.here F S h)
theorem isi_list {l : Addr} {vs : List Value} {k : Nat} (hl : σ l = some (lstO vs k)) (h : Q (.bool true) m σ) : W c (call (.builtin "isinstance") [.ref l, .type "list"]) m σ Q X := fun _ F S => IsiPair.isList_list (isList_of S hl) (fun _ _ e => e) (After.here F S h)

/-! ### lists against lists -/
theorem stayed {s : Shared} {h' : Heap} (F : Frm c s.heap m) (S : Sto c s.heap σ) (F' : Fr c.h₀ c.env.locals h' (loc c m)) (N' : News c.h₀ c.env.locals h' (allOf c s.heap)) : Frm c h' m ∧ Sto c h' σ ∧ Fra c σ s.heap h' σ := by
  have old : ∀ b x, s.heap.get? b = some x → b ≠ c.env.locals → h'.get? b = some x := fun b x e l => kept_of F F' e l fun z => (N' _ ((st_full c s.heap).mem z)).1
  exact ⟨F.on F' fun x b hb o e => old b o e (F.off x b hb).1, fun b x e => ⟨old b x (S b x e).1 (fun q => (S b x e).2.1 (.inl q)), (S b x e).2⟩, fun b x e _ l => old b x e fun q => l (.inl q), fun b x e => .inl (by rw [e]; exact fun q => nomatch q)⟩
theorem eq_nil {l₁ l₂ : Addr} {vs : List Value} {k₁ k₂ : Nat} (g : Gnd n c) (h1 : σ l₁ = some (lstO vs k₁)) (h2 : σ l₂ = some (lstO [] k₂)) (h : Q (.bool (decide (vs.length = 0))) m σ) : W c (compareOp .Eq (.ref l₁) (.ref l₂)) m σ Q X := fun s F S => by
  have hu : c.A.units < cLine := by have := g.un; omega
  cases vs with
  | nil => exact PySem.SeqAt.eq_listAt (e := fun _ => true) (isList_of S h1) (isList_of S h2) rfl hu (fun j h1 => absurd h1 (by simp)) (After.here F S h)
  | cons v vs => exact PySem.SeqAt.eq_list_lengthsAt (isList_of S h1) (isList_of S h2) rfl hu (After.here F S (by simpa using h))
theorem w_max {l : Addr} {vs : List Value} {k : Nat} {ns : List Int} (g : Gnd n c) (hl : σ l = some (lstO vs k)) (hi : IntsAre vs ns) (hne : 0 < ns.length) (h : ∀ x t, x ∈ ns → (∀ y ∈ ns, y ≤ x) → Q (.int x t) m σ) : W c (call (.builtin "max") [.ref l]) m σ Q X :=
  fun s F S => max_list_N g.hh F.F (all_news c s.heap) (isList_of S hl) hi hne fun h' M t tk F' N' h1 h2 => After.at (stayed F S F' N') (h M t h1 h2)
theorem w_all {l : Addr} {vs : List Value} {k : Nat} {bs : List Bool} (g : Gnd n c) (hl : σ l = some (lstO vs k)) (hi : LSm.BoolsAre vs bs) (h : Q (.bool (bs.all id)) m σ) : W c (call (.builtin "all") [.ref l]) m σ Q X :=
  fun s F S => LSm.all_bools F.F (all_news c s.heap) g.hh (isList_of S hl) hi fun h' tk F' N' => After.at (stayed F S F' N') h
theorem w_times {l : Addr} {vs : List Value} {k : Nat} (hl : σ l = some (lstO vs k)) (hlo : -(2 ^ 63 : Int) ≤ a) (hhi : a < 2 ^ 63) (hsz : vs.length * a.toNat ≤ 256) (h : ∀ x, σ x = none → Q (.ref x) m (upd σ x (lstO (List.replicate a.toNat vs).flatten 0))) :
    W c (binaryOp .Mult (.ref l) (.int a u)) m σ Q X :=
  fun s F S => mul_list F.F (all_news c s.heap) (k := k) (items := vs.toArray) (S l _ hl).1 hlo hhi (by simp; omega) fun h' F' N' => After.at (grown F S F' (no_end _) (by rw [listMul_foldl_if] at N'; exact N')) (h _ S.fresh)

/-! ### sets of ints -/
theorem firstMet_nodup {ns : List Int} (hd : ns.Nodup) : ∀ i, i ≤ ns.length → (firstMet (fun i => ns.getD i 0) i).length = i
  | 0, _ => rfl
  | i + 1, h => by
    have ih := firstMet_nodup hd i (by omega)
    have hlt : i < ns.length := by omega
    rw [firstMet_succ]
    unfold step_dedup
    have : ((firstMet (fun i => ns.getD i 0) i).any fun x => x == ns.getD i 0) = false := by
      rw [firstMet_any, Bool.eq_false_iff]
      intro q
      obtain ⟨x, hx, e⟩ := List.any_eq_true.mp q
      obtain ⟨j, hj, rfl⟩ := List.mem_map.mp hx
      have hj := List.mem_range.mp hj
      have e := eq_of_beq e
      rw [List.getD_eq_getElem?_getD, List.getD_eq_getElem?_getD, List.getElem?_eq_getElem (by omega), List.getElem?_eq_getElem hlt] at e
      have := (List.getElem_inj hd).mp (show ns[j] = ns[i] from e)
      omega
    rw [this, if_neg Bool.false_ne_true, List.length_append, ih]
    rfl
theorem w_set_ints {l : Addr} {vs : List Value} {k : Nat} {ns : List Int} (g : Gnd n c) (hl : σ l = some (lstO vs k)) (hi : IntsAre vs ns) (hb : ns.length ≤ 1000)
    (h : ∀ x o, σ x = none → (∃ S, o.SetObjOf (intKind c.g.prog c.g.w) S (firstMet (fun i => ns.getD i 0) ns.length).length) → Q (.ref x) m (upd σ x o)) : W c (call (.type "set") [.ref l]) m σ Q X :=
  fun s F S => by
    have e : vs.toArray.size = ns.length := by rw [List.size_toArray]; exact hi.length
    refine PySem.call_set_list (items := vs.toArray) (ns := ns) g.hh (isList_of S hl) hi (by rw [e]; unfold scanBound; omega) fun h' tk hS hk => ?_
    rw [e] at hS
    obtain ⟨o, ho, hso⟩ := hS.objOf
    have hk' : ∀ b o, s.heap.get? b = some o → h'.get? b = some o := fun b o q => hk b o (Heap.lt_size q) q
    exact After.at (grown F S (F.F.keeps hk') (no_end _) (news_pushed F.F (all_news c s.heap) hk' ho rfl)) (h _ o S.fresh ⟨_, hso⟩)
theorem w_len_set {x : Addr} {o : Obj} {S : Int → Bool} {k : Nat} (hx : σ x = some o) (ho : o.SetObjOf (intKind c.g.prog c.g.w) S k) (hb : k ≤ 1000) (h : ∀ t, Q (.int k t) m σ) : W c (call (.builtin "len") [.ref x]) m σ Q X :=
  fun s F St => by
    obtain ⟨hex, es, ep, t, hd, _, _, hn, hf⟩ := ho
    subst hn
    exact call_len_set (St x _ hx).1 hex hd hf (by omega) (After.tok F St (h _))

/-! ### chains -/
theorem t_chain {l r₁ r₂ : Expr} {op₁ op₂ : CmpOp} {pos : Pos} {whole : Sem Value} {Q : Bool → Loc → Store → Prop}
    (h : W c (eval l env) m σ (fun a m₁ σ₁ => W c (eval r₁ env) m₁ σ₁ (fun b m₂ σ₂ => W c (compareOp op₁ a b) m₂ σ₂ (fun v m₃ σ₃ => W c (truthy v) m₃ σ₃ (fun q m₄ σ₄ =>
      Br q (W c (eval r₂ env) m₄ σ₄ (fun d m₅ σ₅ => W c (compareOp op₂ b d) m₅ σ₅ (fun v m₆ σ₆ => W c (truthy v) m₆ σ₆ Q X) X) X) (Q false m₄ σ₄)) X) X) X) X)
    (hm : lastMarks [op₁, op₂] [r₁, r₂] = false := by with_unfolding_all rfl) : W c (isTrue (.Compare l [op₁, op₂] [r₁, r₂] pos) env whole) m σ Q X :=
  fun s F S => isTrue_chain (wpAny_mono (h s F S) (fun a s₁ A => test_link (wpAny_mono (A.next fun _ _ w => w) (fun b s₂ A => wpAny_mono (A.next fun _ _ w => w) (fun v s₃ A => wpAny_mono (A.next fun _ _ w => w) (fun q s₄ A => by
    cases q with
    | false => exact A.mono fun _ _ z => z.2 rfl
    | true => exact test_last (wpAny_mono (A.next fun _ _ w => w.1 rfl) (fun d s₅ A => wpAny_mono (A.next fun _ _ w => w) (fun v s₆ A => A.next fun _ _ w => w) fun _ _ x => x) fun _ _ x => x)) fun _ _ x => x) fun _ _ x => x) fun _ _ x => x)) fun _ _ x => x) hm
end
end Mine

open PySem PySem.W PySem.Calls PyProof.Rows
namespace Mine

/-! ## list comprehensions -/
def drop (C : Addr) (σ : Store) : Store := fun a => if a = C then none else σ a
theorem drop_same {C : Addr} {σ : Store} : drop C σ C = none := if_pos rfl
theorem drop_ne {C a : Addr} {σ : Store} (h : a ≠ C) : drop C σ a = σ a := if_neg h
theorem drop_sub {C : Addr} {σ : Store} : Sub (drop C σ) σ := fun a o e => by
  by_cases q : a = C
  · subst q; rw [drop_same] at e; cases e
  · rw [drop_ne q] at e; exact e
theorem sub_drop {C : Addr} {σ τ : Store} (h : Sub σ τ) (hC : σ C = none) : Sub σ (drop C τ) := fun a o e => by
  rw [drop_ne fun q => by rw [q, hC] at e; cases e]; exact h a o e

theorem look_relabel_other {env : Env} {k₀ : NameKind} (hk : k₀ ≠ .free) : ∀ {names : List (Str × NameKind)} {x : Str}, names.lookup x = some k₀ →
    (names.map fun (n, k) => if (k == NameKind.free && env.scope.kind == .function && env.kindOf n == some .cell) then (n, NameKind.cell) else (n, k)).lookup x = some k₀
  | [], _, h => by simp at h
  | (n, k) :: r, x, h => by
    have ih := @look_relabel_other env k₀ hk r x
    show List.lookup x ((if (k == NameKind.free && env.scope.kind == .function && env.kindOf n == some .cell) = true then (n, NameKind.cell) else (n, k)) :: _) = _
    cases hx : x == n with
    | true =>
      simp only [List.lookup_cons, hx] at h
      cases h
      simp [List.lookup_cons, hx, hk]
    | false =>
      simp only [List.lookup_cons, hx] at h
      by_cases hc : (k == NameKind.free && env.scope.kind == .function && env.kindOf n == some .cell) = true
      · rw [if_pos hc]; simp only [List.lookup_cons, hx]; exact ih h
      · rw [if_neg hc]; simp only [List.lookup_cons, hx]; exact ih h
theorem look_relabel_free {env : Env} (hf : env.scope.kind = .function) : ∀ {names : List (Str × NameKind)} {x : Str}, names.lookup x = some .free → env.kindOf x = some .cell →
    (names.map fun (n, k) => if (k == NameKind.free && env.scope.kind == .function && env.kindOf n == some .cell) then (n, NameKind.cell) else (n, k)).lookup x = some .cell
  | [], _, h, _ => by simp at h
  | (n, k) :: r, x, h, hx' => by
    have ih := @look_relabel_free env hf r x
    show List.lookup x ((if (k == NameKind.free && env.scope.kind == .function && env.kindOf n == some .cell) = true then (n, NameKind.cell) else (n, k)) :: _) = _
    cases hx : x == n with
    | true =>
      simp only [List.lookup_cons, hx] at h
      cases h
      rw [eq_of_beq hx] at hx'
      simp [List.lookup_cons, hx, hf, hx']
    | false =>
      simp only [List.lookup_cons, hx] at h
      by_cases hc : (k == NameKind.free && env.scope.kind == .function && env.kindOf n == some .cell) = true
      · rw [if_pos hc]; simp only [List.lookup_cons, hx]; exact ih h hx'
      · rw [if_neg hc]; simp only [List.lookup_cons, hx]; exact ih h hx'

/-- the environment of a comprehension -/
structure CompEnv (c : Cx) (scope : Scope) (e : Env) (C : Addr) : Prop where
  ok : EnvOk e
  tab : e.locals = C
  other : ∀ x k, scope.names.lookup x = some k → k ≠ .free → e.kindOf x = some k
  free : ∀ x, scope.names.lookup x = some .free → c.env.kindOf x = some .cell → e.kindOf x = some .cell
  cells : ∀ x a, scope.names.lookup x = some .free → c.env.cells.lookup x = some a → e.cells.lookup x = some a
def NsO (o : Obj) (mm : Loc) : Prop := ∃ es ep, o.data = .dict es ep ∧ StrKeys es ∧ ∀ name, nsFind es name = mm name
theorem NsO.at {o : Obj} {mm : Loc} (n : NsO o mm) {h : Heap} {C : Addr} (e : h.get? C = some o) : h.Ns C mm := let ⟨es, ep, h1, h2, h3⟩ := n; ⟨o, es, ep, e, h1, h2, h3⟩

theorem closure_go (env : Env) : ∀ (names : List (Str × NameKind)) (cs : List (Str × Addr)), (∀ y ∈ names, y.2 = NameKind.free → ∃ a, env.cells.lookup y.1 = some a) →
    ∃ cl, (forIn (m := Sem) names cs fun (name, kind) cs => if (kind == NameKind.free) = true then do let a ← cellOf env name; pure (ForInStep.yield ((name, a) :: cs)) else pure (ForInStep.yield cs)) = pure cl ∧
      (∀ x a, cl.lookup x = some a → cs.lookup x = some a ∨ env.cells.lookup x = some a) ∧ ∀ x, (cs.lookup x).isSome = true ∨ (x, NameKind.free) ∈ names → (cl.lookup x).isSome = true
  | [], cs, _ => ⟨cs, rfl, fun x a e => .inl e, fun x h => h.elim id fun q => nomatch q⟩
  | (n, k) :: r, cs, h => by
    by_cases hk : (k == NameKind.free) = true
    · obtain ⟨a, ha⟩ := h (n, k) (.head _) (eq_of_beq hk)
      obtain ⟨cl, h1, h2, h3⟩ := closure_go env r ((n, a) :: cs) fun y hy => h y (.tail _ hy)
      refine ⟨cl, ?_, fun x b e => ?_, fun x q => h3 x ?_⟩
      · rw [List.forIn_cons]
        simp only [hk, if_true, cellOf, ha, pure_bind]
        exact h1
      · rcases h2 x b e with z | z
        · rw [List.lookup_cons] at z
          cases hx : x == n with
          | true => rw [hx] at z; rw [eq_of_beq hx, ha]; exact .inr z
          | false => rw [hx] at z; exact .inl z
        · exact .inr z
      · rw [List.lookup_cons]
        cases hx : x == n with
        | true => exact .inl rfl
        | false =>
          rcases q with q | q
          · exact .inl q
          · cases q with
            | head => rw [beq_self_eq_true] at hx; cases hx
            | tail _ q => exact .inr q
    · obtain ⟨cl, h1, h2, h3⟩ := closure_go env r cs fun y hy => h y (.tail _ hy)
      refine ⟨cl, ?_, h2, fun x q => h3 x (q.imp id fun q => ?_)⟩
      · rw [List.forIn_cons]
        simp only [hk, Bool.false_eq_true, if_false, pure_bind]
        exact h1
      · cases q with
        | head => exact absurd rfl hk
        | tail _ q => exact q
theorem closure_is {env : Env} {scope : Scope} (h : ∀ y ∈ scope.names, y.2 = NameKind.free → ∃ a, env.cells.lookup y.1 = some a) :
    ∃ cl, closureFor scope env = pure cl ∧ ∀ x a, (x, NameKind.free) ∈ scope.names → env.cells.lookup x = some a → cl.lookup x = some a := by
  obtain ⟨cl, h1, h2, h3⟩ := closure_go env scope.names [] h
  refine ⟨cl, ?_, fun x a hm e => ?_⟩
  · unfold closureFor
    rw [bind_pure]
    exact h1
  · obtain ⟨b, hb⟩ := Option.isSome_iff_exists.mp (h3 x (.inr hm))
    rcases h2 x b hb with q | q
    · cases q
    · rw [q] at e; cases e; exact hb

section
variable {n : Nat} {c : Cx} {m : Loc} {σ : Store} {X : Value → Loc → Store → Prop} {Q : Value → Loc → Store → Prop} {scope : Scope} {e : Env} {C : Addr} {x : Str} {pos : Pos} {v : Value}
theorem cn_local {oC : Obj} {mm : Loc} (E : CompEnv c scope e C) (hx : scope.names.lookup x = some .local) (hd : (x == ("__debug__" : Str)) = false) (hC : σ C = some oC) (hn : NsO oC mm) (hv : mm x = some v) (h : Q v m σ) :
    W c (eval (.Name x pos) e) m σ Q X := fun s F S => wpAny_Name (wpAny_loadName_local E.ok.knd (E.other x _ hx (fun q => nomatch q)) (by rw [E.tab]; exact hn.at (S C _ hC).1) hv (After.here F S h)) hd
theorem cn_cell {a : Addr} (E : CompEnv c scope e C) (hx : scope.names.lookup x = some .free) (hk : c.env.kindOf x = some .cell) (ha : c.env.cells.lookup x = some a) (hd : (x == ("__debug__" : Str)) = false) (hv : m x = some v) (h : Q v m σ) :
    W c (eval (.Name x pos) e) m σ Q X := fun s F S => wpAny_Name (wpAny_loadName_cell E.ok.knd (E.free x hx hk) (E.cells x a hx ha) (hv ▸ F.cell x a ha) (After.here F S h)) hd
theorem cn_glob (g : Gnd n c) (E : CompEnv c scope e C) (hx : scope.names.lookup x = some .globalImplicit) (hd : (x == ("__debug__" : Str)) = false) (hv : nsIn c.g.K mainGlobals x = some (some v)) (h : Q v m σ) :
    W c (eval (.Name x pos) e) m σ Q X := w_glob g E.ok (E.other x _ hx (fun q => nomatch q)) hd (mg_of g.X g.T.g hv) h
theorem cn_built (g : Gnd n c) (E : CompEnv c scope e C) (hx : scope.names.lookup x = some .globalImplicit) (hd : (x == ("__debug__" : Str)) = false) (hm : nsIn c.g.K mainGlobals x = some none) (hn : x ≠ "__name__") (hv : bootBuiltins x = some v) (h : Q v m σ) :
    W c (eval (.Name x pos) e) m σ Q X := w_built g E.ok (E.other x _ hx (fun q => nomatch q)) hd (mg_none_of g.X g.T.g hm) hn hv h

/-- one element's word -/
def EltOk (c : Cx) (scope : Scope) (x : Str) (elt : Expr) (m : Loc) (σ : Store) (P : Nat → List Value → Store → Prop) (i : Nat) (v : Value) : Prop :=
  ∀ (e : Env) (C : Addr) (oC : Obj) (mm : Loc) (τ : Store) (ys : List Value), CompEnv c scope e C → Sub σ τ → τ C = none → P i ys τ → NsO oC mm → mm x = some v →
    W c (eval elt e) m (upd τ C oC) (fun y m' σ' => m' = m ∧ Sub (upd τ C oC) σ' ∧ P (i + 1) (ys ++ [y]) (drop C σ')) NoX
/-- the tests of a comprehension -/
def tests (ifs : List Expr) (e : Env) : Sem Bool := forIn (m := Sem) ifs true fun c r => if r = true then do let ok ← isTrue c e (eval c e); pure (ForInStep.yield ok) else pure (ForInStep.yield r)
/-- one element's word, behind tests -/
def EltOkG (c : Cx) (scope : Scope) (x : Str) (ifs : List Expr) (elt : Expr) (m : Loc) (σ : Store) (P : Nat → List Value → Store → Prop) (i : Nat) (v : Value) : Prop :=
  ∀ (e : Env) (C : Addr) (oC : Obj) (mm : Loc) (τ : Store) (ys : List Value), CompEnv c scope e C → Sub σ τ → τ C = none → P i ys τ → NsO oC mm → mm x = some v →
    W c (tests ifs e) m (upd τ C oC) (fun b m₁ σ₁ => Br b (W c (eval elt e) m₁ σ₁ (fun y m' σ' => m' = m ∧ Sub (upd τ C oC) σ' ∧ P (i + 1) (ys ++ [y]) (drop C σ')) NoX) (m₁ = m ∧ Sub (upd τ C oC) σ₁ ∧ P (i + 1) ys (drop C σ₁))) NoX
theorem EltOk.plain {elt : Expr} {P : Nat → List Value → Store → Prop} {i : Nat} (h : EltOk c scope x elt m σ P i v) : EltOkG c scope x [] elt m σ (fun i ys τ => ys.length = i ∧ P i ys τ) i v := fun e C oC mm τ ys CE sub nC hP hn hv =>
  W.pure (a := true) (br_true ((h e C oC mm τ ys CE sub nC hP.2 hn hv).mono (fun y m' σ' q => ⟨q.1, q.2.1, (by rw [List.length_append, hP.1]; rfl), q.2.2⟩) fun _ _ _ q => q))

/-- the word of the whole, behind what is walked -/
def CompG (c : Cx) (ifs : List Expr) (elt iter : Expr) (x : Str) (px : Pos) (scope : Scope) (pos : Pos) (v : Value) (m : Loc) (σ : Store) (use : Option (Value → Sem Unit)) (Q : Shared → Value → Shared → Prop) : Prop :=
  ∀ cl, (∀ x a, (x, NameKind.free) ∈ scope.names → c.env.cells.lookup x = some a → cl.lookup x = some a) → ∀ s, Frm c s.heap m → Sto c s.heap σ →
    wpAny (model c.g.prog c.g.w) c.A (pyIter v) (fun it s₂ => wpAny (model c.g.prog c.g.w) c.A (newList []) (fun acc s₃ => wpAny (model c.g.prog c.g.w) c.A (newFunctionEnv scope c.env.globals cl [] c.env.qual none .none (some c.env)) (fun cenv s₄ =>
      codeAny (model c.g.prog c.g.w) c.A (.compStart (.ListComp elt [⟨.Name x px, iter, ifs, 0⟩] scope pos) 0 it acc { cenv with scope := relabel scope c.env })
        (compPost (model c.g.prog c.g.w) c.A (fun _ _ => False) use (Q s) acc cenv.locals) s₄) (fun _ _ => False) s₃) (fun _ _ => False) s₂) (fun _ _ => False) s
def Comp (c : Cx) (elt iter : Expr) (x : Str) (px : Pos) (scope : Scope) (pos : Pos) (v : Value) (m : Loc) (σ : Store) (Q : Value → Loc → Store → Prop) : Prop :=
  CompG c [] elt iter x px scope pos v m σ none (fun s r s' => After c σ s s' (Q r))

theorem w_compG {ifs : List Expr} {elt iter : Expr} {px : Pos} (hfree : ∀ y ∈ scope.names, y.2 = NameKind.free → ∃ a, c.env.cells.lookup y.1 = some a) (hkind : scope.kind = .function) (hnames : ∀ x ∈ scope.names, x.2 = .local → scope.names.lookup x.1 = some .local)
    (hs : ∀ x, foldedSetIterable iter c.env x = Pure.pure x) (h : W c (eval iter c.env) m σ (fun v m₁ σ₁ => CompG c ifs elt iter x px scope pos v m₁ σ₁ none (fun s r s' => After c σ₁ s s' (Q r))) X) :
    W c (eval (.ListComp elt [⟨.Name x px, iter, ifs, 0⟩] scope pos) c.env) m σ Q X := fun s F S => by
  obtain ⟨cl, hcl, hl⟩ := closure_is hfree
  rw [eval_ListComp]
  refine wpAny_comprehension_free (g := ⟨.Name x px, iter, ifs, 0⟩) (gs := []) rfl hs hcl hkind hnames ?_
  refine wpAny_mono (h s F S) (fun v s₁ A => ?_) fun _ _ x => x
  obtain ⟨h', tk, m', σ', rfl, F', S', fx, T⟩ := A
  refine wpAny_mono (T cl hl { s with heap := h', toks := tk } F' S') (fun it s₂ C => wpAny_mono C (fun acc s₃ C => wpAny_mono C (fun cenv s₄ C => codeAny_mono C fun r s' z => ?_) fun _ _ x => x.elim) fun _ _ x => x.elim) fun _ _ x => x.elim
  cases r with
  | ok f =>
    obtain ⟨mm, hn, k⟩ := z
    exact ⟨mm, hn, fun h' hs => (k h' hs).on rfl fx⟩
  | error e =>
    obtain ⟨mm, hn, k⟩ := z
    exact ⟨mm, hn, fun h' hs ce hce => wpAny_mono (k h' hs ce hce) (fun _ _ x => x) fun _ _ x => x.elim⟩
theorem w_comp {elt iter : Expr} {px : Pos} (hfree : ∀ y ∈ scope.names, y.2 = NameKind.free → ∃ a, c.env.cells.lookup y.1 = some a) (hkind : scope.kind = .function) (hnames : ∀ x ∈ scope.names, x.2 = .local → scope.names.lookup x.1 = some .local)
    (hs : ∀ x, foldedSetIterable iter c.env x = Pure.pure x) (h : W c (eval iter c.env) m σ (fun v m₁ σ₁ => Comp c elt iter x px scope pos v m₁ σ₁ Q) X) :
    W c (eval (.ListComp elt [⟨.Name x px, iter, [], 0⟩] scope pos) c.env) m σ Q X := w_compG hfree hkind hnames hs h
end
theorem n01 (I : Nat) : I ≠ I + 1 := by omega
theorem n10 (I : Nat) : I + 1 ≠ I := by omega
theorem n02 (I : Nat) : I ≠ I + 2 := by omega
theorem n20 (I : Nat) : I + 2 ≠ I := by omega
theorem n12 (I : Nat) : I + 1 ≠ I + 2 := by omega
theorem n21 (I : Nat) : I + 2 ≠ I + 1 := by omega
theorem le1 (I : Nat) : I ≤ I + 1 := by omega
theorem le2 (I : Nat) : I ≤ I + 2 := by omega

/-- where a comprehension began -/
structure CBase (c : Cx) (m : Loc) (σ : Store) (s : Shared) (I : Addr) : Prop where
  F : Frm c s.heap m
  S : Sto c s.heap σ
  hI : s.heap.objs.size = I
/-- where it stands -/
structure CAt (c : Cx) (m : Loc) (σ : Store) (s : Shared) (I : Addr) (τ : Store) (h : Heap) (ys : List Value) (kk : Nat) (oC : Obj) : Prop where
  F : Frm c h m
  S : Sto c h τ
  x : Fra c σ s.heap h τ
  hD : h.get? (I + 1) = some (lstO ys kk)
  hC : h.get? (I + 2) = some oC
  sub : Sub σ τ
  nD : τ (I + 1) = none
  nC : τ (I + 2) = none
section
variable {c : Cx} {m m' : Loc} {σ τ : Store} {s : Shared} {I J b : Addr} {h h' : Heap} {ys : List Value} {kk tk : Nat} {oC o : Obj} {mm : Loc}
theorem CBase.small (B : CBase c m σ s I) (e : s.heap.get? b = some o) : b < I := B.hI ▸ Heap.lt_size e
theorem CBase.ne (B : CBase c m σ s I) (hJ : I ≤ J) (e : s.heap.get? b = some o) : b ≠ J := Nat.ne_of_lt (Nat.lt_of_lt_of_le (B.small e) hJ)
theorem CBase.notFA (B : CBase c m σ s I) (hb : I ≤ b) : ¬ FA c b := fun q => let ⟨_, ho⟩ := B.F.has q; Nat.not_lt.mpr hb (B.small ho)
theorem CBase.not0 (B : CBase c m σ s I) (hb : I ≤ b) : c.h₀.get? b = none := by
  cases q : c.h₀.get? b with
  | none => rfl
  | some o => exact absurd (B.small (B.F.keep b o q)) (Nat.not_lt.mpr hb)
theorem CBase.notσ (B : CBase c m σ s I) (hb : I ≤ b) : σ b = none := by
  cases q : σ b with
  | none => rfl
  | some o => exact absurd (B.small (B.S b o q).1) (Nat.not_lt.mpr hb)
theorem CBase.frm (B : CBase c m σ s I) (hJ : I ≤ J) (F : Frm c h m') (k : ∀ b o, b ≠ J → h.get? b = some o → h'.get? b = some o) : Frm c h' m' := by
  refine F.on ⟨?_, fun b o e => k b o (fun q => by rw [q, B.not0 hJ] at e; cases e) (F.keep b o e), F.F.above⟩ fun x b hb o e => k b o (fun q => B.notFA hJ (q ▸ .inr ⟨x, hb⟩)) e
  obtain ⟨oL, es, ep, hL, r⟩ := F.F.ns
  exact ⟨oL, es, ep, k _ _ (fun q => B.notFA hJ (.inl q.symm)) hL, r⟩
theorem Sto.step (S : Sto c h τ) (nJ : τ J = none) (k : ∀ b o, b ≠ J → h.get? b = some o → h'.get? b = some o) : Sto c h' τ := fun a o e => ⟨k a o (fun q => by rw [q, nJ] at e; cases e) (S a o e).1, (S a o e).2⟩
theorem CBase.fra (B : CBase c m σ s I) (hJ : I ≤ J) (x : Fra c σ s.heap h τ) (k : ∀ b o, b ≠ J → h.get? b = some o → h'.get? b = some o) : Fra c σ s.heap h' τ := ⟨fun b o e z l => k b o (B.ne hJ e) (x.kept b o e z l), x.grow⟩
theorem CBase.stoU (B : CBase c m σ s I) (hJ : I ≤ J) (S : Sto c h τ) (e : h.get? J = some o) : Sto c h (upd τ J o) := fun a o' e' => by
  by_cases q : a = J
  · subst q; rw [upd_same] at e'; cases e'; exact ⟨e, B.notFA hJ, B.not0 hJ⟩
  · rw [upd_ne q] at e'; exact S a o' e'
theorem CBase.fraU (B : CBase c m σ s I) (hJ : I ≤ J) (x : Fra c σ s.heap h τ) : Fra c σ s.heap h (upd τ J o) := ⟨x.kept, fun a o' e' => by
  by_cases q : a = J
  · right; cases z : s.heap.get? a with
    | none => rfl
    | some o => exact absurd q (B.ne hJ z)
  · rw [upd_ne q] at e'; exact x.grow a o' e'⟩
theorem Fra.no {σa σb : Store} {ha hb : Heap} (x : Fra c σa ha hb σb) (n : σa b = none) (e : ha.get? b = some o) : σb b = none := by
  cases z : σb b with
  | none => rfl
  | some o' =>
    rcases x.grow b o' z with r | r
    · exact absurd n r
    · rw [e] at r; cases r
theorem CAt.step (B : CBase c m σ s I) (A : CAt c m σ s I τ h ys kk oC) (nI : τ I = none) (hk : ∀ b o, b ∉ [I] → h.get? b = some o → h'.get? b = some o) : CAt c m σ s I τ h' ys kk oC :=
  have k : ∀ b o, b ≠ I → h.get? b = some o → h'.get? b = some o := fun b o q e => hk b o (fun z => q (List.mem_singleton.mp z)) e
  ⟨B.frm (Nat.le_refl _) A.F k, A.S.step nI k, B.fra (Nat.le_refl _) A.x k, k _ _ (n10 _) A.hD, k _ _ (n20 _) A.hC, A.sub, A.nD, A.nC⟩
/-- between two turns -/
def CInv (c : Cx) (m : Loc) (σ : Store) (s : Shared) (I : Addr) (SW : Nat → Heap → Prop) (P : Nat → List Value → Store → Prop) (N k : Nat) (s' : Shared) : Prop :=
  ∃ i ys τ h tk kk oC mm, k = N - i ∧ i ≤ N ∧ s' = { s with heap := h, toks := tk } ∧ CAt c m σ s I τ h ys kk oC ∧ P i ys τ ∧ SW i h ∧ τ I = none ∧ NsO oC mm ∧ ys.length ≤ i
theorem sub_lt {N i : Nat} (h : i < N) : N - (i + 1) < N - i := by omega
theorem comp_turn {scope : Scope} {x : Str} {v : Value} {elt : Expr} {ifs : List Expr} {px : Pos} {E : Value → Shared → Prop} {cenv : Env} {SW : Nat → Heap → Prop} {P : Nat → List Value → Store → Prop} {N i : Nat} {fp : List Addr}
    (B : CBase c m σ s I) (CE : CompEnv c scope cenv (I + 2)) (hx : scope.names.lookup x = some .local) (A : CAt c m σ s I τ h ys kk oC) (hP : P i ys τ) (nI : τ I = none) (hI : ∃ o, h.get? I = some o) (hn : NsO oC mm) (hlen : ys.length ≤ i) (hlt : i < N) (hN : N ≤ sizeLine)
    (el : EltOkG c scope x ifs elt m σ P i v) (frame : ∀ h', (∀ b ∈ fp, ∀ o, h.get? b = some o → h'.get? b = some o) → SW (i + 1) h')
    (stayed : ∀ b ∈ fp, b ≠ I → ∃ o, ∀ h τ, Frm c h m → Sto c h τ → Sub σ τ → h.get? b = some o) :
    wpAny (model c.g.prog c.g.w) c.A (assign (.Name x px) cenv v) (fun _ s₂ => wpAny (model c.g.prog c.g.w) c.A (tests ifs cenv) (fun ok s₃ =>
      if ok = true then wpAny (model c.g.prog c.g.w) c.A (eval elt cenv) (fun y s₄ => wpAny (model c.g.prog c.g.w) c.A (call (.builtin "list.append") [.ref (I + 1), y]) (fun _ s₅ => ∃ k, k < N - i ∧ CInv c m σ s I SW P N k s₅) E s₄) E s₃
      else ∃ k, k < N - i ∧ CInv c m σ s I SW P N k s₃) E s₂) E { s with heap := h, toks := tk } := by
  refine wpAny_assign_Name (wpAny_storeName_local (m := mm) (CE.other x _ hx (fun q => nomatch q)) (by rw [CE.tab]; exact hn.at A.hC) (fun h2 hn2 hsb => ?_) (by rw [CE.ok.knd]; rfl))
  rw [CE.tab] at hn2 hsb
  obtain ⟨oC2, es2, ep2, hC2, hn2'⟩ := hn2
  have k2 : ∀ b o, b ≠ I + 2 → h.get? b = some o → h2.get? b = some o := fun b o q e => (hsb.2 b q).trans e
  have F2 := B.frm (le2 I) A.F k2
  have S2 := B.stoU (le2 I) (A.S.step A.nC k2) hC2
  have fx2 := B.fraU (o := oC2) (le2 I) (B.fra (le2 I) A.x k2)
  obtain ⟨oI, eI⟩ := hI
  have swOf : ∀ h6 σ6, Frm c h6 m → Sto c h6 σ6 → Sub σ σ6 → h6.get? I = some oI → SW (i + 1) h6 := fun h6 σ6 F6 S6 sb e6 => frame h6 fun b hb o e => by
    by_cases q : b = I
    · rw [q, eI] at e; cases e; rw [q]; exact e6
    · obtain ⟨o', ho'⟩ := stayed b hb q
      rw [ho' h τ A.F A.S A.sub] at e; cases e
      exact ho' h6 σ6 F6 S6 sb
  have common : ∀ h4 σ4, Sto c h4 σ4 → Fra c (upd τ (I + 2) oC2) h2 h4 σ4 → Sub (upd τ (I + 2) oC2) σ4 →
      σ4 (I + 1) = none ∧ σ4 I = none ∧ h4.get? (I + 1) = some (lstO ys kk) ∧ h4.get? I = some oI ∧ Sub σ (drop (I + 2) σ4) := fun h4 σ4 S4 x4 sub4 => by
    have nD2 : upd τ (I + 2) oC2 (I + 1) = none := (upd_ne (n12 I)).trans A.nD
    have nI2 : upd τ (I + 2) oC2 I = none := (upd_ne (n02 I)).trans nI
    have hD2 := k2 _ _ (n12 I) A.hD
    have hI2 := k2 _ _ (n02 I) eI
    exact ⟨x4.no nD2 hD2, x4.no nI2 hI2, x4.kept _ _ hD2 nD2 (B.notFA (le1 I)), x4.kept _ _ hI2 nI2 (B.notFA (Nat.le_refl _)), sub_drop ((A.sub.trans (sub_upd A.nC)).trans sub4) (B.notσ (le2 I))⟩
  refine wpAny_mono (el cenv (I + 2) oC2 _ τ ys CE A.sub A.nC hP ⟨es2, ep2, hn2'⟩ (if_pos rfl) { s with heap := h2, toks := tk + 1 } F2 S2) (fun bb s3 A3 => ?_) fun e s3 A3 => A3.no.elim
  cases bb with
  | true =>
    rw [if_pos rfl]
    refine wpAny_mono (A3.next fun m σ q => q.1 rfl) (fun y s4 A4 => ?_) fun e s4 A4 => A4.no.elim
    obtain ⟨h4, tk4, m4, σ4, rfl, F4, S4, x4, em, sub4, hP4⟩ := A4
    subst em
    obtain ⟨nD4, nI4, hD4, hI4, sub5⟩ := common h4 σ4 S4 x4 sub4
    have app := w_append (c := c) (σ := upd σ4 (I + 1) (lstO ys kk)) (l := I + 1) (vs := ys) (k := kk) (v := y) (X := NoX) (Q := fun _ m' σ' => m' = _ ∧ σ' = upd (upd σ4 (I + 1) (lstO ys kk)) (I + 1) (lstO (ys ++ [y]) (kk + 1))) upd_same (Nat.le_trans hlen (Nat.le_trans (Nat.le_of_lt hlt) hN)) ⟨rfl, rfl⟩ { s with heap := h4, toks := tk4 } F4 (B.stoU (le1 I) S4 hD4)
    refine wpAny_mono app (fun _ s6 A6 => ?_) fun e s6 A6 => A6.no.elim
    obtain ⟨h6, tk6, m6, σ6, rfl, F6, S6, x6, em, rfl⟩ := A6
    subst em
    have subτ : Sub (drop (I + 2) σ4) (upd (upd σ4 (I + 1) (lstO ys kk)) (I + 1) (lstO (ys ++ [y]) (kk + 1))) := fun a o e => by
      have e' := drop_sub a o e
      have hne : a ≠ I + 1 := fun q => by rw [q, nD4] at e'; cases e'
      rw [upd_ne hne, upd_ne hne]
      exact e'
    have S7 := S6.sub subτ
    exact ⟨N - (i + 1), sub_lt hlt, i + 1, ys ++ [y], drop (I + 2) σ4, h6, tk6, kk + 1, oC2, _, rfl, hlt, rfl,
      ⟨F6, S7, ((B.fraU (le1 I) (fx2.trans x4 S4)).trans x6 S6).less subτ, (S6 _ _ upd_same).1, (S6 (I + 2) oC2 (by rw [upd_ne (n21 I), upd_ne (n21 I)]; exact sub4 _ _ upd_same)).1, sub5, (drop_ne (n12 I)).trans nD4, drop_same⟩,
      hP4, swOf h6 _ F6 S7 sub5 (x6.kept _ _ hI4 (by rw [upd_ne (n01 I)]; exact nI4) (B.notFA (Nat.le_refl _))), (drop_ne (n02 I)).trans nI4, ⟨es2, ep2, hn2'⟩, by rw [List.length_append]; exact Nat.succ_le_succ hlen⟩
  | false =>
    rw [if_neg (by decide)]
    obtain ⟨h4, tk4, m4, σ4, rfl, F4, S4, x4, qq⟩ := A3
    obtain ⟨em, sub4, hP4⟩ := qq.2 rfl
    subst em
    obtain ⟨nD4, nI4, hD4, hI4, sub5⟩ := common h4 σ4 S4 x4 sub4
    have S7 := S4.sub (drop_sub (C := I + 2))
    exact ⟨N - (i + 1), sub_lt hlt, i + 1, ys, drop (I + 2) σ4, h4, tk4, kk, oC2, _, rfl, hlt, rfl,
      ⟨F4, S7, (fx2.trans x4 S4).less drop_sub, hD4, (S4 (I + 2) oC2 (sub4 _ _ upd_same)).1, sub5, (drop_ne (n12 I)).trans nD4, drop_same⟩,
      hP4, swOf h4 _ F4 S7 sub5 hI4, (drop_ne (n02 I)).trans nI4, ⟨es2, ep2, hn2'⟩, Nat.le_succ_of_le hlen⟩
/-- what is walked -/
structure CWalk (c : Cx) (m : Loc) (σ : Store) (v : Value) (N : Nat) (Pv : Nat → Value → Prop) (fp : Addr → List Addr) (SW : Addr → Nat → Heap → Prop) : Prop where
  opens : ∀ s, Frm c s.heap m → Sto c s.heap σ → ∃ io : Obj, io.isFreed = false ∧ Walks c.g.prog c.g.w c.A s.heap.objs.size (fp s.heap.objs.size) [s.heap.objs.size] N Pv (SW s.heap.objs.size) ∧ SW s.heap.objs.size 0 (s.heap.push io) ∧
    ∀ Q' E', Q' (.ref s.heap.objs.size) { s with heap := s.heap.push io } → wpAny (model c.g.prog c.g.w) c.A (pyIter v) Q' E' s
  isSome : ∀ I i h, SW I i h → (h.get? I).isSome = true
  stay : ∀ I, ∀ b ∈ fp I, b ≠ I → ∃ o, (c.h₀.get? b = some o ∨ σ b = some o)
theorem comp_core {n : Nat} {scope : Scope} {x : Str} {v : Value} {pos : Pos} {ifs : List Expr} {elt iter : Expr} {px : Pos} {use : Option (Value → Sem Unit)} {Q : Shared → Value → Shared → Prop} (g : Gnd n c) (hcell : ∀ y ∈ scope.names, y.2 ≠ .cell) (hkind : scope.kind = .function) (hx : scope.names.lookup x = some .local) {N : Nat} (hN : N ≤ sizeLine) {Pv : Nat → Value → Prop} {fp : Addr → List Addr} {SW : Addr → Nat → Heap → Prop}
    (P : Nat → List Value → Store → Prop) (wk : CWalk c m σ v N Pv fp SW) (h0 : P 0 [] σ) (turn : ∀ i v, i < N → Pv i v → EltOkG c scope x ifs elt m σ P i v)
    (fin : ∀ s I ys τ h tk kk oC mm, CBase c m σ s I → CAt c m σ s I τ h ys kk oC → P N ys τ → NsO oC mm → compPost (model c.g.prog c.g.w) c.A (fun _ _ => False) use (Q s) (.ref (I + 1)) (I + 2) (.ok .next) { s with heap := h, toks := tk }) :
    CompG c ifs elt iter x px scope pos v m σ use Q := by
  intro cl hcl s F S
  obtain ⟨io, hio, Wk, sw0, go⟩ := wk.opens s F S
  refine go _ _ ?_
  have B : CBase c m σ s s.heap.objs.size := ⟨F, S, rfl⟩
  generalize hI : s.heap.objs.size = I at *
  have pushK : ∀ b o, s.heap.get? b = some o → (s.heap.push io).get? b = some o := fun b o e => Heap.get?_push_of_some _ e
  refine wpAny_newObj_type (wpAny_newFunctionEnv hcell (by intro y hy; cases hy) (fun h₁ hns₁ hsb₁ => ?_) hkind) (by show (0 : Nat) ≤ sizeLine; exact Nat.zero_le _)
  dsimp only at hns₁ hsb₁ ⊢
  have hD : (s.heap.push io).objs.size = I + 1 := by rw [Heap.size_push, hI]
  generalize hH2 : (s.heap.push io).push { cls := .type "list", dict := none, data := .seq ([] : List Value).toArray } = H2 at hns₁ hsb₁ ⊢
  have hC : H2.objs.size = I + 2 := by rw [← hH2, Heap.size_push, hD]
  rw [hC] at hns₁ hsb₁ ⊢
  rw [hD]
  have h1keep : ∀ b o, b ≠ I + 2 → H2.get? b = some o → h₁.get? b = some o := fun b o q e => (hsb₁.2 b q).trans (Heap.get?_push_of_some _ e)
  have old1 : ∀ b o, s.heap.get? b = some o → h₁.get? b = some o := fun b o e => h1keep b o (B.ne (le2 I) e) (hH2 ▸ Heap.get?_push_of_some _ (pushK b o e))
  have hD1 : h₁.get? (I + 1) = some (lstO [] 0) := h1keep _ _ (n12 I) (by rw [← hH2, ← hD]; exact Heap.get?_push_size _ rfl)
  have CE : CompEnv c scope { newEnv scope (I + 2) c.env.globals cl c.env.qual none .none (some c.env) builtinsNs with scope := relabel scope c.env } (I + 2) :=
    ⟨⟨hkind, g.glob, g.bi⟩, rfl, fun y k hy hk => look_relabel_other hk hy, fun y hy hk => look_relabel_free g.knd hy hk, fun y a hy ha => hcl y a (by
      obtain ⟨l₁, l₂, e, _⟩ := List.lookup_eq_some_iff.mp hy
      rw [e]; exact List.mem_append_right _ (List.mem_cons_self ..)) ha⟩
  generalize hE : ({ newEnv scope (I + 2) c.env.globals cl c.env.qual none .none (some c.env) builtinsNs with scope := relabel scope c.env } : Env) = cenv at CE ⊢
  have hloc : (newEnv scope (I + 2) c.env.globals cl c.env.qual none .none (some c.env) builtinsNs).locals = I + 2 := rfl
  rw [hloc]
  have stayed : ∀ b ∈ fp I, b ≠ I → ∃ o, ∀ h τ, Frm c h m → Sto c h τ → Sub σ τ → h.get? b = some o := fun b hb hne => by
    obtain ⟨o, ho⟩ := wk.stay I b hb hne
    exact ⟨o, fun h τ F S sub => ho.elim (fun q => F.keep b o q) fun q => (S b o (sub b o q)).1⟩
  have sw1 : SW I 0 h₁ := Wk.frame _ _ _ sw0 fun b hb o e => by
    by_cases q : b = I
    · subst q; exact h1keep _ _ (n02 _) (hH2 ▸ Heap.get?_push_of_some _ e)
    · obtain ⟨o', ho'⟩ := stayed b hb q
      have hb' := ho' s.heap σ F S (Sub.refl _)
      rw [pushK b o' hb'] at e; cases e
      exact old1 b o hb'
  clear hD hC hH2 sw0 pushK go hio hcl hsb₁ hloc hE
  have loop : ∀ tk, codeAny (model c.g.prog c.g.w) c.A (.compLoop (.ListComp elt [⟨.Name x px, iter, ifs, 0⟩] scope pos) 0 (.ref I) (.ref (I + 1)) cenv)
      (compPost (model c.g.prog c.g.w) c.A (fun _ _ => False) use (Q s) (.ref (I + 1)) (I + 2)) { s with heap := h₁, toks := tk } := by
    intro tk0
    refine codeAny_compLoop_tests (CInv c m σ s I (SW I) P N) ?_ N ?_
    · rintro k s' ⟨i, ys, τ, h, tk, kk, oC, mm, rfl, hi, rfl, A, hP, sw, nI, hn, hlen⟩
      rcases Nat.lt_or_ge i N with hlt | hge
      · refine Wk.item i _ _ _ hlt sw fun v h' tk' hPv hsw hk => ?_
        exact comp_turn B CE hx (A.step B nI hk) hP nI (Option.isSome_iff_exists.mp (wk.isSome I _ h' hsw)) hn hlen hlt hN (turn i v hlt hPv) (fun h2 k => Wk.frame _ _ _ hsw k) stayed
      · cases Nat.le_antisymm hi hge
        refine Wk.done _ _ _ sw fun h' tk' hk => ?_
        exact fin s I ys τ h' tk' kk oC mm B (A.step B nI hk) hP hn
    · obtain ⟨oC, esC, epC, hC1, hnC⟩ := hns₁
      exact ⟨0, [], σ, h₁, tk0, 0, oC, _, rfl, Nat.zero_le _, rfl, ⟨F.keeps old1, fun a o e => ⟨old1 a o (S a o e).1, (S a o e).2⟩, ⟨fun b o e _ _ => old1 b o e, fun a o e => .inl (by rw [e]; exact fun q => nomatch q)⟩, hD1, hC1, Sub.refl _, B.notσ (le1 I), B.notσ (le2 I)⟩, h0, sw1, B.notσ (Nat.le_refl _), ⟨esC, epC, hnC⟩, Nat.le_refl _⟩
  exact codeAny_compStart_list (loop _) (Wk.self 0 _ _ _ sw1 (loop _))
theorem fin_plain {Q : Value → Loc → Store → Prop} (B : CBase c m σ s I) (A : CAt c m σ s I τ h ys kk oC) (hn : NsO oC mm) (hQ : Q (.ref (I + 1)) m (upd τ (I + 1) (lstO ys kk))) :
    compPost (model c.g.prog c.g.w) c.A (fun _ _ => False) none (fun r s' => After c σ s s' (Q r)) (.ref (I + 1)) (I + 2) (.ok .next) { s with heap := h, toks := tk } := by
  refine ⟨mm, hn.at A.hC, fun h2 hsb => ?_⟩
  have k2 : ∀ b o, b ≠ I + 2 → h.get? b = some o → h2.get? b = some o := fun b o q e => (hsb.2 b q).trans e
  exact ⟨h2, tk, m, upd τ (I + 1) (lstO ys kk), rfl, B.frm (le2 I) A.F k2, B.stoU (le1 I) (A.S.step A.nC k2) (k2 _ _ (n12 I) A.hD), B.fraU (le1 I) (B.fra (le2 I) A.x k2), hQ⟩
end
section
variable {n : Nat} {c : Cx} {m : Loc} {σ : Store} {X : Value → Loc → Store → Prop} {Q : Value → Loc → Store → Prop} {scope : Scope} {e : Env} {C : Addr} {x : Str} {pos : Pos} {v : Value}
theorem CWalk.list {l : Addr} {vs : List Value} {k : Nat} (g : Gnd n c) (hl : σ l = some (lstO vs k)) : CWalk c m σ (.ref l) vs.length (fun j v => vs.toArray[j]? = some v) (fun I => [I, l]) (fun I j h => h.IsListIter I l j ∧ h.IsList l vs.toArray) := by
  refine ⟨fun s F S => ?_, ?_, fun I b hb hne => ?_⟩
  · have hls := isList_of S hl
    have Wk := Walks.list (prog := c.g.prog) (w := c.g.w) g.hh s.heap.objs.size l (Nat.ne_of_lt (S.lt hl)) vs.toArray
    rw [List.size_toArray] at Wk
    exact ⟨{ cls := .type "list_iterator", data := .fields #[.ref l, .int 0 0] }, rfl, Wk, ⟨⟨_, Heap.get?_push_size _ rfl, rfl, rfl⟩, hls.at fun o e => Heap.get?_push_of_some _ e⟩, fun Q' E' hq => wpAny_pyIter_list hls hq⟩
  · rintro I j h ⟨⟨o, ho, _⟩, _⟩; rw [ho]; rfl
  · rcases List.mem_cons.mp hb with q | q
    · exact absurd q hne
    · rw [List.mem_singleton.mp q]; exact ⟨_, .inr hl⟩
theorem CWalk.range {r : Addr} {i k : Int} {t u w : Tok} (g : Gnd n c) (hr : σ r = some (rngO i k t u w)) (hi : -(2 ^ 62) ≤ i) (hi' : i < 2 ^ 62) (hk : -(2 ^ 62) ≤ k) (hk' : k < 2 ^ 62) :
    CWalk c m σ (.ref r) (k - i).toNat (fun j v => ∃ t, v = .int (i + j * 1) t) (fun I => [I]) (fun I j h => IsRangeIter h I (i + (j : Nat) * 1) (((k - i).toNat : Int) - (j : Nat)) 1) := by
  have hsz : Builtin.Range.rangeSize i k 1 = (((k - i).toNat : Nat) : Int) := by rw [rangeSize_one]; split <;> omega
  refine ⟨fun s F S => ⟨{ cls := .type "range_iterator", data := .fields #[rawInt i, rawInt (Builtin.Range.rangeSize i k 1), rawInt 1] }, rfl, Walks.range g.hh _ i 1 _, ?_, fun Q' E' hq => wpAny_pyIter_range (S r _ hr).1 (small_one hi hi' hk hk') hq⟩, fun I j h e => ?_, fun I b hb hne => absurd (List.mem_singleton.mp hb) hne⟩
  · show IsRangeIter _ _ _ _ _
    rw [hsz]
    simpa using Heap.get?_push_size s.heap (o := { cls := .type "range_iterator", data := .fields #[rawInt i, rawInt (((k - i).toNat : Nat) : Int), rawInt 1] }) rfl
  · rw [show h.get? I = _ from e]; rfl
theorem list_at {vs : List Value} {j : Nat} {v : Value} (h : vs.toArray[j]? = some v) : vs[j]? = some v := by simpa using h

theorem comp_range {elt iter : Expr} {px : Pos} {r : Addr} {i k : Int} {t u w : Tok} (g : Gnd n c) (hcell : ∀ y ∈ scope.names, y.2 ≠ .cell) (hkind : scope.kind = .function) (hx : scope.names.lookup x = some .local)
    (P : Nat → List Value → Store → Prop) (mono : ∀ i ys τ τ', Sub τ τ' → P i ys τ → P i ys τ')
    (hr : σ r = some (rngO i k t u w)) (hi : -(2 ^ 62) ≤ i) (hi' : i < 2 ^ 62) (hk : -(2 ^ 62) ≤ k) (hk' : k < 2 ^ 62) (hN : (k - i).toNat ≤ sizeLine) (h0 : P 0 [] σ)
    (turn : ∀ j t, j < (k - i).toNat → EltOk c scope x elt m σ P j (.int (i + j) t))
    (done : ∀ D σ' ys kk, σ D = none → σ' D = none → Sub σ σ' → ys.length = (k - i).toNat → P (k - i).toNat ys σ' → Q (.ref D) m (upd σ' D (lstO ys kk))) : Comp c elt iter x px scope pos (.ref r) m σ Q := by
  refine comp_core g hcell hkind hx hN (fun i ys τ => ys.length = i ∧ P i ys τ) (CWalk.range g hr hi hi' hk hk') ⟨rfl, h0⟩ ?_ fun s I ys τ h tk kk oC mm B A hP hn => fin_plain B A hn (done _ τ ys kk (B.notσ (le1 I)) A.nD A.sub hP.1 hP.2)
  rintro j v hj ⟨t, rfl⟩
  rw [Int.mul_one]
  exact (turn j t hj).plain
theorem comp_list {elt iter : Expr} {px : Pos} {l : Addr} {vs : List Value} {k : Nat} (g : Gnd n c) (hcell : ∀ y ∈ scope.names, y.2 ≠ .cell) (hkind : scope.kind = .function) (hx : scope.names.lookup x = some .local)
    (P : Nat → List Value → Store → Prop) (mono : ∀ i ys τ τ', Sub τ τ' → P i ys τ → P i ys τ')
    (hl : σ l = some (lstO vs k)) (hN : vs.length ≤ sizeLine) (h0 : P 0 [] σ)
    (turn : ∀ j v, vs[j]? = some v → EltOk c scope x elt m σ P j v)
    (done : ∀ D σ' ys kk, σ D = none → σ' D = none → Sub σ σ' → ys.length = vs.length → P vs.length ys σ' → Q (.ref D) m (upd σ' D (lstO ys kk))) : Comp c elt iter x px scope pos (.ref l) m σ Q :=
  comp_core g hcell hkind hx hN (fun i ys τ => ys.length = i ∧ P i ys τ) (CWalk.list g hl) ⟨rfl, h0⟩ (fun j v _ hv => (turn j v (list_at hv)).plain) fun s I ys τ h tk kk oC mm B A hP hn => fin_plain B A hn (done _ τ ys kk (B.notσ (le1 I)) A.nD A.sub hP.1 hP.2)
end
end Mine

open PySem PySem.W PySem.Calls PyProof.Rows
namespace Mine
section
variable {n : Nat} {c : Cx} {m : Loc} {σ : Store} {X : Value → Loc → Store → Prop}

/-! ## while -/
theorem w_while {test : Expr} {body : List Stmt} {pos : Pos} {Q : Flow → Loc → Store → Prop} (J : Nat → Loc → Store → Prop) (k : Nat) (h0 : J k m σ)
    (turn : ∀ k m' σ', J k m' σ' → W c (isTrue test c.env (eval test c.env)) m' σ' (fun b m₁ σ₁ => Br b (W c (execs body c.env) m₁ σ₁ (fun f m₂ σ₂ => match f with
      | .next => ∃ k', k' < k ∧ J k' m₂ σ₂ | .cont => ∃ k', k' < k ∧ J k' m₂ σ₂ | .brk => Q .next m₂ σ₂ | .ret v => Q (.ret v) m₂ σ₂) NoX) (Q .next m₁ σ₁)) NoX) :
    W c (exec (.While test body [] pos) c.env) m σ Q X := fun s F S => by
  refine wpAny_While (codeAny_whileLoop (fun n s' => ∃ h₁ tk₁ m₁ σ₁, s' = { s with heap := h₁, toks := tk₁ } ∧ Frm c h₁ m₁ ∧ Sto c h₁ σ₁ ∧ Fra c σ s.heap h₁ σ₁ ∧ J n m₁ σ₁) ?_ k ⟨s.heap, s.toks, m, σ, rfl, F, S, .refl, h0⟩)
  rintro n s' ⟨h₁, tk₁, m₁, σ₁, rfl, F₁, S₁, fx, j⟩
  refine wpAny_mono (turn n m₁ σ₁ j { s with heap := h₁, toks := tk₁ } F₁ S₁) (fun b s₂ A => ?_) fun e s₂ A => A.no.elim
  obtain ⟨h₂, tk₂, m₂, σ₂, rfl, F₂, S₂, fx₂, br⟩ := A
  have fx' := fx.trans fx₂ S₂
  cases b with
  | false =>
    simp only [Bool.false_eq_true, if_false]
    exact wpAny_execs_nil ⟨h₂, tk₂, m₂, σ₂, rfl, F₂, S₂, fx', br.2 rfl⟩
  | true =>
    simp only [if_true]
    refine wpAny_mono (br.1 rfl { s with heap := h₂, toks := tk₂ } F₂ S₂) (fun f s₃ A => ?_) fun e s₃ A => A.no.elim
    obtain ⟨h₃, tk₃, m₃, σ₃, rfl, F₃, S₃, fx₃, q⟩ := A
    have fx'' := fx'.trans fx₃ S₃
    cases f with
    | next => obtain ⟨k', hk, q⟩ := q; exact ⟨k', hk, h₃, tk₃, m₃, σ₃, rfl, F₃, S₃, fx'', q⟩
    | cont => obtain ⟨k', hk, q⟩ := q; exact ⟨k', hk, h₃, tk₃, m₃, σ₃, rfl, F₃, S₃, fx'', q⟩
    | brk => exact ⟨h₃, tk₃, m₃, σ₃, rfl, F₃, S₃, fx'', q⟩
    | ret v => exact ⟨h₃, tk₃, m₃, σ₃, rfl, F₃, S₃, fx'', q⟩
theorem x_while {test : Expr} {body rest : List Stmt} {pos : Pos} {Q : Flow → Loc → Store → Prop} (J : Nat → Loc → Store → Prop) (k : Nat) (h0 : J k m σ)
    (turn : ∀ k m' σ', J k m' σ' → W c (isTrue test c.env (eval test c.env)) m' σ' (fun b m₁ σ₁ => Br b (W c (execs body c.env) m₁ σ₁ (fun f m₂ σ₂ => match f with
      | .next => ∃ k', k' < k ∧ J k' m₂ σ₂ | .cont => ∃ k', k' < k ∧ J k' m₂ σ₂ | .brk => W c (execs rest c.env) m₂ σ₂ Q X | .ret v => Q (.ret v) m₂ σ₂) NoX) (W c (execs rest c.env) m₁ σ₁ Q X)) NoX) :
    W c (execs (.While test body [] pos :: rest) c.env) m σ Q X :=
  w_execs_cons (w_while J k h0 turn)

/-! ## more tests -/
variable {Q : Value → Loc → Store → Prop}
theorem ne_nil {l₁ l₂ : Addr} {vs : List Value} {k₁ k₂ : Nat} (g : Gnd n c) (h1 : σ l₁ = some (lstO vs k₁)) (h2 : σ l₂ = some (lstO [] k₂)) (h : Q (.bool (!decide (vs.length = 0))) m σ) : W c (compareOp .NotEq (.ref l₁) (.ref l₂)) m σ Q X := fun s F S => by
  have hu : c.A.units < cLine := by have := g.un; omega
  cases vs with
  | nil => exact PySem.SeqAt.RcNeAt.lists (e := fun _ => true) (isList_of S h1) (isList_of S h2) rfl hu (fun j h1 => absurd h1 (by simp)) _ _ _ _ (After.here F S h)
  | cons v vs => exact PySem.SeqAt.RcNeAt.lists_lengths (isList_of S h1) (isList_of S h2) rfl hu _ _ _ _ (After.here F S (by simpa using h))
theorem is_bools {a b : Bool} (h : Q (.bool (a == b)) m σ) : W c (compareOp .Is (.bool a) (.bool b)) m σ Q X := fun _ F S => wpAny_is_plain rfl (After.here F S (by cases a <;> cases b <;> exact h))
theorem isnot_bools {a b : Bool} (h : Q (.bool (!(a == b))) m σ) : W c (compareOp .IsNot (.bool a) (.bool b)) m σ Q X := fun _ F S => wpAny_isNot_plain rfl (After.here F S (by cases a <;> cases b <;> exact h))
theorem eq_bools {a b : Bool} (h : Q (.bool (a == b)) m σ) : W c (compareOp .Eq (.bool a) (.bool b)) m σ Q X := fun _ F S => eq_bool (After.here F S h)
end
end Mine

open PySem PySem.W PySem.Calls PyProof.Rows
namespace Mine
/-! ## the program's things as Python holds them -/
def ent (P : Params) (x : Str) (t : Tok) (v : Value) : DictEntry := ⟨PyData.keyHash P x, .str x t, v⟩
def optV (o : Option Nat) (t : Tok) : Value := match o with | none => .none | some s => .int (s : Int) t
def optI (o : Option Int) (t : Tok) : Value := match o with | none => .none | some s => .int s t
def handD (P : Params) (k : Nat → Tok) (h : Hnd) : List DictEntry :=
  [ent P (Str.ofString "number") (k 0) (.int h.num (k 7)), ent P (Str.ofString "at_stage") (k 1) (optV h.stage (k 8)), ent P (Str.ofString "far") (k 2) (.int (h.far : Int) (k 9)), ent P (Str.ofString "had") (k 3) (.int (h.had : Int) (k 10)),
   ent P (Str.ofString "lost") (k 4) (.bool h.lost), ent P (Str.ofString "won") (k 5) (.bool h.won), ent P (Str.ofString "greatest") (k 6) (optI h.top (k 11))]
def setT (k : Nat → Tok) (i : Nat) (t : Tok) : Nat → Tok := fun j => if j = i then t else k j
def ringD (P : Params) (k : Nat → Tok) (lh lr : Addr) (many : Nat) : List DictEntry :=
  [ent P (Str.ofString "hands") (k 0) (.ref lh), ent P (Str.ofString "road") (k 1) (.ref lr), ent P (Str.ofString "many") (k 2) (.int (many : Int) (k 3))]
section
variable {P : Params} {k : Nat → Tok} {h : Hnd} {hs : Int} {key : Value} {t : Tok}
theorem g_number : getL (Str.ofString "number") (handD P k h) = some (some (.int h.num (k 7))) := rfl
theorem g_stage : getL (Str.ofString "at_stage") (handD P k h) = some (some (optV h.stage (k 8))) := rfl
theorem g_far : getL (Str.ofString "far") (handD P k h) = some (some (.int (h.far : Int) (k 9))) := rfl
theorem g_had : getL (Str.ofString "had") (handD P k h) = some (some (.int (h.had : Int) (k 10))) := rfl
theorem g_lost : getL (Str.ofString "lost") (handD P k h) = some (some (.bool h.lost)) := rfl
theorem g_won : getL (Str.ofString "won") (handD P k h) = some (some (.bool h.won)) := rfl
theorem g_top : getL (Str.ofString "greatest") (handD P k h) = some (some (optI h.top (k 11))) := rfl
theorem p_stage {s : Nat} : putL (Str.ofString "at_stage") hs key (.int (s : Int) t) (handD P k h) = handD P (setT k 8 t) { h with stage := some s } := rfl
theorem p_far {s : Nat} : putL (Str.ofString "far") hs key (.int (s : Int) t) (handD P k h) = handD P (setT k 9 t) { h with far := s } := rfl
theorem p_had {s : Nat} : putL (Str.ofString "had") hs key (.int (s : Int) t) (handD P k h) = handD P (setT k 10 t) { h with had := s } := rfl
theorem p_lost {b : Bool} : putL (Str.ofString "lost") hs key (.bool b) (handD P k h) = handD P k { h with lost := b } := rfl
theorem p_won {b : Bool} : putL (Str.ofString "won") hs key (.bool b) (handD P k h) = handD P k { h with won := b } := rfl
theorem p_top {x : Int} : putL (Str.ofString "greatest") hs key (.int x t) (handD P k h) = handD P (setT k 11 t) { h with top := some x } := rfl
theorem pn_stage {j : Nat} : putN (Str.ofString "at_stage") (handD P k h) j = j := rfl
theorem pn_far {j : Nat} : putN (Str.ofString "far") (handD P k h) j = j := rfl
theorem pn_had {j : Nat} : putN (Str.ofString "had") (handD P k h) j = j := rfl
theorem pn_lost {j : Nat} : putN (Str.ofString "lost") (handD P k h) j = j := rfl
theorem pn_won {j : Nat} : putN (Str.ofString "won") (handD P k h) j = j := rfl
theorem pn_top {j : Nat} : putN (Str.ofString "greatest") (handD P k h) j = j := rfl
theorem g_hands {lh lr : Addr} {many : Nat} : getL (Str.ofString "hands") (ringD P k lh lr many) = some (some (.ref lh)) := rfl
theorem g_road {lh lr : Addr} {many : Nat} : getL (Str.ofString "road") (ringD P k lh lr many) = some (some (.ref lr)) := rfl
theorem g_many {lh lr : Addr} {many : Nat} : getL (Str.ofString "many") (ringD P k lh lr many) = some (some (.int (many : Int) (k 3))) := rfl
theorem p_many {lh lr : Addr} {many s : Nat} : putL (Str.ofString "many") hs key (.int (s : Int) t) (ringD P k lh lr many) = ringD P (setT k 3 t) lh lr s := rfl
theorem pn_many {lh lr : Addr} {many j : Nat} : putN (Str.ofString "many") (ringD P k lh lr many) j = j := rfl
end

def wordS : Word → Str
  | .ask => Str.ofString "ask"
  | .answer => Str.ofString "answer"
  | .crown => Str.ofString "crown"
def ltrV (l : Ltr) (k : Nat → Tok) : List Value := [.int l.way (k 0), .str (wordS l.word) (k 1), .int l.num (k 2), .int (l.stage : Int) (k 3), .int (l.steps : Int) (k 4)]
def LtrAt (σ : Store) (a : Addr) (l : Ltr) : Prop := ∃ k, σ a = some (tupO (ltrV l k))
def MailAt (σ : Store) (a : Addr) (p : Nat × Ltr) : Prop := ∃ t k, σ a = some (tupO (.int (p.1 : Int) t :: ltrV p.2 k))
def HandAt (P : Params) (C : Addr) (σ : Store) (x dx : Addr) (h : Hnd) : Prop := ∃ k, σ x = some (instObj C dx) ∧ σ dx = some (dictOf (handD P k h) 7)

inductive All2 {α β : Type} (R : α → β → Prop) : List α → List β → Prop
  | nil : All2 R [] []
  | cons {a b as bs} : R a b → All2 R as bs → All2 R (a :: as) (b :: bs)
theorem All2.len {α β : Type} {R : α → β → Prop} {as : List α} {bs : List β} (h : All2 R as bs) : as.length = bs.length := by
  induction h with
  | nil => rfl
  | cons _ _ ih => simp [ih]
theorem All2.mono {α β : Type} {R R' : α → β → Prop} {as : List α} {bs : List β} (h : All2 R as bs) (k : ∀ a b, R a b → R' a b) : All2 R' as bs := by
  induction h with
  | nil => exact .nil
  | cons r _ ih => exact .cons (k _ _ r) ih
theorem All2.append {α β : Type} {R : α → β → Prop} {as as' : List α} {bs bs' : List β} (h : All2 R as bs) (h' : All2 R as' bs') : All2 R (as ++ as') (bs ++ bs') := by
  induction h with
  | nil => exact h'
  | cons r _ ih => exact .cons r ih
theorem All2.get {α β : Type} {R : α → β → Prop} {as : List α} {bs : List β} (h : All2 R as bs) : ∀ {i : Nat} {b : β}, bs[i]? = some b → ∃ a, as[i]? = some a ∧ R a b := by
  induction h with
  | nil => intro i b e; simp at e
  | cons r _ ih =>
    intro i b e
    cases i with
    | zero => simp at e; subst e; exact ⟨_, rfl, r⟩
    | succ i => simpa using ih (by simpa using e)
theorem All2.erase {α β : Type} {R : α → β → Prop} {as : List α} {bs : List β} (h : All2 R as bs) : ∀ i : Nat, All2 R (as.eraseIdx i) (bs.eraseIdx i) := by
  induction h with
  | nil => intro i; exact .nil
  | cons r h ih =>
    intro i
    cases i with
    | zero => exact h
    | succ i => exact .cons r (ih i)
theorem All2.get' {α β : Type} {R : α → β → Prop} {as : List α} {bs : List β} (h : All2 R as bs) : ∀ {i : Nat} {a : α}, as[i]? = some a → ∃ b, bs[i]? = some b ∧ R a b := by
  induction h with
  | nil => intro i b e; simp at e
  | cons r _ ih =>
    intro i b e
    cases i with
    | zero => simp at e; subst e; exact ⟨_, rfl, r⟩
    | succ i => simpa using ih (by simpa using e)

/-- all but some is kept -/
def Keep (D : Addr → Prop) (σ σ' : Store) : Prop := ∀ a o, σ a = some o → ¬ D a → σ' a = some o
theorem Keep.refl {D : Addr → Prop} {σ : Store} : Keep D σ σ := fun _ _ e _ => e
theorem Keep.trans {D : Addr → Prop} {σ σ₁ σ₂ : Store} (x : Keep D σ σ₁) (y : Keep D σ₁ σ₂) : Keep D σ σ₂ := fun a o e n => y a o (x a o e n) n
theorem Keep.wide {D D' : Addr → Prop} {σ σ' : Store} (x : Keep D σ σ') (k : ∀ a, D a → D' a) : Keep D' σ σ' := fun a o e n => x a o e fun q => n (k a q)
theorem Keep.of_sub {D : Addr → Prop} {σ σ' : Store} (x : Sub σ σ') : Keep D σ σ' := fun a o e _ => x a o e
theorem Keep.upd {D : Addr → Prop} {σ σ' : Store} (x : Keep D σ σ') {a : Addr} {o : Obj} (h : D a ∨ σ' a = none) : Keep D σ (upd σ' a o) := fun b q e n => by
  have := x b q e n
  rw [upd_ne fun z => ?_]
  · exact this
  · subst z
    rcases h with h | h
    · exact n h
    · rw [h] at this; cases this
theorem LtrAt.keep {D : Addr → Prop} {σ σ' : Store} {a : Addr} {l : Ltr} (h : LtrAt σ a l) (x : Keep D σ σ') (n : ¬ D a) : LtrAt σ' a l := let ⟨k, e⟩ := h; ⟨k, x a _ e n⟩
theorem LtrAt.sub {σ σ' : Store} {a : Addr} {l : Ltr} (h : LtrAt σ a l) (x : Sub σ σ') : LtrAt σ' a l := let ⟨k, e⟩ := h; ⟨k, x a _ e⟩
theorem MailAt.sub {σ σ' : Store} {a : Addr} {l : Nat × Ltr} (h : MailAt σ a l) (x : Sub σ σ') : MailAt σ' a l := let ⟨t, k, e⟩ := h; ⟨t, k, x a _ e⟩
theorem HandAt.sub {P : Params} {C x dx : Addr} {σ σ' : Store} {h : Hnd} (H : HandAt P C σ x dx h) (s : Sub σ σ') : HandAt P C σ' x dx h := let ⟨k, h1, h2⟩ := H; ⟨k, s _ _ h1, s _ _ h2⟩
/-- a tuple is no dict -/
theorem tup_ne {σ : Store} {a d : Addr} {vs : List Value} {es : List DictEntry} {n : Nat} (h1 : σ a = some (tupO vs)) (h2 : σ d = some (dictOf es n)) : a ≠ d := fun q => by
  subst q
  have e := congrArg Obj.cls (Option.some.inj (h1.symm.trans h2))
  exact absurd (Value.type.inj e) (by decide)
theorem lst_ne {σ : Store} {a d : Addr} {vs : List Value} {es : List DictEntry} {n k : Nat} (h1 : σ a = some (lstO vs k)) (h2 : σ d = some (dictOf es n)) : a ≠ d := fun q => by
  subst q
  have e := congrArg Obj.cls (Option.some.inj (h1.symm.trans h2))
  exact absurd (Value.type.inj e) (by decide)
theorem tup_lst {σ : Store} {a d : Addr} {vs ws : List Value} {k : Nat} (h1 : σ a = some (tupO vs)) (h2 : σ d = some (lstO ws k)) : a ≠ d := fun q => by
  subst q
  have e := congrArg Obj.cls (Option.some.inj (h1.symm.trans h2))
  exact absurd (Value.type.inj e) (by decide)
theorem inst_ne {σ : Store} {a d C dx : Addr} {es : List DictEntry} {n : Nat} (h1 : σ a = some (instObj C dx)) (h2 : σ d = some (dictOf es n)) : a ≠ d := fun q => by
  subst q
  have e := congrArg Obj.cls (Option.some.inj (h1.symm.trans h2))
  exact nomatch e
theorem inst_lst {σ : Store} {a d C dx : Addr} {ws : List Value} {n : Nat} (h1 : σ a = some (instObj C dx)) (h2 : σ d = some (lstO ws n)) : a ≠ d := fun q => by
  subst q
  have e := congrArg Obj.cls (Option.some.inj (h1.symm.trans h2))
  exact nomatch e
theorem new_ne {σ : Store} {a b : Addr} {o : Obj} (h1 : σ a = some o) (h2 : σ b = none) : a ≠ b := fun q => by
  subst q; rw [h2] at h1; cases h1

/-- what a hand's word to its neighbours comes to -/
def Gives (P : Params) (C : Addr) (σ : Store) (x dx : Addr) (h : Hnd) (ls : List Ltr) (v : Value) (σ' : Store) : Prop :=
  ∃ la as k, v = .ref la ∧ σ la = none ∧ σ' la = some (lstO (as.map .ref) k) ∧ All2 (LtrAt σ') as ls ∧ HandAt P C σ' x dx h ∧ Keep (· = dx) σ σ'

/-! ## the fields of a hand, of a ring -/
section
variable {n : Nat} {c : Cx} {m : Loc} {σ : Store} {X : Value → Loc → Store → Prop} {Q : Value → Loc → Store → Prop} {R : Unit → Loc → Store → Prop} {x dx C : Addr} {k : Nat → Tok} {h : Hnd} {t : Tok}
theorem get_number (g : Gnd n c) (f : FieldOk c.g.K C (Str.ofString "number")) (hx : σ x = some (instObj C dx)) (hd : σ dx = some (dictOf (handD c.g.w.params k h) 7)) (q : Q (.int h.num (k 7)) m σ) : W c (getAttr (.ref x) (Str.ofString "number") true) m σ Q X :=
  w_get g f hx hd g_number rfl q
theorem get_far (g : Gnd n c) (f : FieldOk c.g.K C (Str.ofString "far")) (hx : σ x = some (instObj C dx)) (hd : σ dx = some (dictOf (handD c.g.w.params k h) 7)) (q : Q (.int (h.far : Int) (k 9)) m σ) : W c (getAttr (.ref x) (Str.ofString "far") true) m σ Q X :=
  w_get g f hx hd g_far rfl q
theorem get_had (g : Gnd n c) (f : FieldOk c.g.K C (Str.ofString "had")) (hx : σ x = some (instObj C dx)) (hd : σ dx = some (dictOf (handD c.g.w.params k h) 7)) (q : Q (.int (h.had : Int) (k 10)) m σ) : W c (getAttr (.ref x) (Str.ofString "had") true) m σ Q X :=
  w_get g f hx hd g_had rfl q
theorem get_lost (g : Gnd n c) (f : FieldOk c.g.K C (Str.ofString "lost")) (hx : σ x = some (instObj C dx)) (hd : σ dx = some (dictOf (handD c.g.w.params k h) 7)) (q : Q (.bool h.lost) m σ) : W c (getAttr (.ref x) (Str.ofString "lost") true) m σ Q X :=
  w_get g f hx hd g_lost rfl q
theorem get_won (g : Gnd n c) (f : FieldOk c.g.K C (Str.ofString "won")) (hx : σ x = some (instObj C dx)) (hd : σ dx = some (dictOf (handD c.g.w.params k h) 7)) (q : Q (.bool h.won) m σ) : W c (getAttr (.ref x) (Str.ofString "won") true) m σ Q X :=
  w_get g f hx hd g_won rfl q
theorem get_stage {s : Nat} (g : Gnd n c) (f : FieldOk c.g.K C (Str.ofString "at_stage")) (hx : σ x = some (instObj C dx)) (hd : σ dx = some (dictOf (handD c.g.w.params k h) 7)) (hs : h.stage = some s) (q : Q (.int (s : Int) (k 8)) m σ) : W c (getAttr (.ref x) (Str.ofString "at_stage") true) m σ Q X :=
  w_get g f hx hd (by rw [g_stage, hs]; rfl) rfl q
theorem get_stage0 (g : Gnd n c) (f : FieldOk c.g.K C (Str.ofString "at_stage")) (hx : σ x = some (instObj C dx)) (hd : σ dx = some (dictOf (handD c.g.w.params k h) 7)) (hs : h.stage = none) (q : Q (.none) m σ) : W c (getAttr (.ref x) (Str.ofString "at_stage") true) m σ Q X :=
  w_get g f hx hd (by rw [g_stage, hs]; rfl) rfl q
theorem get_top {s : Int} (g : Gnd n c) (f : FieldOk c.g.K C (Str.ofString "greatest")) (hx : σ x = some (instObj C dx)) (hd : σ dx = some (dictOf (handD c.g.w.params k h) 7)) (hs : h.top = some s) (q : Q (.int s (k 11)) m σ) : W c (getAttr (.ref x) (Str.ofString "greatest") true) m σ Q X :=
  w_get g f hx hd (by rw [g_top, hs]; rfl) rfl q
theorem get_top0 (g : Gnd n c) (f : FieldOk c.g.K C (Str.ofString "greatest")) (hx : σ x = some (instObj C dx)) (hd : σ dx = some (dictOf (handD c.g.w.params k h) 7)) (hs : h.top = none) (q : Q (.none) m σ) : W c (getAttr (.ref x) (Str.ofString "greatest") true) m σ Q X :=
  w_get g f hx hd (by rw [g_top, hs]; rfl) rfl q
theorem set_stage (s : Nat) {a : Int} (g : Gnd n c) (f : FieldOk c.g.K C (Str.ofString "at_stage")) (hx : σ x = some (instObj C dx)) (hd : σ dx = some (dictOf (handD c.g.w.params k h) 7)) (e : a = (s : Int)) (q : ∀ k', R () m (upd σ dx (dictOf (handD c.g.w.params k' { h with stage := some s }) 7))) : W c (setAttr (.ref x) (Str.ofString "at_stage") (.int a t)) m σ R X := by
  subst e; exact w_set g f hx hd rfl (show 7 < 1000 by decide) fun _ => (by rw [p_stage, pn_stage]; exact q _)
theorem set_far (s : Nat) {a : Int} (g : Gnd n c) (f : FieldOk c.g.K C (Str.ofString "far")) (hx : σ x = some (instObj C dx)) (hd : σ dx = some (dictOf (handD c.g.w.params k h) 7)) (e : a = (s : Int)) (q : ∀ k', R () m (upd σ dx (dictOf (handD c.g.w.params k' { h with far := s }) 7))) : W c (setAttr (.ref x) (Str.ofString "far") (.int a t)) m σ R X := by
  subst e; exact w_set g f hx hd rfl (show 7 < 1000 by decide) fun _ => (by rw [p_far, pn_far]; exact q _)
theorem set_had (s : Nat) {a : Int} (g : Gnd n c) (f : FieldOk c.g.K C (Str.ofString "had")) (hx : σ x = some (instObj C dx)) (hd : σ dx = some (dictOf (handD c.g.w.params k h) 7)) (e : a = (s : Int)) (q : ∀ k', R () m (upd σ dx (dictOf (handD c.g.w.params k' { h with had := s }) 7))) : W c (setAttr (.ref x) (Str.ofString "had") (.int a t)) m σ R X := by
  subst e; exact w_set g f hx hd rfl (show 7 < 1000 by decide) fun _ => (by rw [p_had, pn_had]; exact q _)
theorem set_lost {b : Bool} (g : Gnd n c) (f : FieldOk c.g.K C (Str.ofString "lost")) (hx : σ x = some (instObj C dx)) (hd : σ dx = some (dictOf (handD c.g.w.params k h) 7)) (q : R () m (upd σ dx (dictOf (handD c.g.w.params k { h with lost := b }) 7))) : W c (setAttr (.ref x) (Str.ofString "lost") (.bool b)) m σ R X :=
  w_set g f hx hd rfl (show 7 < 1000 by decide) fun _ => (by rw [p_lost, pn_lost]; exact q)
theorem set_won {b : Bool} (g : Gnd n c) (f : FieldOk c.g.K C (Str.ofString "won")) (hx : σ x = some (instObj C dx)) (hd : σ dx = some (dictOf (handD c.g.w.params k h) 7)) (q : R () m (upd σ dx (dictOf (handD c.g.w.params k { h with won := b }) 7))) : W c (setAttr (.ref x) (Str.ofString "won") (.bool b)) m σ R X :=
  w_set g f hx hd rfl (show 7 < 1000 by decide) fun _ => (by rw [p_won, pn_won]; exact q)
theorem set_top {b : Int} (g : Gnd n c) (f : FieldOk c.g.K C (Str.ofString "greatest")) (hx : σ x = some (instObj C dx)) (hd : σ dx = some (dictOf (handD c.g.w.params k h) 7)) (q : ∀ k', R () m (upd σ dx (dictOf (handD c.g.w.params k' { h with top := some b }) 7))) : W c (setAttr (.ref x) (Str.ofString "greatest") (.int b t)) m σ R X :=
  w_set g f hx hd rfl (show 7 < 1000 by decide) fun _ => (by rw [p_top, pn_top]; exact q _)
theorem meth_hand {name : Str} {f : Addr} {pl : Sem Bool} {Q : Value × List Value → Loc → Store → Prop} (g : Gnd n c) (o : MethOk c.g.K C name f) (hx : σ x = some (instObj C dx)) (hd : σ dx = some (dictOf (handD c.g.w.params k h) 7))
    (hl : getL name (handD c.g.w.params k h) = some none) (q : Q (.ref f, [.ref x]) m σ) : W c (getMethod (.ref x) name pl) m σ Q X := w_getMeth g o hx hd hl q
variable {lh lr : Addr} {many : Nat}
theorem get_hands (g : Gnd n c) (f : FieldOk c.g.K C (Str.ofString "hands")) (hx : σ x = some (instObj C dx)) (hd : σ dx = some (dictOf (ringD c.g.w.params k lh lr many) 3)) (q : Q (.ref lh) m σ) : W c (getAttr (.ref x) (Str.ofString "hands") true) m σ Q X :=
  w_get g f hx hd g_hands rfl q
theorem get_road (g : Gnd n c) (f : FieldOk c.g.K C (Str.ofString "road")) (hx : σ x = some (instObj C dx)) (hd : σ dx = some (dictOf (ringD c.g.w.params k lh lr many) 3)) (q : Q (.ref lr) m σ) : W c (getAttr (.ref x) (Str.ofString "road") true) m σ Q X :=
  w_get g f hx hd g_road rfl q
theorem get_many (g : Gnd n c) (f : FieldOk c.g.K C (Str.ofString "many")) (hx : σ x = some (instObj C dx)) (hd : σ dx = some (dictOf (ringD c.g.w.params k lh lr many) 3)) (q : Q (.int (many : Int) (k 3)) m σ) : W c (getAttr (.ref x) (Str.ofString "many") true) m σ Q X :=
  w_get g f hx hd g_many rfl q
theorem set_many (s : Nat) {a : Int} (g : Gnd n c) (f : FieldOk c.g.K C (Str.ofString "many")) (hx : σ x = some (instObj C dx)) (hd : σ dx = some (dictOf (ringD c.g.w.params k lh lr many) 3)) (e : a = (s : Int)) (q : ∀ k', R () m (upd σ dx (dictOf (ringD c.g.w.params k' lh lr s) 3))) : W c (setAttr (.ref x) (Str.ofString "many") (.int a t)) m σ R X := by
  subst e; exact w_set g f hx hd rfl (show 3 < 1000 by decide) fun _ => (by rw [p_many, pn_many]; exact q _)
theorem meth_ring {name : Str} {f : Addr} {pl : Sem Bool} {Q : Value × List Value → Loc → Store → Prop} (g : Gnd n c) (o : MethOk c.g.K C name f) (hx : σ x = some (instObj C dx)) (hd : σ dx = some (dictOf (ringD c.g.w.params k lh lr many) 3))
    (hl : getL name (ringD c.g.w.params k lh lr many) = some none) (q : Q (.ref f, [.ref x]) m σ) : W c (getMethod (.ref x) name pl) m σ Q X := w_getMeth g o hx hd hl q
-- the parts of a letter
variable {value slice : Expr} {l : Ltr} {a : Addr}
theorem part_way (hl : σ a = some (tupO (ltrV l k))) (q : Q (.int l.way (k 0)) m σ) (hs : subscripted slice false (.ref a) (.int 0 t) = operate [.ref a, .int 0 t] (getItem (.ref a) (.int 0 t))) : W c (subscriptTail value slice (.ref a) (.int 0 t)) m σ Q X :=
  w_item_tup (j := 0) hl (by decide) (by decide) rfl rfl q hs
theorem part_word (hl : σ a = some (tupO (ltrV l k))) (q : Q (.str (wordS l.word) (k 1)) m σ) (hs : subscripted slice false (.ref a) (.int 1 t) = operate [.ref a, .int 1 t] (getItem (.ref a) (.int 1 t))) : W c (subscriptTail value slice (.ref a) (.int 1 t)) m σ Q X :=
  w_item_tup (j := 1) hl (by decide) (by decide) rfl rfl q hs
theorem part_num (hl : σ a = some (tupO (ltrV l k))) (q : Q (.int l.num (k 2)) m σ) (hs : subscripted slice false (.ref a) (.int 2 t) = operate [.ref a, .int 2 t] (getItem (.ref a) (.int 2 t))) : W c (subscriptTail value slice (.ref a) (.int 2 t)) m σ Q X :=
  w_item_tup (j := 2) hl (by decide) (by decide) rfl rfl q hs
theorem part_lstage (hl : σ a = some (tupO (ltrV l k))) (q : Q (.int (l.stage : Int) (k 3)) m σ) (hs : subscripted slice false (.ref a) (.int 3 t) = operate [.ref a, .int 3 t] (getItem (.ref a) (.int 3 t))) : W c (subscriptTail value slice (.ref a) (.int 3 t)) m σ Q X :=
  w_item_tup (j := 3) hl (by decide) (by decide) rfl rfl q hs
theorem part_steps (hl : σ a = some (tupO (ltrV l k))) (q : Q (.int (l.steps : Int) (k 4)) m σ) (hs : subscripted slice false (.ref a) (.int 4 t) = operate [.ref a, .int 4 t] (getItem (.ref a) (.int 4 t))) : W c (subscriptTail value slice (.ref a) (.int 4 t)) m σ Q X :=
  w_item_tup (j := 4) hl (by decide) (by decide) rfl rfl q hs
theorem part_dest {d : Nat} {t₀ : Tok} (hl : σ a = some (tupO (.int (d : Int) t₀ :: ltrV l k))) (q : Q (.int (d : Int) t₀) m σ) (hs : subscripted slice false (.ref a) (.int 0 t) = operate [.ref a, .int 0 t] (getItem (.ref a) (.int 0 t))) : W c (subscriptTail value slice (.ref a) (.int 0 t)) m σ Q X :=
  w_item_tup (j := 0) hl (by decide) (by decide) rfl rfl q hs
end

theorem upd_none {σ : Store} {a b : Addr} {o : Obj} (h : upd σ a o b = none) : σ b = none := by
  by_cases q : b = a
  · subst q; rw [upd_same] at h; cases h
  · rw [upd_ne q] at h; exact h
theorem Keep.none {D : Addr → Prop} {σ σ' : Store} (x : Keep D σ σ') {b : Addr} (h : σ' b = none) (n : ¬ D b) : σ b = none := by
  cases e : σ b with
  | none => rfl
  | some o => rw [x b o e n] at h; cases h
theorem ltr_at {σ : Store} {a : Addr} {l : Ltr} {t0 t1 t2 t3 t4 : Tok} (h : σ a = some (tupO [.int l.way t0, .str (wordS l.word) t1, .int l.num t2, .int (l.stage : Int) t3, .int (l.steps : Int) t4])) : LtrAt σ a l :=
  ⟨fun i => [t0, t1, t2, t3, t4].getD i 0, h⟩
/-- the hand itself is never the list or the letters it gives -/
theorem Gives.mk {P : Params} {C : Addr} {σ : Store} {x dx : Addr} {h : Hnd} {ls : List Ltr} {σ' : Store} {la : Addr} {k : Nat} (as : List Addr) (h1 : σ la = none) (h2 : σ' la = some (lstO (as.map .ref) k)) (h3 : All2 (LtrAt σ') as ls) (h4 : HandAt P C σ' x dx h) (h5 : Keep (· = dx) σ σ') :
    Gives P C σ x dx h ls (.ref la) σ' := ⟨la, as, k, rfl, h1, h2, h3, h4, h5⟩
theorem app_nil {c : Cx} {env : Env} {m : Loc} {σ : Store} {L : List Stmt} {Q : Flow → Loc → Store → Prop} {X : Value → Loc → Store → Prop} (h : W c (execs L env) m σ Q X) : W c (execs ([] ++ L) env) m σ Q X := h
theorem app_cons {c : Cx} {env : Env} {m : Loc} {σ : Store} {s : Stmt} {L R : List Stmt} {Q : Flow → Loc → Store → Prop} {X : Value → Loc → Store → Prop} (h : W c (execs (s :: (L ++ R)) env) m σ Q X) : W c (execs ((s :: L) ++ R) env) m σ Q X := h
theorem ltr_of {σ : Store} {a : Addr} {l : Ltr} {w nm st sp : Int} {wd : Str} {t0 t1 t2 t3 t4 : Tok} (h : σ a = some (tupO [.int w t0, .str wd t1, .int nm t2, .int st t3, .int sp t4]))
    (h1 : w = l.way) (h2 : wd = wordS l.word) (h3 : nm = l.num) (h4 : st = (l.stage : Int)) (h5 : sp = (l.steps : Int)) : LtrAt σ a l := by
  subst h1 h2 h3 h4 h5
  exact ltr_at h
theorem wake_len (h : Hnd) : h.wake.2.length ≤ 2 := by
  unfold Hnd.wake; cases h.stage <;> simp [Hnd.asks]
theorem came_len (h : Hnd) (l : Ltr) : (h.came l).2.length ≤ 2 := by
  unfold Hnd.came
  cases l.word with
  | ask =>
    simp only; unfold Hnd.askCame
    repeat' split
    all_goals simp
  | answer =>
    simp only; unfold Hnd.answerCame
    repeat' split
    all_goals simp
  | crown =>
    simp only; unfold Hnd.crownCame
    split <;> simp
theorem Gives.hand {P : Params} {C : Addr} {σ : Store} {x dx : Addr} {h : Hnd} {ls : List Ltr} {v : Value} {σ' : Store} (G : Gives P C σ x dx h ls v σ') : HandAt P C σ' x dx h := by
  obtain ⟨la, as, k, rfl, h1, h2, h3, h4, h5⟩ := G; exact h4
theorem Gives.keep {P : Params} {C : Addr} {σ : Store} {x dx : Addr} {h : Hnd} {ls : List Ltr} {v : Value} {σ' : Store} (G : Gives P C σ x dx h ls v σ') : Keep (· = dx) σ σ' := by
  obtain ⟨la, as, k, rfl, h1, h2, h3, h4, h5⟩ := G; exact h5
theorem All2.tups {σ σ' : Store} {dx : Addr} {es : List DictEntry} {n : Nat} {as : List Addr} {ls : List Ltr} (h : All2 (LtrAt σ) as ls) (hd : σ dx = some (dictOf es n)) (k : Keep (· = dx) σ σ') : All2 (LtrAt σ') as ls :=
  h.mono fun a l r => let ⟨kk, e⟩ := r; ⟨kk, k a _ e (tup_ne e hd)⟩
theorem give_add {P : Params} {C : Addr} {c : Cx} {m : Loc} {σ σ₁ σ₂ : Store} {x dx la₁ la₂ : Addr} {h₁ h₂ : Hnd} {ls₁ ls₂ : List Ltr} {Q : Value → Loc → Store → Prop} {X : Value → Loc → Store → Prop} (G₁ : Gives P C σ x dx h₁ ls₁ (.ref la₁) σ₁) (G₂ : Gives P C σ₁ x dx h₂ ls₂ (.ref la₂) σ₂)
    (hz : ls₁.length + ls₂.length ≤ 100) (q : ∀ la σ₃, Gives P C σ x dx h₂ (ls₁ ++ ls₂) (.ref la) σ₃ → Q (.ref la) m σ₃) : W c (binaryOp .Add (.ref la₁) (.ref la₂)) m σ₂ Q X := by
  obtain ⟨_, as, k, e, f1, f2, f3, ⟨k1, fx, fd⟩, f5⟩ := G₁
  cases e
  obtain ⟨_, as', k', e, g1, g2, g3, ⟨k2, gx, gd⟩, g5⟩ := G₂
  cases e
  have l1 : σ₂ la₁ = some (lstO (as.map .ref) k) := g5 _ _ f2 (lst_ne f2 fd)
  refine add_lists l1 g2 ?_ fun la hf => q la _ ?_
  · rw [List.length_map, List.length_map, f3.len, g3.len, sizeLine_eq]; omega
  · have s3 := sub_upd (o := lstO (as.map .ref ++ as'.map .ref) 0) hf
    refine ⟨la, as ++ as', 0, rfl, ?_, by rw [List.map_append]; exact upd_same, ?_, ⟨k2, s3 _ _ gx, s3 _ _ gd⟩, ?_⟩
    · have n1 : la ≠ dx := fun e => by rw [e, gd] at hf; cases hf
      exact (f5.trans g5).none hf n1
    · exact ((f3.tups fd g5).append g3).mono fun a l r => r.sub s3
    · exact (f5.trans g5).upd (.inr hf)
end Mine

open PySem PySem.W PySem.Calls PyProof.Rows
namespace Mine
/-- where a ring lies -/
structure RL where
  r : Addr
  dR : Addr
  lh : Addr
  lr : Addr
  xs : List Addr
  dxs : List Addr
def RL.D (L : RL) (a : Addr) : Prop := a = L.dR ∨ a = L.lr ∨ a ∈ L.dxs
structure RingAt (P : Params) (CH CR : Addr) (L : RL) (σ : Store) (R : Rng) : Prop where
  top : σ L.r = some (instObj CR L.dR)
  dict : ∃ k, σ L.dR = some (dictOf (ringD P k L.lh L.lr R.many) 3)
  hl : ∃ k, σ L.lh = some (lstO (L.xs.map .ref) k)
  road : ∃ ms k, σ L.lr = some (lstO (ms.map .ref) k) ∧ All2 (MailAt σ) ms R.road
  lenx : L.xs.length = R.hands.length
  lend : L.dxs.length = R.hands.length
  hand : ∀ (i : Nat) (x dx : Addr) (h : Hnd), L.xs[i]? = some x → L.dxs[i]? = some dx → R.hands[i]? = some h → HandAt P CH σ x dx h
  nd : (L.dR :: L.dxs).Nodup
  ne : L.lr ≠ L.lh
section
variable {P : Params} {CH CR : Addr} {L : RL} {σ σ' : Store} {R : Rng}
theorem RingAt.sub (A : RingAt P CH CR L σ R) (s : Sub σ σ') : RingAt P CH CR L σ' R :=
  ⟨s _ _ A.top, A.dict.imp fun k e => s _ _ e, A.hl.imp fun k e => s _ _ e, let ⟨ms, k, e, a⟩ := A.road; ⟨ms, k, s _ _ e, a.mono fun _ _ r => r.sub s⟩, A.lenx, A.lend, fun i x dx h h1 h2 h3 => (A.hand i x dx h h1 h2 h3).sub s, A.nd, A.ne⟩
theorem RingAt.dxAt (A : RingAt P CH CR L σ R) {dx : Addr} (h : dx ∈ L.dxs) : ∃ es, σ dx = some (dictOf es 7) := by
  obtain ⟨i, hi, e⟩ := List.getElem_of_mem h
  have h3 : i < R.hands.length := A.lend ▸ hi
  have h1 : i < L.xs.length := by rw [A.lenx]; exact h3
  obtain ⟨k, _, hd⟩ := A.hand i L.xs[i] L.dxs[i] R.hands[i] (List.getElem?_eq_getElem h1) (List.getElem?_eq_getElem hi) (List.getElem?_eq_getElem h3)
  rw [e] at hd
  exact ⟨_, hd⟩
/-- an address of another kind, or young, is not among the ring's own -/
theorem RingAt.notD_inst (A : RingAt P CH CR L σ R) {a C dx : Addr} (h : σ a = some (instObj C dx)) : ¬ L.D a := by
  rintro (q | q | q)
  · obtain ⟨k, e⟩ := A.dict; exact inst_ne h e q
  · obtain ⟨ms, k, e, _⟩ := A.road; exact inst_lst h e q
  · obtain ⟨es, e⟩ := A.dxAt q; exact inst_ne h e rfl
theorem RingAt.notD_tup (A : RingAt P CH CR L σ R) {a : Addr} {vs : List Value} (h : σ a = some (tupO vs)) : ¬ L.D a := by
  rintro (q | q | q)
  · obtain ⟨k, e⟩ := A.dict; exact tup_ne h e q
  · obtain ⟨ms, k, e, _⟩ := A.road; exact tup_lst h e q
  · obtain ⟨es, e⟩ := A.dxAt q; exact tup_ne h e rfl
theorem RingAt.notD_lst (A : RingAt P CH CR L σ R) {a : Addr} {vs : List Value} {k : Nat} (h : σ a = some (lstO vs k)) (n : a ≠ L.lr) : ¬ L.D a := by
  rintro (q | q | q)
  · obtain ⟨k, e⟩ := A.dict; exact lst_ne h e q
  · exact n q
  · obtain ⟨es, e⟩ := A.dxAt q; exact lst_ne h e rfl
theorem RingAt.notD_new (A : RingAt P CH CR L σ R) {a : Addr} (h : σ a = none) : ¬ L.D a := by
  rintro (q | q | q)
  · obtain ⟨k, e⟩ := A.dict; rw [← q, h] at e; cases e
  · obtain ⟨ms, k, e, _⟩ := A.road; rw [← q, h] at e; cases e
  · obtain ⟨es, e⟩ := A.dxAt q; rw [h] at e; cases e
theorem RingAt.has (A : RingAt P CH CR L σ R) {a : Addr} (h : L.D a) : σ a ≠ none := fun e => A.notD_new e h
/-- a hand's own turn -/
theorem RingAt.gives (A : RingAt P CH CR L σ R) {p : Nat} {x dx : Addr} {h h' : Hnd} (hx : L.xs[p]? = some x) (hdx : L.dxs[p]? = some dx) (hh : R.hands[p]? = some h) (H : HandAt P CH σ' x dx h') (K : Keep (· = dx) σ σ') :
    RingAt P CH CR L σ' { R with hands := R.hands.set p h' } := by
  have H0 := A.hand p x dx h hx hdx hh
  obtain ⟨k0, hx0, hd0⟩ := H0
  obtain ⟨kd, ed⟩ := A.dict
  obtain ⟨kh, eh⟩ := A.hl
  obtain ⟨ms, kr, er, am⟩ := A.road
  have hmem : dx ∈ L.dxs := List.mem_of_getElem? hdx
  have n1 : L.dR ≠ dx := fun e => (List.nodup_cons.mp A.nd).1 (e ▸ hmem)
  refine ⟨K _ _ A.top (inst_ne A.top hd0), ⟨kd, K _ _ ed n1⟩, ⟨kh, K _ _ eh (lst_ne eh hd0)⟩, ⟨ms, kr, K _ _ er (lst_ne er hd0), am.mono fun a l r => let ⟨t, k, e⟩ := r; ⟨t, k, K a _ e (tup_ne e hd0)⟩⟩, by simpa using A.lenx, by simpa using A.lend, fun i x' dx' g h1 h2 h3 => ?_, A.nd, A.ne⟩
  by_cases hi : i = p
  · subst hi
    rw [hx] at h1; cases h1
    rw [hdx] at h2; cases h2
    have hlt : i < R.hands.length := by
      rcases Nat.lt_or_ge i R.hands.length with q | q
      · exact q
      · rw [List.getElem?_eq_none q] at hh; cases hh
    have e : g = h' := by
      have h3' : (R.hands.set i h')[i]? = some g := h3
      rw [List.getElem?_set_self hlt] at h3'; exact (Option.some.inj h3').symm
    subst e
    exact H
  · have h3' : R.hands[i]? = some g := by
      have h3' : (R.hands.set p h')[i]? = some g := h3
      rwa [List.getElem?_set_ne (Ne.symm hi)] at h3'
    obtain ⟨k2, e1, e2⟩ := A.hand i x' dx' g h1 h2 h3'
    refine ⟨k2, K _ _ e1 (inst_ne e1 hd0), K _ _ e2 fun q => hi ?_⟩
    have nd2 := (List.nodup_cons.mp A.nd).2
    have hi' : i < L.dxs.length := by
      rcases Nat.lt_or_ge i L.dxs.length with z | z
      · exact z
      · rw [List.getElem?_eq_none z] at h2; cases h2
    have hp' : p < L.dxs.length := by
      rcases Nat.lt_or_ge p L.dxs.length with z | z
      · exact z
      · rw [List.getElem?_eq_none z] at hdx; cases hdx
    rw [List.getElem?_eq_getElem hi'] at h2
    rw [List.getElem?_eq_getElem hp'] at hdx
    exact (List.getElem_inj nd2).mp ((Option.some.inj h2).trans (q.trans (Option.some.inj hdx).symm))
theorem RingAt.keepGives (A : RingAt P CH CR L σ R) {p : Nat} {dx : Addr} (hdx : L.dxs[p]? = some dx) (K : Keep (· = dx) σ σ') : Keep L.D σ σ' := K.wide fun a e => .inr (.inr (e ▸ List.mem_of_getElem? hdx))
/-- a mail off the road -/
theorem RingAt.popped (A : RingAt P CH CR L σ R) {ms : List Addr} {kr : Nat} (er : σ L.lr = some (lstO (ms.map .ref) kr)) (am : All2 (MailAt σ) ms R.road) (k k' : Nat) :
    RingAt P CH CR L (upd σ L.lr (lstO ((ms.map .ref).eraseIdx k) k')) { R with road := R.road.eraseIdx k } := by
  obtain ⟨kd, ed⟩ := A.dict
  obtain ⟨kh, eh⟩ := A.hl
  have km : ∀ as ls, All2 (MailAt σ) as ls → All2 (MailAt (upd σ L.lr (lstO ((ms.map .ref).eraseIdx k) k'))) as ls := fun as ls a => a.mono fun b l r => let ⟨t, k, e⟩ := r; ⟨t, k, look_off (tup_lst e er) e⟩
  refine ⟨look_off (inst_lst A.top er) A.top, ⟨kd, look_off (fun q => lst_ne er ed q.symm) ed⟩, ⟨kh, look_off (Ne.symm A.ne) eh⟩, ⟨ms.eraseIdx k, k', ?_, km _ _ (am.erase k)⟩, A.lenx, A.lend, fun i x dx h h1 h2 h3 => ?_, A.nd, A.ne⟩
  · rw [upd_same, map_eraseIdx]
  · obtain ⟨kk, e1, e2⟩ := A.hand i x dx h h1 h2 h3
    exact ⟨kk, look_off (inst_lst e1 er) e1, look_off (fun q => lst_ne er e2 q.symm) e2⟩
/-- a mail more, and its count -/
theorem RingAt.posted (A : RingAt P CH CR L σ R) {ms : List Addr} {kr k' : Nat} {kd : Nat → Tok} {b : Addr} {d : Nat} {l : Ltr} (er : σ L.lr = some (lstO (ms.map .ref) kr)) (am : All2 (MailAt σ) ms R.road) (hb : MailAt σ b (d, l)) :
    RingAt P CH CR L (upd (upd σ L.lr (lstO (ms.map .ref ++ [.ref b]) k')) L.dR (dictOf (ringD P kd L.lh L.lr (R.many + 1)) 3)) { R with road := R.road ++ [(d, l)], many := R.many + 1 } := by
  obtain ⟨kd0, ed⟩ := A.dict
  obtain ⟨kh, eh⟩ := A.hl
  have n1 : L.lr ≠ L.dR := lst_ne er ed
  have tupK : ∀ a vs, σ a = some (tupO vs) → upd (upd σ L.lr (lstO (ms.map .ref ++ [.ref b]) k')) L.dR (dictOf (ringD P kd L.lh L.lr (R.many + 1)) 3) a = some (tupO vs) := fun a vs e => look_off (tup_ne e ed) (look_off (tup_lst e er) e)
  refine ⟨look_off (inst_ne A.top ed) (look_off (inst_lst A.top er) A.top), ⟨kd, upd_same⟩, ⟨kh, look_off (lst_ne eh ed) (look_off (Ne.symm A.ne) eh)⟩, ⟨ms ++ [b], k', ?_, ?_⟩, A.lenx, A.lend, fun i x dx h h1 h2 h3 => ?_, A.nd, A.ne⟩
  · rw [upd_ne n1, upd_same, List.map_append]; rfl
  · refine (am.mono fun a l r => let ⟨t, k, e⟩ := r; ⟨t, k, tupK _ _ e⟩).append (.cons ?_ .nil)
    obtain ⟨t, k, e⟩ := hb
    exact ⟨t, k, tupK _ _ e⟩
  · obtain ⟨kk, e1, e2⟩ := A.hand i x dx h h1 h2 h3
    have hmem : dx ∈ L.dxs := List.mem_of_getElem? h2
    have n2 : dx ≠ L.dR := fun e => (List.nodup_cons.mp A.nd).1 (e ▸ hmem)
    exact ⟨kk, look_off (inst_ne e1 ed) (look_off (inst_lst e1 er) e1), look_off n2 (look_off (fun q => lst_ne er e2 q.symm) e2)⟩
end
theorem u_not {c : Cx} {m : Loc} {σ : Store} {X : Value → Loc → Store → Prop} {Q : Value → Loc → Store → Prop} {v : Value} (h : W c (truthy v) m σ (fun b m' σ' => Q (.bool (!b)) m' σ') X) : W c (unaryOp .Not v) m σ Q X :=
  fun s F S => not_of (h s F S)
theorem w_getappend {c : Cx} {m : Loc} {σ : Store} {X : Value → Loc → Store → Prop} {l : Addr} {vs : List Value} {k : Nat} {pl : Sem Bool} {Q : Value × List Value → Loc → Store → Prop} (hl : σ l = some (lstO vs k)) (h : Q (.builtin "list.append", [.ref l]) m σ) : W c (getMethod (.ref l) (Str.ofString "append") pl) m σ Q X :=
  w_lmeth hl PySem.F.slot_list_append PySem.F.type_list_append h
theorem w_getpop {c : Cx} {m : Loc} {σ : Store} {X : Value → Loc → Store → Prop} {l : Addr} {vs : List Value} {k : Nat} {pl : Sem Bool} {Q : Value × List Value → Loc → Store → Prop} (hl : σ l = some (lstO vs k)) (h : Q (.builtin "list.pop", [.ref l]) m σ) : W c (getMethod (.ref l) (Str.ofString "pop") pl) m σ Q X :=
  w_lmeth hl PySem.F.slot_list_pop PySem.F.type_list_pop h
theorem call_nil {c : Cx} {m : Loc} {σ : Store} {X : Value → Loc → Store → Prop} {Q : Value → Loc → Store → Prop} {f : Value} {vs : List Value} (h : W c (call f vs) m σ Q X) : W c (call f ([] ++ vs)) m σ Q X := h
theorem call_one {c : Cx} {m : Loc} {σ : Store} {X : Value → Loc → Store → Prop} {Q : Value → Loc → Store → Prop} {f x : Value} {vs : List Value} (h : W c (call f (x :: vs)) m σ Q X) : W c (call f ([x] ++ vs)) m σ Q X := h
theorem post_succ {R : Rng} {p j : Nat} {ls : List Ltr} {l : Ltr} (hl : ls[j]? = some l) : R.post p (ls.take (j + 1)) = { R.post p (ls.take j) with road := (R.post p (ls.take j)).road ++ [(dest R.hands.length p l.way, l)], many := (R.post p (ls.take j)).many + 1 } := by
  have e : ls.take (j + 1) = ls.take j ++ [l] := by rw [List.take_succ, hl]; rfl
  unfold Rng.post
  rw [e]
  simp [Nat.add_assoc]
theorem post_road_le {R : Rng} {p : Nat} {ls : List Ltr} : (R.post p ls).road.length = R.road.length + ls.length := by unfold Rng.post; simp
theorem dest_fmod {n p : Nat} (hn : 0 < n) (w : Int) : Int.fmod ((p : Int) + w) (n : Int) = (dest n p w : Int) := by
  unfold dest
  rw [emod_toNat_cast hn, Int.fmod_eq_emod_of_nonneg _ (by omega)]
theorem ev_part {c : Cx} {env : Env} {m : Loc} {σ : Store} {X : Value → Loc → Store → Prop} {Q : Value → Loc → Store → Prop} {e : Expr} (h : W c (eval e env) m σ Q X) : W c (evalPart (some e) env) m σ Q X := h
theorem wake_same {R : Rng} {p : Nat} {h : Hnd} (hh : R.hands[p]? = some h) (hs : h.stage ≠ none) : R.wake p = R := by
  unfold Rng.wake
  rw [hh]
  simp only [wake_awake hs, set_same hh]
  unfold Rng.post
  simp
theorem wake_is {R : Rng} {p : Nat} {h : Hnd} (hh : R.hands[p]? = some h) : R.wake p = ({ R with hands := R.hands.set p h.wake.1 } : Rng).post p h.wake.2 := by unfold Rng.wake; rw [hh]
theorem bring_is {R : Rng} {k p : Nat} {l : Ltr} {h : Hnd} (hk : R.road[k]? = some (p, l)) (hh : R.hands[p]? = some h) : R.bring k = ({ R with hands := R.hands.set p (h.take l).1, road := R.road.eraseIdx k } : Rng).post p (h.take l).2 := by unfold Rng.bring; rw [hk]; simp only; rw [hh]
theorem RingAt.at {P : Params} {CH CR : Addr} {L : RL} {σ : Store} {R : Rng} (A : RingAt P CH CR L σ R) {p : Nat} {h : Hnd} (hh : R.hands[p]? = some h) : ∃ x dx, L.xs[p]? = some x ∧ L.dxs[p]? = some dx ∧ HandAt P CH σ x dx h := by
  have hlt : p < R.hands.length := by
    rcases Nat.lt_or_ge p R.hands.length with q | q
    · exact q
    · rw [List.getElem?_eq_none q] at hh; cases hh
  have h1 : p < L.xs.length := by rw [A.lenx]; exact hlt
  have h2 : p < L.dxs.length := by rw [A.lend]; exact hlt
  exact ⟨_, _, List.getElem?_eq_getElem h1, List.getElem?_eq_getElem h2, A.hand p _ _ h (List.getElem?_eq_getElem h1) (List.getElem?_eq_getElem h2) hh⟩
end Mine

open PySem PySem.W PySem.Calls PyProof.Rows
namespace Mine
theorem put_new {name : Str} {hs : Int} {key v : Value} : ∀ {es : List DictEntry}, getL name es = some none → putL name hs key v es = es ++ [⟨hs, key, v⟩] ∧ es.any (·.key.isStr name) = false
  | [], _ => ⟨rfl, rfl⟩
  | e :: r, h => by
    have hf : (e :: r).find? (·.key.isStr name) = none := by
      cases q : (e :: r).find? (·.key.isStr name) with
      | none => rfl
      | some y => unfold getL at h; rw [q] at h; cases h
    have h1 : e.key.isStr name = false := by
      cases z : e.key.isStr name with
      | false => rfl
      | true => rw [List.find?_cons, z] at hf; cases hf
    have h2 : r.find? (·.key.isStr name) = none := by rw [List.find?_cons, h1] at hf; exact hf
    have h3 : getL name r = some none := by
      unfold getL at h ⊢
      rw [h2]
      rw [hf] at h
      have hno : (e :: r).any (·.refKey) = false := by
        cases q : (e :: r).any (·.refKey) with
        | false => rfl
        | true => simp only [q, if_true] at h; cases h
      rw [List.any_cons] at hno
      rw [(Bool.or_eq_false_iff.mp hno).2]
      rfl
    obtain ⟨a, b⟩ := put_new h3
    refine ⟨?_, by rw [List.any_cons, h1, b]; rfl⟩
    show (if e.key.isStr name = true then _ else e :: putL name hs key v r) = _
    rw [h1, if_neg Bool.false_ne_true, a]
    rfl
theorem set_new {n : Nat} {c : Cx} {m : Loc} {σ : Store} {X : Value → Loc → Store → Prop} {R : Unit → Loc → Store → Prop} {x C dx : Addr} {name : Str} {es : List DictEntry} {k : Nat} {v : Value} (g : Gnd n c) (f : FieldOk c.g.K C name) (hx : σ x = some (instObj C dx)) (hd : σ dx = some (dictOf es k))
    (hn : getL name es = some none) (hz : es.length < 1000) (h : ∀ tk, R () m (upd σ dx (dictOf (es ++ [ent c.g.w.params name tk v]) (k + 1)))) : W c (setAttr (.ref x) name v) m σ R X :=
  w_set g f hx hd (by rw [hn]; rfl) hz fun tk => by
    obtain ⟨a, b⟩ := put_new (hs := PyData.keyHash c.g.w.params name) (key := .str name tk) (v := v) hn
    rw [a]
    unfold putN
    rw [b, if_neg Bool.false_ne_true]
    exact h tk
theorem nofree {c : Cx} {names : List (Str × NameKind)} (h : (names.all fun y => y.2 != .free) = true) : ∀ y ∈ names, y.2 = NameKind.free → ∃ a, c.env.cells.lookup y.1 = some a := fun y hy e => by
  have := List.all_eq_true.mp h y hy
  rw [e] at this
  exact absurd this (by decide)
theorem ints_get {vs : List Value} {ns : List Int} (h : IntsAre vs ns) : ∀ {j : Nat} {v : Value}, vs[j]? = some v → ∃ a t, ns[j]? = some a ∧ v = .int a t := by
  induction h with
  | nil => intro j v e; simp at e
  | cons n t _ ih =>
    intro j v e
    cases j with
    | zero => simp at e; subst e; exact ⟨n, t, rfl, rfl⟩
    | succ j => simpa using ih (by simpa using e)

/-- the hands made so far -/
def HandsTo (P : Params) (C : Addr) (σ₀ : Store) (ns : List Int) (i : Nat) (ys : List Value) (σ : Store) : Prop :=
  ∃ xs dxs : List Addr, ys = xs.map .ref ∧ xs.length = i ∧ dxs.length = i ∧ dxs.Nodup ∧ (∀ (j : Nat) (x dx : Addr) (a : Int), xs[j]? = some x → dxs[j]? = some dx → ns[j]? = some a → HandAt P C σ x dx { num := a }) ∧ ∀ d ∈ dxs, σ₀ d = none
theorem HandsTo.mono {P : Params} {C : Addr} {σ₀ : Store} {ns : List Int} {i : Nat} {ys : List Value} {τ τ' : Store} (s : Sub τ τ') (h : HandsTo P C σ₀ ns i ys τ) : HandsTo P C σ₀ ns i ys τ' := by
  obtain ⟨xs, dxs, h1, h2, h3, h4, h5, h6⟩ := h
  exact ⟨xs, dxs, h1, h2, h3, h4, fun j x dx a e1 e2 e3 => (h5 j x dx a e1 e2 e3).sub s, h6⟩
theorem HandsTo.succ {P : Params} {C : Addr} {σ₀ : Store} {ns : List Int} {i : Nat} {ys : List Value} {τ τ' : Store} {x dx : Addr} {a : Int} (h : HandsTo P C σ₀ ns i ys τ) (s : Sub τ τ') (hi : i < ns.length) (ha : ns[i]? = some a) (hx : τ dx = none) (s0 : Sub σ₀ τ) (H : HandAt P C τ' x dx { num := a }) :
    HandsTo P C σ₀ ns (i + 1) (ys ++ [.ref x]) τ' := by
  obtain ⟨xs, dxs, rfl, h2, h3, h4, h5, h6⟩ := h
  have no : ∀ d ∈ dxs, d ≠ dx := fun d hd q => by
    obtain ⟨j, hj, e⟩ := List.getElem_of_mem hd
    have j1 : j < xs.length := by omega
    have j2 : j < ns.length := by omega
    obtain ⟨_, _, e2⟩ := h5 j xs[j] dxs[j] ns[j] (List.getElem?_eq_getElem j1) (List.getElem?_eq_getElem hj) (List.getElem?_eq_getElem j2)
    rw [e, q, hx] at e2; cases e2
  refine ⟨xs ++ [x], dxs ++ [dx], by rw [List.map_append]; rfl, by simp [h2], by simp [h3], ?_, fun j x' dx' a' e1 e2 e3 => ?_, fun d hd => ?_⟩
  · rw [List.nodup_append]
    refine ⟨h4, by simp, fun p hp q hq => ?_⟩
    rw [List.mem_singleton.mp hq]
    exact no p hp
  · rcases Nat.lt_or_ge j i with q | q
    · rw [List.getElem?_append_left (by omega)] at e1 e2
      exact (h5 j x' dx' a' e1 e2 e3).sub s
    · have : j = i := by
        rcases Nat.lt_or_ge i j with z | z
        · rw [List.getElem?_eq_none (by simp; omega)] at e1; cases e1
        · omega
      subst this
      rw [List.getElem?_append_right (by omega)] at e1 e2
      simp [h2] at e1
      simp [h3] at e2
      subst e1 e2
      rw [ha] at e3; cases e3
      exact H
  · rcases List.mem_append.mp hd with q | q
    · exact h6 d q
    · rw [List.mem_singleton.mp q]
      cases z : σ₀ dx with
      | none => rfl
      | some o => rw [s0 dx o z] at hx; cases hx
end Mine

open PySem PySem.W PySem.Calls PyProof.Rows
namespace Mine
/-! ## names of a frame with cells -/
section
variable {n : Nat} {c : Cx} {sc scope : Scope} {m : Loc} {σ : Store} {X : Value → Loc → Store → Prop} {x : Str} {pos : Pos} {v : Value}
theorem cell_has (hs : c.env.scope = sc) (hc : c.env.cells = cellsFrom (c.env.locals + 1) sc.names []) (hx : sc.names.lookup x = some .cell) : ∃ a, c.env.cells.lookup x = some a := by
  rw [hc]; exact Option.isSome_iff_exists.mp (cellsFrom_some _ _ _ (.inl hx))
theorem cell_no {k : NameKind} (hc : c.env.cells = cellsFrom (c.env.locals + 1) sc.names []) (hx : sc.names.lookup x = some k) (hk : k ≠ .cell) (nd : (sc.names.map (·.1)).Nodup) : c.env.cells.lookup x = none := by
  rw [hc]
  cases e : (cellsFrom (c.env.locals + 1) sc.names []).lookup x with
  | none => rfl
  | some a =>
    rcases cf_kind sc.names (c.env.locals + 1) [] (x, a) (mem_of_look e) with q | q
    · cases q
    · rw [look_mem_nodup nd q] at hx; exact absurd (Option.some.inj hx).symm hk
theorem n_cell {Q : Value → Loc → Store → Prop} (g : Gnd n c) (hs : c.env.scope = sc) (hc : c.env.cells = cellsFrom (c.env.locals + 1) sc.names []) (hx : sc.names.lookup x = some .cell) (hd : (x == ("__debug__" : Str)) = false) (hv : m x = some v) (h : Q v m σ) :
    W c (eval (.Name x pos) c.env) m σ Q X := let ⟨_, ha⟩ := cell_has hs hc hx; w_cell g.knd (kind_is hs hx) ha hd hv h
theorem n_setcell {Q : Unit → Loc → Store → Prop} (g : Gnd n c) (hs : c.env.scope = sc) (hc : c.env.cells = cellsFrom (c.env.locals + 1) sc.names []) (hx : sc.names.lookup x = some .cell) (h : Q () (setM m x v) σ) : W c (storeName c.env x v) m σ Q X :=
  let ⟨_, ha⟩ := cell_has hs hc hx; w_store_cell g.knd (kind_is hs hx) ha h
theorem n_localC {Q : Value → Loc → Store → Prop} (g : Gnd n c) (hs : c.env.scope = sc) (hc : c.env.cells = cellsFrom (c.env.locals + 1) sc.names []) (nd : (sc.names.map (·.1)).Nodup) (hx : sc.names.lookup x = some .local) (hd : (x == ("__debug__" : Str)) = false) (hv : m x = some v) (h : Q v m σ) :
    W c (eval (.Name x pos) c.env) m σ Q X := w_local g.knd (kind_is hs hx) (cell_no hc hx (fun q => nomatch q) nd) hd hv h
theorem n_storeC {Q : Unit → Loc → Store → Prop} (g : Gnd n c) (hs : c.env.scope = sc) (hc : c.env.cells = cellsFrom (c.env.locals + 1) sc.names []) (nd : (sc.names.map (·.1)).Nodup) (hx : sc.names.lookup x = some .local) (h : Q () (setM m x v) σ) : W c (storeName c.env x v) m σ Q X :=
  w_store g.knd (kind_is hs hx) (cell_no hc hx (fun q => nomatch q) nd) h
theorem cn_cellC {e : Env} {C : Addr} {Q : Value → Loc → Store → Prop} (E : CompEnv c scope e C) (hs : c.env.scope = sc) (hc : c.env.cells = cellsFrom (c.env.locals + 1) sc.names []) (hx : scope.names.lookup x = some .free) (hk : sc.names.lookup x = some .cell) (hd : (x == ("__debug__" : Str)) = false) (hv : m x = some v) (h : Q v m σ) :
    W c (eval (.Name x pos) e) m σ Q X := let ⟨_, ha⟩ := cell_has hs hc hk; cn_cell E hx (kind_is hs hk) ha hd hv h
theorem allfree (hs : c.env.scope = sc) (hc : c.env.cells = cellsFrom (c.env.locals + 1) sc.names []) {names : List (Str × NameKind)} (h : (names.all fun y => y.2 != .free || sc.names.lookup y.1 == some .cell) = true) : ∀ y ∈ names, y.2 = NameKind.free → ∃ a, c.env.cells.lookup y.1 = some a := fun y hy e => by
  have := List.all_eq_true.mp h y hy
  rw [e] at this
  exact cell_has hs hc (eq_of_beq (Bool.or_eq_true_iff.mp this |>.resolve_left (by decide)))
end

/-- the body of a def with cells that raises nothing -/
theorem fn_bodyC {n : Nat} {σ : Store} {g : Pg} {f : Addr} {args : List Value} {Q : Value → Store → Prop} {name qual : Str} {params : Arguments} {body : List Stmt} {scope : Scope} {dV kV doc pm cdv ct oc : Value} {an od : Option Addr} {osl : Array (Option Value)} (binds : List (Str × Value))
    (ho : g.K.lookup f = some ⟨oc, od, .func (fnX name qual params body scope [] dV kV doc pm an cdv ct), osl⟩) (hcd : codeIn g.K cdv qual = true)
    (hb : bindArgs (fnX name qual params body scope [] dV kV doc pm an cdv ct) ⟨args, []⟩ = pure binds) (hkind : (binds.all fun y => scope.names.lookup y.1 == some .local || scope.names.lookup y.1 == some .cell) = true)
    (hnd : (scope.names.map (·.1)).Nodup)
    (hco : scope.isCoroutine = false) (hgen : scope.isGenerator = false) (hk : scope.kind = .function)
    (h : ∀ (c : Cx) (m : Loc), c.g = g → Gnd n c → c.env.scope = scope → c.env.cells = cellsFrom (c.env.locals + 1) scope.names [] → (scope.names.map (·.1)).Nodup → interactive c.env = false → (∀ y, m y = binds.reverse.lookup y) → W c (execs body c.env) m σ (fun fl _ σ' => Q (match fl with | .ret v => v | _ => .none) σ') NoX) :
    Fn g (n + 1) (.ref f) args σ Q NoE :=
  fn_of_bodyC ho hcd hb hkind hnd hco hgen hk fun c h1 h2 h3 h4 => (h c _ h1 h2 h3 h4 hnd (by unfold interactive; rw [h3, hk]; rfl) fun _ => rfl).mono (fun _ _ _ q => q) fun _ _ _ q => q.elim

/-! ## a ring at work -/
structure Going (P : Params) (CH CR : Addr) (L : RL) (nums : List Int) (R : Rng) (σ : Store) : Prop where
  A : RingAt P CH CR L σ R
  G : Good nums R
  cnt : R.road.length ≤ R.many
theorem bnd_le : ∀ n, n ≤ 64 → bnd n ≤ 100000 := by
  intro n h
  have : ∀ k : Fin 65, bnd k.val ≤ 100000 := by decide +kernel
  exact this ⟨n, by omega⟩
section
variable {P : Params} {CH CR : Addr} {L : RL} {nums : List Int} {R : Rng} {σ σ' : Store}
theorem Going.road (H : Going P CH CR L nums R σ) (h : nums.length ≤ 64) : R.road.length ≤ 100000 := Nat.le_trans H.cnt (Nat.le_trans (H.G.bound h) (bnd_le _ h))
theorem Going.lenx (H : Going P CH CR L nums R σ) : L.xs.length = nums.length := H.A.lenx.trans H.G.len
theorem Going.sub (H : Going P CH CR L nums R σ) (s : Sub σ σ') : Going P CH CR L nums R σ' := ⟨H.A.sub s, H.G, H.cnt⟩
end
/-- what a deed leaves -/
def Next (P : Params) (CH CR : Addr) (L : RL) (nums : List Int) (R : Rng) (σ σ' : Store) : Prop := ∃ R', Going P CH CR L nums R' σ' ∧ R.Le R' ∧ Keep L.D σ σ'
theorem Next.trans {P : Params} {CH CR : Addr} {L : RL} {nums : List Int} {R R₁ : Rng} {σ σ₁ σ₂ : Store} (h1 : R.Le R₁) (k1 : Keep L.D σ σ₁) (h : Next P CH CR L nums R₁ σ₁ σ₂) : Next P CH CR L nums R σ σ₂ := by
  obtain ⟨R', a, b, k⟩ := h
  exact ⟨R', a, h1.trans b, k1.trans k⟩
theorem fmod_nat {n : Nat} (hn : 0 < n) (z : Int) : ∃ j : Nat, z.fmod (n : Int) = (j : Int) ∧ j < n := by
  have h1 := Int.fmod_nonneg_of_pos z (show (0 : Int) < (n : Int) by omega)
  have h2 := Int.fmod_lt_of_pos z (show (0 : Int) < (n : Int) by omega)
  exact ⟨(z.fmod n).toNat, by omega, by omega⟩
section
variable {P : Params} {CH CR : Addr} {L : RL} {nums : List Int} {R : Rng} {σ σ' : Store}
theorem Going.mail (H : Going P CH CR L nums R σ) {k : Nat} (hk : k < R.road.length) : ∃ d l h, R.road[k]? = some (d, l) ∧ R.hands[d]? = some h := by
  obtain ⟨h, e, _⟩ := H.G.mail (k := k) (p := (R.road[k]).1) (l := (R.road[k]).2) (List.getElem?_eq_getElem hk)
  exact ⟨_, _, h, List.getElem?_eq_getElem hk, e⟩
theorem Going.brought (H : Going P CH CR L nums R σ) {k : Nat} (hk : k < R.road.length) (A : RingAt P CH CR L σ' (R.bring k)) (K : Keep L.D σ σ') : Next P CH CR L nums R σ σ' :=
  ⟨R.bring k, ⟨A, good_bring H.G k, (H.G.bring_count hk H.cnt).1⟩, R.bring_le k, K⟩
theorem Going.woken (H : Going P CH CR L nums R σ) {p : Nat} (A : RingAt P CH CR L σ' (R.wake p)) (K : Keep L.D σ σ') : Next P CH CR L nums R σ σ' :=
  ⟨R.wake p, ⟨A, good_wake H.G p, (R.wake_count p H.cnt).1⟩, R.wake_le p, K⟩
theorem Going.hand (H : Going P CH CR L nums R σ) {p : Nat} (hp : p < nums.length) : ∃ h, R.hands[p]? = some h := ⟨_, List.getElem?_eq_getElem (by rw [H.G.len]; exact hp)⟩
end
end Mine

open PySem PySem.W PySem.Calls PyProof.Rows
namespace Mine
theorem x_if_cut {c : Cx} {env : Env} {m : Loc} {σ : Store} {X : Value → Loc → Store → Prop} {Q : Flow → Loc → Store → Prop} {test : Expr} {body orelse rest : List Stmt} {pos : Pos} (J : Loc → Store → Prop)
    (h : W c (isTrue test env (eval test env)) m σ (fun b m' σ' => Br b (W c (execs body env) m' σ' (fun f m₂ σ₂ => match f with | .next => J m₂ σ₂ | f => Q f m₂ σ₂) X) (W c (execs orelse env) m' σ' (fun f m₂ σ₂ => match f with | .next => J m₂ σ₂ | f => Q f m₂ σ₂) X)) X)
    (hr : ∀ m σ, J m σ → W c (execs rest env) m σ Q X) : W c (execs (.If test body orelse pos :: rest) env) m σ Q X := by
  refine w_execs_cons (w_if (h.mono (fun b m' σ' q => ?_) fun _ _ _ q => q))
  cases b with
  | true => exact (q.1 rfl).mono (fun f m₂ σ₂ z => by
      cases f with
      | next => exact hr _ _ z
      | brk => exact z
      | cont => exact z
      | ret v => exact z) fun _ _ _ q => q
  | false => exact (q.2 rfl).mono (fun f m₂ σ₂ z => by
      cases f with
      | next => exact hr _ _ z
      | brk => exact z
      | cont => exact z
      | ret v => exact z) fun _ _ _ q => q

/-- a list of numbers for a ring -/
structure Fit (nums : List Int) : Prop where
  pos : 1 ≤ nums.length
  most : nums.length ≤ 64
  nn : ∀ a ∈ nums, 0 ≤ a
  nd : nums.Nodup
theorem fit_of {n : Nat} {f : Nat → Int} (h1 : 1 ≤ n) (h2 : n ≤ 64) (h3 : ∀ k, k < n → 0 ≤ f k) (h4 : ∀ j k, j < k → k < n → f j ≠ f k) : Fit ((List.range n).map f) := by
  refine ⟨by simpa using h1, by simpa using h2, fun a ha => ?_, ?_⟩
  · obtain ⟨k, hk, rfl⟩ := List.mem_map.mp ha
    exact h3 k (List.mem_range.mp hk)
  · rw [List.nodup_iff_pairwise_ne, List.pairwise_map]
    refine (List.pairwise_lt_range (n := n)).imp_of_mem fun {a b} ha hb hab => h4 a b hab (List.mem_range.mp hb)
theorem fmod_pos_eq {a n : Int} (h : 0 < n) : a.fmod n = a % n := Int.fmod_eq_emod_of_nonneg _ (by omega)
theorem shift_inj {n s : Int} (hn : 0 < n) {j k : Nat} (hjk : j < k) (hk : (k : Int) < n) : ((j : Int) + s).fmod n ≠ ((k : Int) + s).fmod n := by
  rw [fmod_pos_eq hn, fmod_pos_eq hn]
  intro e
  have e2 := Int.emod_emod_of_dvd ((k : Int) + s - ((j : Int) + s)) (Int.dvd_refl n)
  have : ((k : Int) + s - ((j : Int) + s)) % n = 0 := Int.emod_eq_emod_iff_emod_sub_eq_zero.mp e.symm
  rw [show (k : Int) + s - ((j : Int) + s) = (k : Int) - j by omega, Int.emod_eq_of_lt (by omega) (by omega)] at this
  omega
theorem nums1 {n : Nat} {s w : Int} (h1 : 1 ≤ n) (h2 : n ≤ 64) (hw : 0 < w) : Fit ((List.range n).map fun k : Nat => ((k : Int) + s).fmod (n : Int) * w) := by
  refine fit_of h1 h2 (fun k _ => Int.mul_nonneg (Int.fmod_nonneg_of_pos _ (by omega)) (by omega)) fun j k hjk hk e => ?_
  exact shift_inj (n := (n : Int)) (s := s) (by omega) hjk (by omega) (Int.eq_of_mul_eq_mul_right (by omega) e)
theorem nums2 {n : Nat} {s w : Int} (h1 : 1 ≤ n) (h2 : n ≤ 64) (hw : 0 < w) : Fit ((List.range n).map fun k : Nat => ((n : Int) - 1 - ((k : Int) + s).fmod (n : Int)) * w) := by
  refine fit_of h1 h2 (fun k _ => Int.mul_nonneg ?_ (by omega)) fun j k hjk hk e => ?_
  · have := Int.fmod_lt_of_pos ((k : Int) + s) (show (0 : Int) < n by omega)
    omega
  · have e2 := Int.eq_of_mul_eq_mul_right (by omega) e
    exact shift_inj (n := (n : Int)) (s := s) (by omega) hjk (by omega) (by omega)
theorem nums3 {n : Nat} {g : Nat → Int} {w : Int} (h1 : 1 ≤ n) (h2 : n ≤ 64) (hw : 0 < w) : Fit ((List.range n).map fun k : Nat => (g k).fmod w * 64 + (k : Int)) := by
  refine fit_of h1 h2 (fun k _ => ?_) fun j k hjk hk e => ?_
  · have := Int.fmod_nonneg_of_pos (g k) hw
    omega
  · omega
theorem ints_snoc {vs : List Value} {ns : List Int} (h : IntsAre vs ns) (a : Int) (t : Tok) : IntsAre (vs ++ [.int a t]) (ns ++ [a]) := by
  induction h with
  | nil => exact .cons a t .nil
  | cons n u _ ih => exact .cons n u ih
theorem ints_next {ys : List Value} {i : Nat} {f : Nat → Int} (h : IntsAre ys ((List.range i).map f)) {a : Int} {t : Tok} (e : a = f i) : IntsAre (ys ++ [.int a t]) ((List.range (i + 1)).map f) := by
  rw [List.range_succ, List.map_append, e]
  exact ints_snoc h _ _
end Mine

open PySem PySem.W PySem.Calls PyProof.Rows
namespace Mine
theorem bools_snoc {vs : List Value} {bs : List Bool} (h : LSm.BoolsAre vs bs) (b : Bool) : LSm.BoolsAre (vs ++ [.bool b]) (bs ++ [b]) := by
  induction h with
  | nil => exact .cons b .nil
  | cons n _ ih => exact .cons n ih
theorem ints_rep {a : Int} {t : Tok} : ∀ n : Nat, IntsAre (List.replicate n [Value.int a t]).flatten (List.replicate n a)
  | 0 => .nil
  | n + 1 => by
    rw [List.replicate_succ, List.replicate_succ, List.flatten_cons]
    exact .cons a t (ints_rep n)
theorem ints_at {vs : List Value} {ns : List Int} (h : IntsAre vs ns) : ∀ {j : Nat} {a : Int}, ns[j]? = some a → ∃ t, vs[j]? = some (.int a t) := by
  induction h with
  | nil => intro j a e; simp at e
  | cons n t _ ih =>
    intro j a e
    cases j with
    | zero => simp at e; subst e; exact ⟨t, rfl⟩
    | succ j => simpa using ih (by simpa using e)
theorem ints_drop {vs : List Value} {ns : List Int} (h : IntsAre vs ns) : ∀ k : Nat, IntsAre (vs.drop k) (ns.drop k) := by
  induction h with
  | nil => intro k; simp; exact .nil
  | cons n t h ih =>
    intro k
    cases k with
    | zero => exact .cons n t h
    | succ k => exact ih k
end Mine

open PySem PySem.W PySem.Calls PyProof.Rows
namespace Mine
theorem ints_nm {vs : List Value} {nums : List Int} (h : IntsAre vs nums) {q : Nat} (hq : q < nums.length) : ∃ t, vs[q]? = some (.int (nmAt nums q) t) :=
  ints_at h (by unfold nmAt; rw [List.getD_eq_getElem?_getD, List.getElem?_eq_getElem hq]; rfl)
theorem max_same {nums : List Int} {M x : Int} (h1 : M ∈ nums) (h2 : ∀ y ∈ nums, y ≤ M) (h3 : x ∈ nums) (h4 : ∀ q, q < nums.length → nmAt nums q ≤ x) : x = M := by
  have := h2 x h3
  obtain ⟨q, hq, e⟩ := List.getElem_of_mem h1
  have h5 := h4 q hq
  have e2 : nmAt nums q = M := by unfold nmAt; rw [List.getD_eq_getElem?_getD, List.getElem?_eq_getElem hq]; exact e
  omega
theorem won_is {nums : List Int} {M : Int} {b : Bool} {p : Nat} (h1 : M ∈ nums) (h2 : ∀ y ∈ nums, y ≤ M) (hp : p < nums.length) (hw : b = true ↔ ∀ q, q < nums.length → nmAt nums q ≤ nmAt nums p) : (b == (nmAt nums p == M)) = true := by
  have nmem : nmAt nums p ∈ nums := by
    unfold nmAt
    rw [List.getD_eq_getElem?_getD, List.getElem?_eq_getElem hp]
    exact List.getElem_mem hp
  have nin : ∀ q, q < nums.length → nmAt nums q ∈ nums := fun q hq => by
    unfold nmAt
    rw [List.getD_eq_getElem?_getD, List.getElem?_eq_getElem hq]
    exact List.getElem_mem hq
  cases b with
  | true =>
    have e := max_same h1 h2 nmem (hw.mp rfl)
    rw [e, beq_self_eq_true]; rfl
  | false =>
    have e : nmAt nums p ≠ M := fun q => by
      have := hw.mpr fun r hr => q ▸ h2 _ (nin r hr)
      cases this
    rw [beq_eq_false_iff_ne.mpr e]; rfl
end Mine

open PySem PySem.W PySem.Calls PyProof.Rows
namespace Mine
/-! ## what the classes give -/
theorem fo_h_number {g : Pg} (hK : g.K = heap g.w.params) : FieldOk g.K 157 (Str.ofString "number") := ⟨by rw [hK]; k_is, by rw [hK]; k_is, by rw [hK]; k_is, by rw [hK]; k_is, by rw [hK]; k_is⟩
theorem fo_h_at_stage {g : Pg} (hK : g.K = heap g.w.params) : FieldOk g.K 157 (Str.ofString "at_stage") := ⟨by rw [hK]; k_is, by rw [hK]; k_is, by rw [hK]; k_is, by rw [hK]; k_is, by rw [hK]; k_is⟩
theorem fo_h_far {g : Pg} (hK : g.K = heap g.w.params) : FieldOk g.K 157 (Str.ofString "far") := ⟨by rw [hK]; k_is, by rw [hK]; k_is, by rw [hK]; k_is, by rw [hK]; k_is, by rw [hK]; k_is⟩
theorem fo_h_had {g : Pg} (hK : g.K = heap g.w.params) : FieldOk g.K 157 (Str.ofString "had") := ⟨by rw [hK]; k_is, by rw [hK]; k_is, by rw [hK]; k_is, by rw [hK]; k_is, by rw [hK]; k_is⟩
theorem fo_h_lost {g : Pg} (hK : g.K = heap g.w.params) : FieldOk g.K 157 (Str.ofString "lost") := ⟨by rw [hK]; k_is, by rw [hK]; k_is, by rw [hK]; k_is, by rw [hK]; k_is, by rw [hK]; k_is⟩
theorem fo_h_won {g : Pg} (hK : g.K = heap g.w.params) : FieldOk g.K 157 (Str.ofString "won") := ⟨by rw [hK]; k_is, by rw [hK]; k_is, by rw [hK]; k_is, by rw [hK]; k_is, by rw [hK]; k_is⟩
theorem fo_h_greatest {g : Pg} (hK : g.K = heap g.w.params) : FieldOk g.K 157 (Str.ofString "greatest") := ⟨by rw [hK]; k_is, by rw [hK]; k_is, by rw [hK]; k_is, by rw [hK]; k_is, by rw [hK]; k_is⟩
theorem mo_h_two_asks {g : Pg} (hK : g.K = heap g.w.params) : MethOk g.K 157 (Str.ofString "two_asks") 91 := ⟨by rw [hK]; k_is, by rw [hK]; k_is, by rw [hK]; k_is, by rw [hK]; k_is⟩
theorem mo_h_wake {g : Pg} (hK : g.K = heap g.w.params) : MethOk g.K 157 (Str.ofString "wake") 98 := ⟨by rw [hK]; k_is, by rw [hK]; k_is, by rw [hK]; k_is, by rw [hK]; k_is⟩
theorem mo_h_take {g : Pg} (hK : g.K = heap g.w.params) : MethOk g.K 157 (Str.ofString "take") 105 := ⟨by rw [hK]; k_is, by rw [hK]; k_is, by rw [hK]; k_is, by rw [hK]; k_is⟩
theorem mo_h_ask_came {g : Pg} (hK : g.K = heap g.w.params) : MethOk g.K 157 (Str.ofString "ask_came") 112 := ⟨by rw [hK]; k_is, by rw [hK]; k_is, by rw [hK]; k_is, by rw [hK]; k_is⟩
theorem mo_h_answer_came {g : Pg} (hK : g.K = heap g.w.params) : MethOk g.K 157 (Str.ofString "answer_came") 119 := ⟨by rw [hK]; k_is, by rw [hK]; k_is, by rw [hK]; k_is, by rw [hK]; k_is⟩
theorem mo_h_crown_came {g : Pg} (hK : g.K = heap g.w.params) : MethOk g.K 157 (Str.ofString "crown_came") 126 := ⟨by rw [hK]; k_is, by rw [hK]; k_is, by rw [hK]; k_is, by rw [hK]; k_is⟩
theorem mo_h_is_awake {g : Pg} (hK : g.K = heap g.w.params) : MethOk g.K 157 (Str.ofString "is_awake") 133 := ⟨by rw [hK]; k_is, by rw [hK]; k_is, by rw [hK]; k_is, by rw [hK]; k_is⟩
theorem mo_h_is_first {g : Pg} (hK : g.K = heap g.w.params) : MethOk g.K 157 (Str.ofString "is_first") 140 := ⟨by rw [hK]; k_is, by rw [hK]; k_is, by rw [hK]; k_is, by rw [hK]; k_is⟩
theorem mo_h_stage {g : Pg} (hK : g.K = heap g.w.params) : MethOk g.K 157 (Str.ofString "stage") 147 := ⟨by rw [hK]; k_is, by rw [hK]; k_is, by rw [hK]; k_is, by rw [hK]; k_is⟩
theorem mo_h_knows {g : Pg} (hK : g.K = heap g.w.params) : MethOk g.K 157 (Str.ofString "knows") 154 := ⟨by rw [hK]; k_is, by rw [hK]; k_is, by rw [hK]; k_is, by rw [hK]; k_is⟩
theorem fo_r_hands {g : Pg} (hK : g.K = heap g.w.params) : FieldOk g.K 267 (Str.ofString "hands") := ⟨by rw [hK]; k_is, by rw [hK]; k_is, by rw [hK]; k_is, by rw [hK]; k_is, by rw [hK]; k_is⟩
theorem fo_r_road {g : Pg} (hK : g.K = heap g.w.params) : FieldOk g.K 267 (Str.ofString "road") := ⟨by rw [hK]; k_is, by rw [hK]; k_is, by rw [hK]; k_is, by rw [hK]; k_is, by rw [hK]; k_is⟩
theorem fo_r_many {g : Pg} (hK : g.K = heap g.w.params) : FieldOk g.K 267 (Str.ofString "many") := ⟨by rw [hK]; k_is, by rw [hK]; k_is, by rw [hK]; k_is, by rw [hK]; k_is, by rw [hK]; k_is⟩
theorem mo_r_wake {g : Pg} (hK : g.K = heap g.w.params) : MethOk g.K 267 (Str.ofString "wake") 208 := ⟨by rw [hK]; k_is, by rw [hK]; k_is, by rw [hK]; k_is, by rw [hK]; k_is⟩
theorem mo_r_is_awake {g : Pg} (hK : g.K = heap g.w.params) : MethOk g.K 267 (Str.ofString "is_awake") 243 := ⟨by rw [hK]; k_is, by rw [hK]; k_is, by rw [hK]; k_is, by rw [hK]; k_is⟩
theorem mo_r_is_first {g : Pg} (hK : g.K = heap g.w.params) : MethOk g.K 267 (Str.ofString "is_first") 250 := ⟨by rw [hK]; k_is, by rw [hK]; k_is, by rw [hK]; k_is, by rw [hK]; k_is⟩
theorem mo_r_stage {g : Pg} (hK : g.K = heap g.w.params) : MethOk g.K 267 (Str.ofString "stage") 257 := ⟨by rw [hK]; k_is, by rw [hK]; k_is, by rw [hK]; k_is, by rw [hK]; k_is⟩
theorem mo_r_knows {g : Pg} (hK : g.K = heap g.w.params) : MethOk g.K 267 (Str.ofString "knows") 264 := ⟨by rw [hK]; k_is, by rw [hK]; k_is, by rw [hK]; k_is, by rw [hK]; k_is⟩
theorem mo_r_hand_at {g : Pg} (hK : g.K = heap g.w.params) : MethOk g.K 267 (Str.ofString "hand_at") 194 := ⟨by rw [hK]; k_is, by rw [hK]; k_is, by rw [hK]; k_is, by rw [hK]; k_is⟩
theorem mo_r_posted {g : Pg} (hK : g.K = heap g.w.params) : MethOk g.K 267 (Str.ofString "posted") 201 := ⟨by rw [hK]; k_is, by rw [hK]; k_is, by rw [hK]; k_is, by rw [hK]; k_is⟩
theorem mo_r_mails {g : Pg} (hK : g.K = heap g.w.params) : MethOk g.K 267 (Str.ofString "mails") 215 := ⟨by rw [hK]; k_is, by rw [hK]; k_is, by rw [hK]; k_is, by rw [hK]; k_is⟩
theorem mo_r_bring {g : Pg} (hK : g.K = heap g.w.params) : MethOk g.K 267 (Str.ofString "bring") 222 := ⟨by rw [hK]; k_is, by rw [hK]; k_is, by rw [hK]; k_is, by rw [hK]; k_is⟩
theorem mo_r_rest {g : Pg} (hK : g.K = heap g.w.params) : MethOk g.K 267 (Str.ofString "rest") 229 := ⟨by rw [hK]; k_is, by rw [hK]; k_is, by rw [hK]; k_is, by rw [hK]; k_is⟩
theorem mo_r_sent {g : Pg} (hK : g.K = heap g.w.params) : MethOk g.K 267 (Str.ofString "sent") 236 := ⟨by rw [hK]; k_is, by rw [hK]; k_is, by rw [hK]; k_is, by rw [hK]; k_is⟩
local macro_rules | `(tactic| walk_at "FO") => `(tactic| first | with_reducible exact fo_h_number (by assumption) | with_reducible exact fo_h_at_stage (by assumption) | with_reducible exact fo_h_far (by assumption) | with_reducible exact fo_h_had (by assumption) | with_reducible exact fo_h_lost (by assumption) | with_reducible exact fo_h_won (by assumption) | with_reducible exact fo_h_greatest (by assumption) | with_reducible exact fo_r_hands (by assumption) | with_reducible exact fo_r_road (by assumption) | with_reducible exact fo_r_many (by assumption))
local macro_rules | `(tactic| walk_at "MO") => `(tactic| first | with_reducible exact mo_h_two_asks (by assumption) | with_reducible exact mo_h_wake (by assumption) | with_reducible exact mo_h_take (by assumption) | with_reducible exact mo_h_ask_came (by assumption) | with_reducible exact mo_h_answer_came (by assumption) | with_reducible exact mo_h_crown_came (by assumption) | with_reducible exact mo_h_is_awake (by assumption) | with_reducible exact mo_h_is_first (by assumption) | with_reducible exact mo_h_stage (by assumption) | with_reducible exact mo_h_knows (by assumption) | with_reducible exact mo_r_wake (by assumption) | with_reducible exact mo_r_is_awake (by assumption) | with_reducible exact mo_r_is_first (by assumption) | with_reducible exact mo_r_stage (by assumption) | with_reducible exact mo_r_knows (by assumption) | with_reducible exact mo_r_hand_at (by assumption) | with_reducible exact mo_r_posted (by assumption) | with_reducible exact mo_r_mails (by assumption) | with_reducible exact mo_r_bring (by assumption) | with_reducible exact mo_r_rest (by assumption) | with_reducible exact mo_r_sent (by assumption))
theorem g_eval {c : Cx} {a0 : Expr} {a1 : Env} {m : Loc} {σ : Store} {Q : _ → Loc → Store → Prop} {X : Value → Loc → Store → Prop} (h : W c (@PySem.eval a0 a1) m σ Q X) : W c (@PySem.eval a0 a1) m σ Q X := h
theorem g_call {c : Cx} {a0 : Value} {a1 : List Value} {a2 : _} {m : Loc} {σ : Store} {Q : _ → Loc → Store → Prop} {X : Value → Loc → Store → Prop} (h : W c (@PySem.call a0 a1 a2) m σ Q X) : W c (@PySem.call a0 a1 a2) m σ Q X := h
theorem g_compareOp {c : Cx} {a0 : CmpOp} {a1 : Value} {a2 : Value} {m : Loc} {σ : Store} {Q : _ → Loc → Store → Prop} {X : Value → Loc → Store → Prop} (h : W c (@PySem.compareOp a0 a1 a2) m σ Q X) : W c (@PySem.compareOp a0 a1 a2) m σ Q X := h
theorem g_binaryOp {c : Cx} {a0 : Operator} {a1 : Value} {a2 : Value} {m : Loc} {σ : Store} {Q : _ → Loc → Store → Prop} {X : Value → Loc → Store → Prop} (h : W c (@PySem.binaryOp a0 a1 a2) m σ Q X) : W c (@PySem.binaryOp a0 a1 a2) m σ Q X := h
theorem g_subscriptTail {c : Cx} {a0 : Expr} {a1 : Expr} {a2 : Value} {a3 : Value} {m : Loc} {σ : Store} {Q : _ → Loc → Store → Prop} {X : Value → Loc → Store → Prop} (h : W c (@PyProof.Rows.subscriptTail a0 a1 a2 a3) m σ Q X) : W c (@PyProof.Rows.subscriptTail a0 a1 a2 a3) m σ Q X := h
theorem g_getAttr {c : Cx} {a0 : _} {a1 : _} {a2 : _} {m : Loc} {σ : Store} {Q : _ → Loc → Store → Prop} {X : Value → Loc → Store → Prop} (h : W c (@PySem.getAttr a0 a1 a2) m σ Q X) : W c (@PySem.getAttr a0 a1 a2) m σ Q X := h
theorem g_callWith {c : Cx} {a0 : _} {a1 : _} {a2 : _} {a3 : _} {a4 : _} {m : Loc} {σ : Store} {Q : _ → Loc → Store → Prop} {X : Value → Loc → Store → Prop} (h : W c (@PySem.callWith a0 a1 a2 a3 a4) m σ Q X) : W c (@PySem.callWith a0 a1 a2 a3 a4) m σ Q X := h
theorem g_getMethod {c : Cx} {a0 : _} {a1 : _} {a2 : _} {m : Loc} {σ : Store} {Q : _ → Loc → Store → Prop} {X : Value → Loc → Store → Prop} (h : W c (@PySem.getMethod a0 a1 a2) m σ Q X) : W c (@PySem.getMethod a0 a1 a2) m σ Q X := h
theorem g_setAttr {c : Cx} {a0 : _} {a1 : _} {a2 : _} {m : Loc} {σ : Store} {Q : _ → Loc → Store → Prop} {X : Value → Loc → Store → Prop} (h : W c (@PySem.setAttr a0 a1 a2) m σ Q X) : W c (@PySem.setAttr a0 a1 a2) m σ Q X := h
theorem g_execs {c : Cx} {a0 : List Stmt} {a1 : Env} {m : Loc} {σ : Store} {Q : _ → Loc → Store → Prop} {X : Value → Loc → Store → Prop} (h : W c (@PySem.execs a0 a1) m σ Q X) : W c (@PySem.execs a0 a1) m σ Q X := h
theorem g_isTrue {c : Cx} {a0 : _} {a1 : _} {a2 : _} {m : Loc} {σ : Store} {Q : _ → Loc → Store → Prop} {X : Value → Loc → Store → Prop} (h : W c (@PySem.isTrue a0 a1 a2) m σ Q X) : W c (@PySem.isTrue a0 a1 a2) m σ Q X := h
theorem g_name {c : Cx} {x : Str} {p : Pos} {env : Env} {m : Loc} {σ : Store} {Q : Value → Loc → Store → Prop} {X : Value → Loc → Store → Prop} (h : W c (eval (.Name x p) env) m σ Q X) : W c (eval (.Name x p) env) m σ Q X := h
/-! ## the walk's own steps -/
set_option hygiene false in
local macro_rules | `(tactic| walk_at "m") => `(tactic| first | with_reducible assumption | with_reducible exact setM_same | ((with_reducible refine setM_ne (by decide +kernel) ?_); walk_at "m"))
set_option hygiene false in
local macro_rules | `(tactic| walk_at "K") => `(tactic| (rw [hK]; k_is))
set_option hygiene false in
local macro_rules | `(tactic| walk_at "o") => `(tactic| first | with_reducible assumption | with_reducible exact upd_same | ((with_reducible refine look_new (by assumption) ?_); walk_at "o") | ((with_reducible refine look_off (by assumption) ?_); walk_at "o"))
set_option hygiene false in
local macro_rules | `(tactic| walk_at "enter") => `(tactic| ((case k6 => walk_at "K"); (case k7 => walk_at "K"); (case k9 => exact rfl); (case kB => exact locs rfl); (case c5 => decide +kernel); (case c2 => exact rfl); (case c3 => exact rfl); (case c4 => exact rfl)))
set_option hygiene false in
local macro_rules | `(tactic| walk_at "stmt") => `(tactic| first
  | with_reducible refine app_nil ?_
  | with_reducible refine app_cons ?_
  | ((with_reducible refine x_assign ?hs ?_); (case hs => exact rfl))
  | with_reducible refine x_ret ?_
  | ((with_reducible refine x_attr ?hs ?_); (case hs => exact rfl))
  | ((with_reducible refine x_expr (by assumption) ?hs ?_); (case hs => exact rfl))
  | with_reducible refine x_pass ?_
  | with_reducible refine x_nil ?_
  | ((with_reducible refine x_for ?_ rfl ?hs); rotate_left; (case hs => intro _; exact rfl)))
set_option hygiene false in
local macro_rules | `(tactic| walk_at "name") => `(tactic| first
  | with_reducible refine n_local (by assumption) (by assumption) (by assumption) (by decide +kernel) (by decide +kernel) (by walk_at "m") ?_
  | with_reducible refine n_cell (by assumption) (by assumption) (by assumption) (by decide +kernel) (by decide +kernel) (by walk_at "m") ?_
  | with_reducible refine n_localC (by assumption) (by assumption) (by assumption) (by assumption) (by decide +kernel) (by decide +kernel) (by walk_at "m") ?_
  | ((with_reducible refine' n_glob ?k1 ?k2 ?k3 ?k4 ?k5 ?_); (case k1 => assumption); (case k2 => assumption); (case k3 => decide +kernel); (case k4 => decide +kernel); (case k5 => walk_at "K"))
  | ((with_reducible refine' n_built ?k1 ?k2 ?k3 ?k4 ?k5 ?k6 ?k7 ?_); (case k1 => assumption); (case k2 => assumption); (case k3 => decide +kernel); (case k4 => decide +kernel); (case k5 => walk_at "K"); (case k6 => decide +kernel); (case k7 => boot_fast))
  | with_reducible refine cn_cellC (by assumption) (by assumption) (by assumption) (by decide +kernel) (by decide +kernel) (by decide +kernel) (by walk_at "m") ?_
  | with_reducible refine cn_local (by assumption) (by decide +kernel) (by decide +kernel) (by walk_at "o") (by assumption) (by assumption) ?_
  | ((with_reducible refine' cn_glob ?k0 ?k1 ?k2 ?k3 ?k4 ?_); (case k0 => assumption); (case k1 => assumption); (case k2 => decide +kernel); (case k3 => decide +kernel); (case k4 => walk_at "K"))
  | ((with_reducible refine' cn_built ?k0 ?k1 ?k2 ?k3 ?k5 ?k6 ?k7 ?_); (case k0 => assumption); (case k1 => assumption); (case k2 => decide +kernel); (case k3 => decide +kernel); (case k5 => walk_at "K"); (case k6 => decide +kernel); (case k7 => boot_fast)))
set_option hygiene false in
local macro_rules | `(tactic| walk_at "expr") => `(tactic| first
  | with_reducible refine w_int fun _ => ?_
  | with_reducible refine w_none ?_
  | with_reducible refine w_bool ?_
  | with_reducible refine w_str fun _ => ?_
  | with_reducible refine w_binop ?_
  | ((with_reducible refine w_attr ?_ ?he); rotate_left; (case he => with_unfolding_all exact rfl))
  | ((with_reducible refine w_cmp ?_ ?he); rotate_left; (case he => with_unfolding_all exact rfl))
  | with_reducible refine w_tuple ?_
  | with_reducible refine w_list ?_
  | walk_at "sl"
  | with_reducible refine w_sub ?_
  | ((with_reducible refine' w_meth ?_ ?he); (case he => exact rfl))
  | ((with_reducible refine' w_call ?_ ?he); (case he => exact rfl))
  | with_reducible refine w_unop ?_
  | with_reducible refine e_and ?_
  | with_reducible refine e_or ?_
  | with_reducible refine w_one ?_
  | with_reducible refine e_if ?_)
set_option hygiene false in
local macro_rules | `(tactic| walk_at "test") => `(tactic| first
  | with_reducible refine t_not ?_
  | with_reducible refine b_and ?_
  | with_reducible refine t_and_nil ?_
  | with_reducible refine b_or ?_
  | with_reducible refine t_or_nil ?_
  | ((with_reducible refine t_chain ?_ ?he); rotate_left; (case he => with_unfolding_all exact rfl))
  | ((with_reducible refine t_cmp ?_ ?he); rotate_left; (case he => with_unfolding_all exact rfl))
  | ((with_reducible refine t_plain ?_ ?he); rotate_left; (case he => exact rfl)))
set_option hygiene false in
local macro_rules | `(tactic| walk_at "p_call") => `(tactic| first
  | ((with_reducible refine' w_set_ints ?k1 ?k2 ?k3 ?k4 (fun _ _ _ _ => ?_)); (case k1 => assumption); (case k2 => walk_at "o"); (case k3 => assumption); (case k4 => walk_at "z"))
  | with_reducible refine call_nil ?_
  | with_reducible refine call_one ?_
  | with_reducible refine isi_int_int ?_
  | with_reducible refine isi_int_bool ?_
  | with_reducible refine isi_bool_bool ?_
  | with_reducible refine isi_bool_int ?_
  | ((with_reducible refine' isi_list ?k1 ?_); (case k1 => walk_at "o"))
  | ((with_reducible refine' w_len ?k1 ?k2 (fun _ => ?_)); (case k1 => walk_at "o"); (case k2 => walk_at "z"))
  | ((with_reducible refine' w_len_base ?k1 ?k2 (fun _ => ?_)); (case k1 => exact Gnd.base (by assumption)); (case k2 => walk_at "z"))
  | ((with_reducible refine' w_range1 (fun _ _ _ _ _ => ?_)))
  | ((with_reducible refine' w_range2 (fun _ _ _ _ _ => ?_)))
  | with_reducible refine i_abs fun _ => ?_
  | with_reducible refine i_ofbool fun _ => ?_
  | ((with_reducible refine' w_max ?k1 ?k2 ?k3 ?k4 (fun _ _ _ _ => ?_)); (case k1 => assumption); (case k2 => walk_at "o"); (case k3 => assumption); (case k4 => walk_at "z"))
  | ((with_reducible refine' w_copy ?k1 ?k2 (fun _ _ _ => ?_)); (case k1 => walk_at "o"); (case k2 => walk_at "z")))
set_option hygiene false in
local macro_rules | `(tactic| walk_at "p_compareOp") => `(tactic| first
  | ((with_reducible refine' eq_nil ?k0 ?k1 ?k2 ?_); (case k0 => assumption); (case k1 => walk_at "o"); (case k2 => walk_at "o"))
  | ((with_reducible refine' ne_nil ?k0 ?k1 ?k2 ?_); (case k0 => assumption); (case k1 => walk_at "o"); (case k2 => walk_at "o"))
  | with_reducible refine is_bools ?_
  | with_reducible refine isnot_bools ?_
  | with_reducible refine eq_bools ?_
  | with_reducible refine i_eq ?_
  | with_reducible refine i_ne ?_
  | with_reducible refine i_lt ?_
  | with_reducible refine i_gt ?_
  | with_reducible refine i_le ?_
  | with_reducible refine i_ge ?_
  | with_reducible refine s_eq ?_
  | with_reducible refine is_no ?_
  | with_reducible refine isnot_no ?_
  | with_reducible refine is_no_int ?_
  | with_reducible refine isnot_no_int ?_
  | with_reducible refine is_no_ref ?_
  | with_reducible refine isnot_no_ref ?_)
set_option hygiene false in
local macro_rules | `(tactic| walk_at "p_binaryOp") => `(tactic| first
  | ((with_reducible refine' i_pow ?k1 ?k2 ?k3 (fun _ => ?_)); (case k1 => decide); (case k2 => decide); (case k3 => decide))
  | ((with_reducible refine' i_mod ?k1 (fun _ => ?_)); (case k1 => walk_at "z"))
  | ((with_reducible refine' i_div ?k1 ?k2 (fun _ => ?_)); (case k1 => walk_at "z"); (case k2 => walk_at "z"))
  | ((with_reducible refine' i_mul (fun _ => ?_) ?k1); (case k1 => walk_at "mul"))
  | with_reducible refine i_add fun _ => ?_
  | with_reducible refine i_sub fun _ => ?_)
set_option hygiene false in
local macro_rules | `(tactic| walk_at "p_subscriptTail") => `(tactic| first
  | ((with_reducible refine' part_way ?k1 ?_ ?k6); rotate_right; (case k6 => with_unfolding_all exact rfl); (case k1 => walk_at "o"))
  | ((with_reducible refine' part_word ?k1 ?_ ?k6); rotate_right; (case k6 => with_unfolding_all exact rfl); (case k1 => walk_at "o"))
  | ((with_reducible refine' part_num ?k1 ?_ ?k6); rotate_right; (case k6 => with_unfolding_all exact rfl); (case k1 => walk_at "o"))
  | ((with_reducible refine' part_lstage ?k1 ?_ ?k6); rotate_right; (case k6 => with_unfolding_all exact rfl); (case k1 => walk_at "o"))
  | ((with_reducible refine' part_steps ?k1 ?_ ?k6); rotate_right; (case k6 => with_unfolding_all exact rfl); (case k1 => walk_at "o"))
  | ((with_reducible refine' part_dest ?k1 ?_ ?k6); rotate_right; (case k6 => with_unfolding_all exact rfl); (case k1 => walk_at "o")))
set_option hygiene false in
local macro_rules | `(tactic| walk_at "p_getAttr") => `(tactic| first
  | ((with_reducible refine' get_number ?k1 ?k2 ?k3 ?k4 ?_); (case k1 => assumption); (case k3 => walk_at "o"); (case k4 => walk_at "o"); (case k2 => walk_at "FO"))
  | ((with_reducible refine' get_far ?k1 ?k2 ?k3 ?k4 ?_); (case k1 => assumption); (case k3 => walk_at "o"); (case k4 => walk_at "o"); (case k2 => walk_at "FO"))
  | ((with_reducible refine' get_had ?k1 ?k2 ?k3 ?k4 ?_); (case k1 => assumption); (case k3 => walk_at "o"); (case k4 => walk_at "o"); (case k2 => walk_at "FO"))
  | ((with_reducible refine' get_lost ?k1 ?k2 ?k3 ?k4 ?_); (case k1 => assumption); (case k3 => walk_at "o"); (case k4 => walk_at "o"); (case k2 => walk_at "FO"))
  | ((with_reducible refine' get_won ?k1 ?k2 ?k3 ?k4 ?_); (case k1 => assumption); (case k3 => walk_at "o"); (case k4 => walk_at "o"); (case k2 => walk_at "FO"))
  | ((with_reducible refine' get_hands ?k1 ?k2 ?k3 ?k4 ?_); (case k1 => assumption); (case k3 => walk_at "o"); (case k4 => walk_at "o"); (case k2 => walk_at "FO"))
  | ((with_reducible refine' get_road ?k1 ?k2 ?k3 ?k4 ?_); (case k1 => assumption); (case k3 => walk_at "o"); (case k4 => walk_at "o"); (case k2 => walk_at "FO"))
  | ((with_reducible refine' get_many ?k1 ?k2 ?k3 ?k4 ?_); (case k1 => assumption); (case k3 => walk_at "o"); (case k4 => walk_at "o"); (case k2 => walk_at "FO"))
  | ((with_reducible refine' get_stage ?k1 ?k2 ?k3 ?k4 ?k5 ?_); (case k1 => assumption); (case k3 => walk_at "o"); (case k4 => walk_at "o"); (case k2 => walk_at "FO"); (case k5 => first | assumption | exact rfl))
  | ((with_reducible refine' get_stage0 ?k1 ?k2 ?k3 ?k4 ?k5 ?_); (case k1 => assumption); (case k3 => walk_at "o"); (case k4 => walk_at "o"); (case k2 => walk_at "FO"); (case k5 => first | assumption | exact rfl))
  | ((with_reducible refine' get_top ?k1 ?k2 ?k3 ?k4 ?k5 ?_); (case k1 => assumption); (case k3 => walk_at "o"); (case k4 => walk_at "o"); (case k2 => walk_at "FO"); (case k5 => first | assumption | exact rfl))
  | ((with_reducible refine' get_top0 ?k1 ?k2 ?k3 ?k4 ?k5 ?_); (case k1 => assumption); (case k3 => walk_at "o"); (case k4 => walk_at "o"); (case k2 => walk_at "FO"); (case k5 => first | assumption | exact rfl)))
set_option hygiene false in
local macro_rules | `(tactic| walk_at "p_callWith") => `(tactic| first
  | ((with_reducible refine' w_with ?k1 ?k2 ?_ ?k3 ?k4); (case k1 => assumption); (case k2 => walk_at "K"); rotate_left; (case k3 => exact rfl); (case k4 => exact rfl))
  | ((with_reducible refine' w_with0 ?k1 ?k2 ?_); (case k1 => assumption); (case k2 => walk_at "K"))
  | ((with_reducible refine' w_bwith ?k2 ?_ ?k3 ?k4); (case k2 => exact rfl); rotate_left; (case k3 => exact rfl); (case k4 => exact rfl))
  | ((with_reducible refine' w_bwith0 ?k2 ?_); (case k2 => exact rfl)))
set_option hygiene false in
local macro_rules | `(tactic| walk_at "p_getMethod") => `(tactic| first
  | ((with_reducible refine' w_getappend ?k1 ?_); (case k1 => walk_at "o"))
  | ((with_reducible refine' w_getpop ?k1 ?_); (case k1 => walk_at "o"))
  | ((with_reducible refine' meth_hand ?k1 ?k2 ?k3 ?k4 ?k5 ?_); (case k1 => assumption); (case k3 => walk_at "o"); (case k4 => walk_at "o"); (case k2 => walk_at "MO"); (case k5 => exact rfl))
  | ((with_reducible refine' meth_ring ?k1 ?k2 ?k3 ?k4 ?k5 ?_); (case k1 => assumption); (case k3 => walk_at "o"); (case k4 => walk_at "o"); (case k2 => walk_at "MO"); (case k5 => exact rfl)))
set_option hygiene false in
local macro_rules | `(tactic| walk_at "p_setAttr") => `(tactic| first
  | ((with_reducible refine' set_lost ?k1 ?k2 ?k3 ?k4 ?_); (case k1 => assumption); (case k3 => walk_at "o"); (case k4 => walk_at "o"); (case k2 => walk_at "FO"))
  | ((with_reducible refine' set_won ?k1 ?k2 ?k3 ?k4 ?_); (case k1 => assumption); (case k3 => walk_at "o"); (case k4 => walk_at "o"); (case k2 => walk_at "FO"))
  | ((with_reducible refine' set_top ?k1 ?k2 ?k3 ?k4 (fun _ => ?_)); (case k1 => assumption); (case k3 => walk_at "o"); (case k4 => walk_at "o"); (case k2 => walk_at "FO"))
  | ((with_reducible refine' set_new ?k1 ?k2 ?k3 ?k4 ?k5 ?k6 (fun _ => ?_)); (case k1 => assumption); (case k3 => walk_at "o"); (case k4 => walk_at "o"); (case k2 => walk_at "FO"); (case k5 => exact rfl); (case k6 => exact Nat.lt_of_succ_le (Nat.le_of_ble_eq_true rfl))))
set_option hygiene false in
local macro_rules | `(tactic| walk_at "p_rest") => `(tactic| first
  | with_reducible refine n_setcell (by assumption) (by assumption) (by assumption) (by decide +kernel) ?_
  | with_reducible refine n_storeC (by assumption) (by assumption) (by assumption) (by assumption) (by decide +kernel) ?_
  | with_reducible refine n_store (by assumption) (by assumption) (by assumption) (by decide +kernel) ?_
  | ((with_reducible refine w_spliced ?_ ?he); rotate_left; (case he => exact rfl))
  | with_reducible refine w_spliced_nil ?_
  | ((with_reducible refine w_newTuple (fun _ _ => ?_) ?hz); rotate_left; (case hz => exact Nat.le_of_ble_eq_true rfl))
  | ((with_reducible refine w_newList (fun _ _ => ?_) ?hz); rotate_left; (case hz => exact Nat.le_of_ble_eq_true rfl))
  | with_reducible refine v_bool ?_
  | with_reducible refine ev_part ?_
  | with_reducible refine u_not ?_
  | with_reducible refine i_neg fun _ => ?_)
set_option hygiene false in
local macro_rules | `(tactic| walk_at "br") => `(tactic| first
  | with_reducible refine br_true ?_
  | with_reducible refine br_false ?_
  | with_reducible refine br_not ?_)
set_option hygiene false in
local macro_rules | `(tactic| walk_at "s") => `(tactic| first
  | ((with_reducible refine g_name ?_); walk_at "name")
  | ((with_reducible refine g_eval ?_); walk_at "expr")
  | ((with_reducible refine g_call ?_); walk_at "p_call")
  | ((with_reducible refine g_compareOp ?_); walk_at "p_compareOp")
  | ((with_reducible refine g_binaryOp ?_); walk_at "p_binaryOp")
  | ((with_reducible refine g_subscriptTail ?_); walk_at "p_subscriptTail")
  | ((with_reducible refine g_getAttr ?_); walk_at "p_getAttr")
  | walk_at "p_rest"
  | ((with_reducible refine g_execs ?_); first | walk_at "stmt" | with_reducible refine x_if ?_)
  | ((with_reducible refine g_callWith ?_); walk_at "p_callWith")
  | ((with_reducible refine g_getMethod ?_); walk_at "p_getMethod")
  | ((with_reducible refine g_setAttr ?_); walk_at "p_setAttr")
  | ((with_reducible refine g_isTrue ?_); walk_at "test")
  | walk_at "br")
set_option hygiene false in
local macro_rules | `(tactic| walk_at "u") => `(tactic| first
  | ((with_reducible refine g_name ?_); walk_at "name")
  | ((with_reducible refine g_eval ?_); walk_at "expr")
  | ((with_reducible refine g_call ?_); walk_at "p_call")
  | ((with_reducible refine g_compareOp ?_); walk_at "p_compareOp")
  | ((with_reducible refine g_binaryOp ?_); walk_at "p_binaryOp")
  | ((with_reducible refine g_subscriptTail ?_); walk_at "p_subscriptTail")
  | ((with_reducible refine g_getAttr ?_); walk_at "p_getAttr")
  | walk_at "p_rest"
  | ((with_reducible refine g_execs ?_); first | walk_at "stmt")
  | ((with_reducible refine g_callWith ?_); walk_at "p_callWith")
  | ((with_reducible refine g_getMethod ?_); walk_at "p_getMethod")
  | ((with_reducible refine g_setAttr ?_); walk_at "p_setAttr")
  | ((with_reducible refine g_isTrue ?_); walk_at "test")
  | walk_at "br")
set_option hygiene false in
local macro_rules | `(tactic| walk_at "fr") => `(tactic| first | assumption | exact upd_none (by assumption) | exact upd_none (upd_none (by assumption)) | exact upd_none (upd_none (upd_none (by assumption))) | exact upd_none (upd_none (upd_none (upd_none (by assumption)))))
set_option hygiene false in
local macro_rules | `(tactic| walk_at "keep") => `(tactic| first | assumption | exact Keep.refl | ((refine Keep.upd ?_ (.inl rfl)); walk_at "keep") | ((refine Keep.upd ?_ (.inr (by assumption))); walk_at "keep"))
set_option hygiene false in
local macro_rules | `(tactic| walk_at "l") => `(tactic| ((refine' ltr_of ?kh ?ka ?kb ?kc ?kd ?ke); (case kh => walk_at "o"); (case ka => exact rfl); (case kb => exact rfl); (case kc => exact rfl); (case kd => exact rfl); (case ke => first | exact rfl | (dsimp only; omega))))
set_option hygiene false in
local macro_rules | `(tactic| walk_at "z") => `(tactic| first | assumption | omega | (rw [sizeLine_eq]; omega) | (rw [sizeLine_eq, List.length_map]; omega) | decide +kernel)
set_option hygiene false in
local macro_rules | `(tactic| walk_at "mul") => `(tactic| first | exact PySem.IntMulOk.of_right (by decide) | exact PySem.IntMulOk.of_left (by decide) | exact PySem.IntMulOk.of_right (PySem.intBits_le_64 (by omega) (by omega)) | exact PySem.IntMulOk.of_left (PySem.intBits_le_64 (by omega) (by omega)))
set_option hygiene false in
local macro_rules | `(tactic| walk_at "sl") => `(tactic| ((with_reducible refine w_tail ?_ ?ht); rotate_left; (case ht => intro _ _; with_unfolding_all exact rfl)))
set_option hygiene false in
local macro_rules | `(tactic| walk_at "enterC") => `(tactic| ((case k6 => walk_at "K"); (case k7 => walk_at "K"); (case k9 => exact rfl); (case kB => exact rfl); (case c5 => decide +kernel); (case c2 => exact rfl); (case c3 => exact rfl); (case c4 => exact rfl)))
section
variable {g : Pg} {σ : Store} {x dx : Addr} {h : Hnd}
theorem m_asks (hK : g.K = heap g.w.params) (H : HandAt g.w.params 157 σ x dx h) {s : Nat} (hs : h.stage = some s) :
    Fn g 1 (.ref 91) [.ref x] σ (Gives g.w.params 157 σ x dx h (h.asks s)) NoE := by
  obtain ⟨k, hx, hd⟩ := H
  have hne := inst_ne hx hd
  refine' fn_body [(Str.ofString "self", .ref x)] ?k6 ?k7 ?k9 ?kB ?c5 ?c2 ?c3 ?c4 ?_
  walk_at "enter"
  intro c m hg G hsc hcl hin hm
  have m1 : m (Str.ofString "self") = some (.ref x) := by rw [hm]; rfl
  clear hm
  subst hg
  show W c (execs (_ :: _) c.env) _ _ _ _
  repeat walk_at "s"
  exact Gives.mk [_, _] (by walk_at "fr") upd_same (.cons (by walk_at "l") (.cons (by walk_at "l") .nil)) ⟨k, by walk_at "o", by walk_at "o"⟩ (by walk_at "keep")
theorem m_wake (hK : g.K = heap g.w.params) (H : HandAt g.w.params 157 σ x dx h) :
    Fn g 2 (.ref 98) [.ref x] σ (Gives g.w.params 157 σ x dx h.wake.1 h.wake.2) NoE := by
  obtain ⟨k, hx, hd⟩ := H
  have hne := inst_ne hx hd
  refine' fn_body [(Str.ofString "self", .ref x)] ?k6 ?k7 ?k9 ?kB ?c5 ?c2 ?c3 ?c4 ?_
  walk_at "enter"
  intro c m hg G hsc hcl hin hm
  have m1 : m (Str.ofString "self") = some (.ref x) := by rw [hm]; rfl
  clear hm
  subst hg
  show W c (execs (_ :: _) c.env) _ _ _ _
  cases hs : h.stage with
  | some s =>
    rw [wake_awake (by rw [hs]; exact fun q => nomatch q)]
    repeat walk_at "s"
    exact Gives.mk [] (by walk_at "fr") upd_same .nil ⟨k, by walk_at "o", by walk_at "o"⟩ (by walk_at "keep")
  | none =>
    rw [wake_asleep hs]
    repeat walk_at "s"
    refine set_stage 0 G (by walk_at "FO") (by walk_at "o") (by walk_at "o") rfl fun k' => ?_
    repeat walk_at "s"
    refine w_fn G (Nat.le_refl _) (m_asks (h := { h with stage := some 0 }) hK ⟨k', by walk_at "o", by walk_at "o"⟩ rfl) (fun v σ' q => ?_) fun _ _ q => q.elim
    obtain ⟨la, as, kk, rfl, h1, h2, h3, h4, h5⟩ := q
    exact ⟨la, as, kk, rfl, by walk_at "fr", h2, h3, h4, fun a o e n => h5 a o (by rw [upd_ne n]; exact e) n⟩

theorem m_ask (hK : g.K = heap g.w.params) (H : HandAt g.w.params 157 σ x dx h) {a : Addr} {l : Ltr} (T : LtrAt σ a l) :
    Fn g 2 (.ref 112) [.ref x, .ref a] σ (Gives g.w.params 157 σ x dx (h.askCame l).1 (h.askCame l).2) NoE := by
  obtain ⟨k, hx, hd⟩ := H
  obtain ⟨kl, hl⟩ := T
  have hne := inst_ne hx hd
  have hla := tup_ne hl hd
  refine' fn_body [(Str.ofString "self", .ref x), (Str.ofString "letter", .ref a)] ?k6 ?k7 ?k9 ?kB ?c5 ?c2 ?c3 ?c4 ?_
  walk_at "enter"
  intro c m hg G hsc hcl hin hm
  have m1 : m (Str.ofString "self") = some (.ref x) := by rw [hm]; rfl
  have m2 : m (Str.ofString "letter") = some (.ref a) := by rw [hm]; rfl
  clear hm
  subst hg
  show W c (execs (_ :: _) c.env) _ _ _ _
  repeat walk_at "s"
  refine br_dec (fun q1 => ?_) fun q1 => ?_
  · rw [show h.askCame l = (h, []) by unfold Hnd.askCame; rw [if_pos q1]]
    repeat walk_at "s"
    exact Gives.mk [] (by walk_at "fr") upd_same .nil ⟨k, by walk_at "o", by walk_at "o"⟩ (by walk_at "keep")
  · repeat walk_at "s"
    refine br_dec (fun q2 => ?_) fun q2 => ?_
    · repeat walk_at "s"
      refine br_dec (fun q3 => ?_) fun q3 => ?_
      · have q3' : 1 < l.steps := by omega
        rw [show h.askCame l = ({ h with lost := true }, [⟨l.way, .ask, l.num, l.stage, l.steps - 1⟩]) by unfold Hnd.askCame; rw [if_neg q1, if_pos q2, if_pos q3']]
        repeat walk_at "s"
        exact Gives.mk [_] (by walk_at "fr") upd_same (.cons (by walk_at "l") .nil) ⟨k, by walk_at "o", by walk_at "o"⟩ (by walk_at "keep")
      · have q3' : ¬ 1 < l.steps := by omega
        rw [show h.askCame l = ({ h with lost := true }, [⟨-l.way, .answer, l.num, l.stage, 0⟩]) by unfold Hnd.askCame; rw [if_neg q1, if_pos q2, if_neg q3']]
        repeat walk_at "s"
        exact Gives.mk [_] (by walk_at "fr") upd_same (.cons (by walk_at "l") .nil) ⟨k, by walk_at "o", by walk_at "o"⟩ (by walk_at "keep")
    · repeat walk_at "s"
      refine br_any (fun q3 => ?_) fun q3 => ?_
      · rw [show h.askCame l = (h, []) by unfold Hnd.askCame; rw [if_neg q1, if_neg q2, if_pos q3]]
        repeat walk_at "s"
        exact Gives.mk [] (by walk_at "fr") upd_same .nil ⟨k, by walk_at "o", by walk_at "o"⟩ (by walk_at "keep")
      · rw [show h.askCame l = ({ h with won := true, top := some h.num }, [⟨1, .crown, h.num, 0, 0⟩]) by unfold Hnd.askCame; rw [if_neg q1, if_neg q2, if_neg (by rw [q3]; exact Bool.false_ne_true)]]
        repeat walk_at "s"
        exact Gives.mk [_] (by walk_at "fr") upd_same (.cons (by walk_at "l") .nil) ⟨_, by walk_at "o", by walk_at "o"⟩ (by walk_at "keep")
theorem m_crown (hK : g.K = heap g.w.params) (H : HandAt g.w.params 157 σ x dx h) {a : Addr} {l : Ltr} (T : LtrAt σ a l) :
    Fn g 2 (.ref 126) [.ref x, .ref a] σ (Gives g.w.params 157 σ x dx (h.crownCame l).1 (h.crownCame l).2) NoE := by
  obtain ⟨k, hx, hd⟩ := H
  obtain ⟨kl, hl⟩ := T
  have hne := inst_ne hx hd
  have hla := tup_ne hl hd
  refine' fn_body [(Str.ofString "self", .ref x), (Str.ofString "letter", .ref a)] ?k6 ?k7 ?k9 ?kB ?c5 ?c2 ?c3 ?c4 ?_
  walk_at "enter"
  intro c m hg G hsc hcl hin hm
  have m1 : m (Str.ofString "self") = some (.ref x) := by rw [hm]; rfl
  have m2 : m (Str.ofString "letter") = some (.ref a) := by rw [hm]; rfl
  clear hm
  subst hg
  show W c (execs (_ :: _) c.env) _ _ _ _
  repeat walk_at "s"
  refine br_beq (fun q1 => ?_) fun q1 => ?_
  · rw [show h.crownCame l = (h, []) by unfold Hnd.crownCame; rw [if_pos q1]]
    repeat walk_at "s"
    exact Gives.mk [] (by walk_at "fr") upd_same .nil ⟨k, by walk_at "o", by walk_at "o"⟩ (by walk_at "keep")
  · rw [show h.crownCame l = ({ h with top := some l.num }, [l]) by unfold Hnd.crownCame; rw [if_neg q1]]
    repeat walk_at "s"
    exact Gives.mk [_] (by walk_at "fr") upd_same (.cons ⟨kl, by walk_at "o"⟩ .nil) ⟨_, by walk_at "o", by walk_at "o"⟩ (by walk_at "keep")
theorem m_answer (hK : g.K = heap g.w.params) (H : HandAt g.w.params 157 σ x dx h) {a : Addr} {l : Ltr} (T : LtrAt σ a l) (aw : h.stage ≠ none) :
    Fn g 2 (.ref 119) [.ref x, .ref a] σ (Gives g.w.params 157 σ x dx (h.answerCame l).1 (h.answerCame l).2) NoE := by
  obtain ⟨k, hx, hd⟩ := H
  obtain ⟨kl, hl⟩ := T
  have hne := inst_ne hx hd
  have hla := tup_ne hl hd
  refine' fn_body [(Str.ofString "self", .ref x), (Str.ofString "letter", .ref a)] ?k6 ?k7 ?k9 ?kB ?c5 ?c2 ?c3 ?c4 ?_
  walk_at "enter"
  intro c m hg G hsc hcl hin hm
  have m1 : m (Str.ofString "self") = some (.ref x) := by rw [hm]; rfl
  have m2 : m (Str.ofString "letter") = some (.ref a) := by rw [hm]; rfl
  clear hm
  subst hg
  show W c (execs (_ :: _) c.env) _ _ _ _
  repeat walk_at "s"
  refine br_bne (fun q1 => ?_) fun q1 => ?_
  · rw [show h.answerCame l = (h, [l]) by unfold Hnd.answerCame; rw [if_pos q1]]
    repeat walk_at "s"
    exact Gives.mk [_] (by walk_at "fr") upd_same (.cons ⟨kl, by walk_at "o"⟩ .nil) ⟨k, by walk_at "o", by walk_at "o"⟩ (by walk_at "keep")
  · cases hs : h.stage with
    | none => exact absurd hs aw
    | some s =>
      repeat walk_at "s"
      refine br_bne (fun q2 => ?_) fun q2 => ?_
      · rw [show h.answerCame l = (h, []) by unfold Hnd.answerCame; rw [if_neg (fun z => z q1), hs]; exact if_pos (fun e => q2 (by rw [e]))]
        repeat walk_at "s"
        exact Gives.mk [] (by walk_at "fr") upd_same .nil ⟨k, by walk_at "o", by walk_at "o"⟩ (by walk_at "keep")
      · have q2' : l.stage = s := by omega
        repeat walk_at "s"
        refine set_had (h.had + 1) G (by walk_at "FO") (by walk_at "o") (by walk_at "o") rfl fun k' => ?_
        repeat walk_at "s"
        refine br_bne (fun q3 => ?_) fun q3 => ?_
        · rw [show h.answerCame l = ({ h with had := h.had + 1 }, []) by unfold Hnd.answerCame; rw [if_neg (fun z => z q1), hs]; exact (if_neg (fun z => z q2')).trans (if_pos (.inl (by dsimp only at q3; omega)))]
          repeat walk_at "s"
          exact Gives.mk [] (by walk_at "fr") upd_same .nil ⟨_, by walk_at "o", by walk_at "o"⟩ (by walk_at "keep")
        · repeat walk_at "s"
          refine br_any (fun q4 => ?_) fun q4 => ?_
          · rw [show h.answerCame l = ({ h with had := h.had + 1 }, []) by unfold Hnd.answerCame; rw [if_neg (fun z => z q1), hs]; exact (if_neg (fun z => z q2')).trans (if_pos (.inr q4))]
            repeat walk_at "s"
            exact Gives.mk [] (by walk_at "fr") upd_same .nil ⟨_, by walk_at "o", by walk_at "o"⟩ (by walk_at "keep")
          · have q5 : ¬ (h.had + 1 ≠ 2 ∨ h.lost = true) := by
              rintro (z | z)
              · dsimp only at q3; omega
              · dsimp only at q4; rw [q4] at z; cases z
            rw [show h.answerCame l = ({ h with stage := some (s + 1), far := h.far + h.far, had := 0 }, [⟨1, .ask, h.num, s + 1, h.far + h.far⟩, ⟨-1, .ask, h.num, s + 1, h.far + h.far⟩]) by unfold Hnd.answerCame; rw [if_neg (fun z => z q1), hs]; exact (if_neg (fun z => z q2')).trans (if_neg q5)]
            repeat walk_at "s"
            refine set_stage (s + 1) G (by walk_at "FO") (by walk_at "o") (by walk_at "o") rfl fun k1 => ?_
            repeat walk_at "s"
            refine set_far (h.far + h.far) G (by walk_at "FO") (by walk_at "o") (by walk_at "o") rfl fun k2 => ?_
            repeat walk_at "s"
            refine set_had 0 G (by walk_at "FO") (by walk_at "o") (by walk_at "o") rfl fun k3 => ?_
            repeat walk_at "s"
            refine w_fn G (Nat.le_refl _) (m_asks (h := { h with stage := some (s + 1), far := h.far + h.far, had := 0 }) hK ⟨k3, by walk_at "o", by walk_at "o"⟩ rfl) (fun v σ' q => ?_) fun _ _ q => q.elim
            obtain ⟨la, as, kk, rfl, h1, h2, h3, h4, h5⟩ := q
            exact ⟨la, as, kk, rfl, by walk_at "fr", h2, h3, h4, fun a o e n => h5 a o (by rw [upd_ne n, upd_ne n, upd_ne n, upd_ne n]; exact e) n⟩
end
section
variable {g : Pg} {σ : Store} {x dx : Addr} {h : Hnd}
theorem m_take (hK : g.K = heap g.w.params) (H : HandAt g.w.params 157 σ x dx h) {a : Addr} {l : Ltr} (T : LtrAt σ a l) :
    Fn g 3 (.ref 105) [.ref x, .ref a] σ (Gives g.w.params 157 σ x dx (h.take l).1 (h.take l).2) NoE := by
  have H0 := H
  obtain ⟨k, hx, hd⟩ := H
  obtain ⟨kl, hl⟩ := T
  have hne := inst_ne hx hd
  have hla := tup_ne hl hd
  refine' fn_body [(Str.ofString "self", .ref x), (Str.ofString "letter", .ref a)] ?k6 ?k7 ?k9 ?kB ?c5 ?c2 ?c3 ?c4 ?_
  walk_at "enter"
  intro c m hg G hsc hcl hin hm
  have m1 : m (Str.ofString "self") = some (.ref x) := by rw [hm]; rfl
  have m2 : m (Str.ofString "letter") = some (.ref a) := by rw [hm]; rfl
  clear hm
  subst hg
  show W c (execs (_ :: _) c.env) _ _ _ _
  repeat walk_at "s"
  refine w_fn G (Nat.le_refl _) (m_wake hK H0) (fun v σ1 q => ?_) fun _ _ q => q.elim
  have G1 := q
  obtain ⟨la, as, kk, rfl, h1, h2, h3, h4, h5⟩ := q
  have hl1 : σ1 a = some (tupO (ltrV l kl)) := h5 _ _ hl hla
  obtain ⟨k1, hx1, hd1⟩ := h4
  have hz : h.wake.2.length + (h.wake.1.came l).2.length ≤ 100 := by have := wake_len h; have := came_len h.wake.1 l; omega
  unfold Hnd.take
  repeat walk_at "s"
  unfold Hnd.came at hz ⊢
  cases hw : l.word with
  | ask =>
    rw [hw] at hz
    refine br_isT rfl ?_
    repeat walk_at "s"
    refine w_fn G (Nat.le_refl _) (m_ask hK ⟨k1, hx1, hd1⟩ ⟨kl, hl1⟩) (fun v σ2 q => ?_) fun _ _ q => q.elim
    have G2 := q
    obtain ⟨la2, _, _, rfl, _⟩ := q
    exact give_add G1 G2 hz fun _ _ q => q
  | answer =>
    rw [hw] at hz
    refine br_isF rfl ?_
    repeat walk_at "s"
    refine br_isT (by rw [hw]; rfl) ?_
    repeat walk_at "s"
    refine w_fn G (Nat.le_refl _) (m_answer hK ⟨k1, hx1, hd1⟩ ⟨kl, hl1⟩ (wake_stage h)) (fun v σ2 q => ?_) fun _ _ q => q.elim
    have G2 := q
    obtain ⟨la2, _, _, rfl, _⟩ := q
    exact give_add G1 G2 hz fun _ _ q => q
  | crown =>
    rw [hw] at hz
    refine br_isF rfl ?_
    repeat walk_at "s"
    refine br_isF (by rw [hw]; rfl) ?_
    repeat walk_at "s"
    refine w_fn G (Nat.le_refl _) (m_crown hK ⟨k1, hx1, hd1⟩ ⟨kl, hl1⟩) (fun v σ2 q => ?_) fun _ _ q => q.elim
    have G2 := q
    obtain ⟨la2, _, _, rfl, _⟩ := q
    exact give_add G1 G2 hz fun _ _ q => q
end
section
variable {g : Pg} {σ : Store} {x dx : Addr} {h : Hnd}
theorem m_is_awake (hK : g.K = heap g.w.params) (H : HandAt g.w.params 157 σ x dx h) : Fn g 1 (.ref 133) [.ref x] σ (fun v σ' => v = .bool h.stage.isSome ∧ σ' = σ) NoE := by
  obtain ⟨k, hx, hd⟩ := H
  have hne := inst_ne hx hd
  refine' fn_body [(Str.ofString "self", .ref x)] ?k6 ?k7 ?k9 ?kB ?c5 ?c2 ?c3 ?c4 ?_
  walk_at "enter"
  intro c m hg G hsc hcl hin hm
  have m1 : m (Str.ofString "self") = some (.ref x) := by rw [hm]; rfl
  clear hm
  subst hg
  show W c (execs (_ :: _) c.env) _ _ _ _
  cases hs : h.stage with
  | none =>
    repeat walk_at "s"
    exact ⟨rfl, rfl⟩
  | some s =>
    repeat walk_at "s"
    exact ⟨rfl, rfl⟩
end
section
variable {g : Pg} {σ : Store} {x dx : Addr} {h : Hnd}
theorem m_stage (hK : g.K = heap g.w.params) (H : HandAt g.w.params 157 σ x dx h) : Fn g 1 (.ref 147) [.ref x] σ (fun v σ' => (∃ t, v = optV h.stage t) ∧ σ' = σ) NoE := by
  obtain ⟨k, hx, hd⟩ := H
  have hne := inst_ne hx hd
  refine' fn_body [(Str.ofString "self", .ref x)] ?k6 ?k7 ?k9 ?kB ?c5 ?c2 ?c3 ?c4 ?_
  walk_at "enter"
  intro c m hg G hsc hcl hin hm
  have m1 : m (Str.ofString "self") = some (.ref x) := by rw [hm]; rfl
  clear hm
  subst hg
  show W c (execs (_ :: _) c.env) _ _ _ _
  cases hs : h.stage with
  | none =>
    repeat walk_at "s"
    exact ⟨⟨0, rfl⟩, rfl⟩
  | some s =>
    repeat walk_at "s"
    exact ⟨⟨_, rfl⟩, rfl⟩
end
section
variable {g : Pg} {σ : Store} {L : RL} {R : Rng}
theorem is_number_ok (hK : g.K = heap g.w.params) {a : Int} {t : Tok} : Fn g 1 (.ref 168) [.int a t] σ (fun v σ' => v = .bool (decide (0 ≤ a)) ∧ σ' = σ) NoE := by
  refine' fn_body [(Str.ofString "thing", .int a t)] ?k6 ?k7 ?k9 ?kB ?c5 ?c2 ?c3 ?c4 ?_
  walk_at "enter"
  intro c m hg G hsc hcl hin hm
  have m1 : m (Str.ofString "thing") = some (.int a t) := by rw [hm]; rfl
  clear hm
  subst hg
  show W c (execs (_ :: _) c.env) _ _ _ _
  repeat walk_at "s"
  exact ⟨rfl, rfl⟩
theorem r_hand_at (hK : g.K = heap g.w.params) (A : RingAt g.w.params 157 267 L σ R) {p : Nat} {x : Addr} {t : Tok} (hp : L.xs[p]? = some x) (hz : L.xs.length ≤ 64) :
    Fn g 2 (.ref 194) [.ref L.r, .int p t] σ (fun v σ' => v = .ref x ∧ σ' = σ) NoE := by
  have hx := A.top
  obtain ⟨k, hd⟩ := A.dict
  obtain ⟨kh, hh⟩ := A.hl
  have hne := inst_ne hx hd
  have hlt : p < L.xs.length := by
    rcases Nat.lt_or_ge p L.xs.length with q | q
    · exact q
    · rw [List.getElem?_eq_none q] at hp; cases hp
  refine' fn_body [(Str.ofString "self", .ref L.r), (Str.ofString "place", .int p t)] ?k6 ?k7 ?k9 ?kB ?c5 ?c2 ?c3 ?c4 ?_
  walk_at "enter"
  intro c m hg G hsc hcl hin hm
  have m1 : m (Str.ofString "self") = some (.ref L.r) := by rw [hm]; rfl
  have m2 : m (Str.ofString "place") = some (.int p t) := by rw [hm]; rfl
  clear hm
  subst hg
  show W c (execs (_ :: _) c.env) _ _ _ _
  repeat walk_at "s"
  refine w_fn G (Nat.le_refl _) (is_number_ok hK) (fun v σ' q => ?_) fun _ _ q => q.elim
  obtain ⟨rfl, rfl⟩ := q
  repeat walk_at "s"
  refine br_isT (decide_eq_true (by omega)) ?_
  repeat walk_at "s"
  refine br_isF (decide_eq_false (by rw [List.length_map]; omega)) ?_
  repeat walk_at "s"
  exact w_item hh (by omega) (by omega) (by rw [Int.toNat_natCast, List.getElem?_map, hp]; rfl) ⟨rfl, rfl⟩ (by with_unfolding_all rfl)
end
section
variable {g : Pg} {σ : Store} {L : RL} {R : Rng}
theorem r_posted (hK : g.K = heap g.w.params) (A : RingAt g.w.params 157 267 L σ R) {p : Nat} {t : Tok} {la : Addr} {as : List Addr} {ls : List Ltr} {kk : Nat} (hla : σ la = some (lstO (as.map .ref) kk)) (hlr : la ≠ L.lr) (al : All2 (LtrAt σ) as ls)
    (hz : L.xs.length ≤ 64) (hz0 : 0 < L.xs.length) (hzr : R.road.length + ls.length ≤ 1000000) :
    Fn g 1 (.ref 201) [.ref L.r, .int p t, .ref la] σ (fun v σ' => v = .none ∧ RingAt g.w.params 157 267 L σ' (R.post p ls) ∧ Keep L.D σ σ') NoE := by
  refine' fn_body [(Str.ofString "self", .ref L.r), (Str.ofString "place", .int p t), (Str.ofString "letters", .ref la)] ?k6 ?k7 ?k9 ?kB ?c5 ?c2 ?c3 ?c4 ?_
  walk_at "enter"
  intro c m hg G hsc hcl hin hm
  have m1 : m (Str.ofString "self") = some (.ref L.r) := by rw [hm]; rfl
  have m2 : m (Str.ofString "place") = some (.int p t) := by rw [hm]; rfl
  have m3 : m (Str.ofString "letters") = some (.ref la) := by rw [hm]; rfl
  clear hm
  subst hg
  show W c (execs (_ :: _) c.env) _ _ _ _
  repeat walk_at "s"
  have nla := A.notD_lst hla hlr
  refine turns_list (vs := as.map .ref) (k := kk) G (kind_is hsc (by decide +kernel)) (nocell hcl) (fun j m' σ' => RingAt c.g.w.params 157 267 L σ' (R.post p (ls.take j)) ∧ Keep L.D σ σ' ∧ m' (Str.ofString "self") = some (.ref L.r) ∧ m' (Str.ofString "place") = some (.int p t)) ?_ ?_ ?_ ?_
  · intro i m' σ' J
    exact J.2.1 _ _ hla nla
  · refine ⟨?_, Keep.refl, m1, m2⟩
    rw [show R.post p (ls.take 0) = R by unfold Rng.post; simp]
    exact A
  · intro j v m' σ' hv J
    obtain ⟨A', K', n1, n2⟩ := J
    rw [List.getElem?_map, Option.map_eq_some_iff] at hv
    obtain ⟨a, ha, rfl⟩ := hv
    obtain ⟨l, hl, kl, el⟩ := al.get' ha
    have el' : σ' a = some (tupO (ltrV l kl)) := K' _ _ el (A.notD_tup el)
    have hx := A'.top
    obtain ⟨k, hd⟩ := A'.dict
    obtain ⟨kh, hh⟩ := A'.hl
    obtain ⟨ms, kr, er, am⟩ := A'.road
    have hne := inst_ne hx hd
    have n3 : setM m' (Str.ofString "letter") (.ref a) (Str.ofString "self") = some (.ref L.r) := by walk_at "m"
    repeat walk_at "s"
    rw [List.length_map, A.lenx]
    rw [A.lenx] at hz0
    refine i_mod (by omega) fun _ => ?_
    rw [dest_fmod hz0]
    repeat walk_at "s"
    rename_i tm b1 hb1
    refine add_tups (ws := ltrV l kl) upd_same (by walk_at "o") (fun q => nomatch q) (fun q => nomatch q) (Nat.le_of_ble_eq_true rfl) fun b hb => ?_
    repeat walk_at "s"
    refine w_append (l := L.lr) (vs := ms.map .ref) (k := kr) (by walk_at "o") ?_ ?_
    · have := am.len
      rw [post_road_le] at this
      have h2 : (ls.take j).length ≤ ls.length := by rw [List.length_take]; exact Nat.min_le_right _ _
      rw [List.length_map, sizeLine_eq]
      omega
    · have hdr : L.dR ≠ L.lr := fun q => lst_ne er hd q.symm
      have hrl : L.r ≠ L.lr := inst_lst hx er
      repeat walk_at "s"
      refine set_many ((R.post p (ls.take j)).many + 1) G (by walk_at "FO") (by walk_at "o") (by walk_at "o") rfl fun kd => ?_
      repeat walk_at "s"
      refine ⟨?_, ?_, by walk_at "m", by walk_at "m"⟩
      · rw [post_succ hl]
        have s2 := (sub_upd (o := tupO [.int ((dest R.hands.length p l.way : Nat) : Int) tm]) hb1).trans (sub_upd (o := tupO ([.int ((dest R.hands.length p l.way : Nat) : Int) tm] ++ ltrV l kl)) hb)
        exact (A'.sub s2).posted (s2 _ _ er) (am.mono fun _ _ r => r.sub s2) ⟨_, kl, upd_same⟩
      · exact (((K'.upd (.inr hb1)).upd (.inr hb)).upd (.inl (.inr (.inl rfl)))).upd (.inl (.inl rfl))
  · intro m' σ' J
    obtain ⟨A', K', n1, n2⟩ := J
    rw [List.length_map, al.len, List.take_length] at A'
    repeat walk_at "s"
    exact ⟨rfl, A', K'⟩
end
section
variable {g : Pg} {σ : Store} {L : RL} {R : Rng}
theorem r_wake (hK : g.K = heap g.w.params) (A : RingAt g.w.params 157 267 L σ R) {p : Nat} {t : Tok} {h : Hnd} (hh : R.hands[p]? = some h) (hz : L.xs.length ≤ 64) (hzr : R.road.length ≤ 999990) :
    Fn g 3 (.ref 208) [.ref L.r, .int p t] σ (fun v σ' => v = .bool (!h.stage.isSome) ∧ RingAt g.w.params 157 267 L σ' (R.wake p) ∧ Keep L.D σ σ') NoE := by
  obtain ⟨x, dx, ex, edx, H⟩ := A.at hh
  obtain ⟨kh, hx1, hd1⟩ := id H
  have hx := A.top
  obtain ⟨k, hd⟩ := A.dict
  have hne := inst_ne hx hd
  have hz0 : 0 < L.xs.length := by
    rcases Nat.eq_zero_or_pos L.xs.length with q | q
    · rw [List.getElem?_eq_none (by omega)] at ex; cases ex
    · exact q
  refine' fn_body [(Str.ofString "self", .ref L.r), (Str.ofString "place", .int p t)] ?k6 ?k7 ?k9 ?kB ?c5 ?c2 ?c3 ?c4 ?_
  walk_at "enter"
  intro c m hg G hsc hcl hin hm
  have m1 : m (Str.ofString "self") = some (.ref L.r) := by rw [hm]; rfl
  have m2 : m (Str.ofString "place") = some (.int p t) := by rw [hm]; rfl
  clear hm
  subst hg
  show W c (execs (_ :: _) c.env) _ _ _ _
  repeat walk_at "s"
  refine w_fn G (Nat.le_refl _) (r_hand_at hK A ex hz) (fun v σ' q => ?_) fun _ _ q => q.elim
  obtain ⟨rfl, rfl⟩ := q
  repeat walk_at "s"
  refine w_fn G (by decide) (m_is_awake hK H) (fun v σ' q => ?_) fun _ _ q => q.elim
  obtain ⟨rfl, rfl⟩ := q
  repeat walk_at "s"
  refine br_any (fun q1 => ?_) fun q1 => ?_
  · repeat walk_at "s"
    rw [wake_same hh (fun e => by rw [e] at q1; cases q1), q1]
    exact ⟨rfl, A, Keep.refl⟩
  · repeat walk_at "s"
    refine w_fn G (Nat.le_refl _) (m_wake hK H) (fun v σ1 q => ?_) fun _ _ q => q.elim
    obtain ⟨la, as, kk, rfl, f1, f2, f3, f4, f5⟩ := q
    have A1 := A.gives ex edx hh f4 f5
    have K1 := A.keepGives edx f5
    repeat walk_at "s"
    refine w_fn G (by decide) (r_posted hK A1 f2 (fun e => ?_) f3 hz hz0 ?_) (fun v σ2 q => ?_) fun _ _ q => q.elim
    · obtain ⟨ms, kr, er, _⟩ := A.road
      rw [e, er] at f1; cases f1
    · have := wake_len h
      show R.road.length + _ ≤ _
      omega
    · obtain ⟨rfl, A2, K2⟩ := q
      repeat walk_at "s"
      rw [q1, wake_is hh]
      exact ⟨rfl, A2, K1.trans K2⟩
theorem r_mails (hK : g.K = heap g.w.params) (A : RingAt g.w.params 157 267 L σ R) (hzr : R.road.length ≤ 1000000) :
    Fn g 1 (.ref 215) [.ref L.r] σ (fun v σ' => ∃ b ms k, v = .ref b ∧ σ b = none ∧ All2 (MailAt σ) ms R.road ∧ σ' = upd σ b (lstO (ms.map .ref) k)) NoE := by
  have hx := A.top
  obtain ⟨k, hd⟩ := A.dict
  obtain ⟨ms, kr, er, am⟩ := A.road
  have hml := am.len
  refine' fn_body [(Str.ofString "self", .ref L.r)] ?k6 ?k7 ?k9 ?kB ?c5 ?c2 ?c3 ?c4 ?_
  walk_at "enter"
  intro c m hg G hsc hcl hin hm
  have m1 : m (Str.ofString "self") = some (.ref L.r) := by rw [hm]; rfl
  clear hm
  subst hg
  show W c (execs (_ :: _) c.env) _ _ _ _
  repeat walk_at "s"
  rename_i b kk hb
  exact ⟨b, ms, kk, rfl, hb, am, rfl⟩
theorem r_sent (hK : g.K = heap g.w.params) (A : RingAt g.w.params 157 267 L σ R) :
    Fn g 1 (.ref 236) [.ref L.r] σ (fun v σ' => (∃ t, v = .int (R.many : Int) t) ∧ σ' = σ) NoE := by
  have hx := A.top
  obtain ⟨k, hd⟩ := A.dict
  refine' fn_body [(Str.ofString "self", .ref L.r)] ?k6 ?k7 ?k9 ?kB ?c5 ?c2 ?c3 ?c4 ?_
  walk_at "enter"
  intro c m hg G hsc hcl hin hm
  have m1 : m (Str.ofString "self") = some (.ref L.r) := by rw [hm]; rfl
  clear hm
  subst hg
  show W c (execs (_ :: _) c.env) _ _ _ _
  repeat walk_at "s"
  exact ⟨⟨_, rfl⟩, rfl⟩
theorem r_bring (hK : g.K = heap g.w.params) (A : RingAt g.w.params 157 267 L σ R) {k d : Nat} {t : Tok} {l : Ltr} {h : Hnd} (hk : R.road[k]? = some (d, l)) (hh : R.hands[d]? = some h) (hz : L.xs.length ≤ 64) (hzr : R.road.length ≤ 999990) :
    Fn g 4 (.ref 222) [.ref L.r, .int k t] σ (fun v σ' => (∃ b, v = .ref b ∧ MailAt σ' b (d, l)) ∧ RingAt g.w.params 157 267 L σ' (R.bring k) ∧ Keep L.D σ σ') NoE := by
  obtain ⟨x, dx, ex, edx, H⟩ := A.at hh
  have hx := A.top
  obtain ⟨kd, hd⟩ := A.dict
  obtain ⟨kl, hlh⟩ := A.hl
  obtain ⟨ms, kr, er, am⟩ := A.road
  have hml := am.len
  have hne := inst_ne hx hd
  have hrl : L.r ≠ L.lr := inst_lst hx er
  have hdr : L.dR ≠ L.lr := fun q => lst_ne er hd q.symm
  have hhr : L.lh ≠ L.lr := Ne.symm A.ne
  have hlt : k < R.road.length := by
    rcases Nat.lt_or_ge k R.road.length with q | q
    · exact q
    · rw [List.getElem?_eq_none q] at hk; cases hk
  have hz0 : 0 < L.xs.length := by
    rcases Nat.eq_zero_or_pos L.xs.length with q | q
    · rw [List.getElem?_eq_none (by omega)] at ex; cases ex
    · exact q
  obtain ⟨b, eb, tb, kb, hb⟩ := am.get hk
  have hbl : b ≠ L.lr := tup_lst hb er
  have A1 := A.popped er am k (kr + 1)
  refine' fn_body [(Str.ofString "self", .ref L.r), (Str.ofString "place", .int k t)] ?k6 ?k7 ?k9 ?kB ?c5 ?c2 ?c3 ?c4 ?_
  walk_at "enter"
  intro c m hg G hsc hcl hin hm
  have m1 : m (Str.ofString "self") = some (.ref L.r) := by rw [hm]; rfl
  have m2 : m (Str.ofString "place") = some (.int k t) := by rw [hm]; rfl
  clear hm
  subst hg
  show W c (execs (_ :: _) c.env) _ _ _ _
  repeat walk_at "s"
  refine w_fn G (by decide) (is_number_ok hK) (fun v σ' q => ?_) fun _ _ q => q.elim
  obtain ⟨rfl, rfl⟩ := q
  repeat walk_at "s"
  refine br_isT (decide_eq_true (by omega)) ?_
  repeat walk_at "s"
  refine br_isF (decide_eq_false (by rw [List.length_map]; omega)) ?_
  repeat walk_at "s"
  refine w_pop (j := k) (v := .ref b) er (by rw [List.length_map, sizeLine_eq]; omega) rfl (by rw [List.getElem?_map, eb]; rfl) ?_
  repeat walk_at "s"
  refine w_item (v := .ref x) (by walk_at "o") (by omega) ?_ (by rw [Int.toNat_natCast, List.getElem?_map, ex]; rfl) ?_ (by with_unfolding_all rfl)
  · have : d < L.xs.length := by
      rcases Nat.lt_or_ge d L.xs.length with q | q
      · exact q
      · rw [List.getElem?_eq_none q] at ex; cases ex
    omega
  obtain ⟨x', dx', ex', edx', H1⟩ := A1.at (p := d) hh
  rw [ex] at ex'; cases ex'
  rw [edx] at edx'; cases edx'
  obtain ⟨kh, hx1, hd1⟩ := id H1
  repeat walk_at "s"
  refine ⟨b, _, 1, _, rfl, rfl, look_off hbl hb, Nat.le_refl _, Nat.le_of_ble_eq_true rfl, Nat.le_of_ble_eq_true rfl, fun a ha => ?_⟩
  have s2 := sub_upd (o := tupO (ltrV l kb)) ha
  have A2 := A1.sub s2
  have H2 := H1.sub s2
  have T2 : LtrAt (upd (upd σ' L.lr (lstO ((List.map Value.ref ms).eraseIdx k) (kr + 1))) a (tupO (ltrV l kb))) a l := ⟨kb, upd_same⟩
  repeat walk_at "s"
  refine w_fn G (Nat.le_refl _) (m_take hK H2 T2) (fun v σ3 q => ?_) fun _ _ q => q.elim
  obtain ⟨la, as, kk, rfl, f1, f2, f3, f4, f5⟩ := q
  have A3 := A2.gives ex edx hh f4 f5
  have K3 := A2.keepGives edx f5
  have hb3 := K3 _ _ (s2 _ _ (look_off hbl hb)) (A2.notD_tup (s2 _ _ (look_off hbl hb)))
  repeat walk_at "s"
  refine w_fn G (by decide) (r_posted hK A3 f2 (fun e => ?_) f3 hz hz0 ?_) (fun v σ4 q => ?_) fun _ _ q => q.elim
  · obtain ⟨ms', kr', er', _⟩ := A2.road
    rw [e, er'] at f1; cases f1
  · have := wake_len h
    have := came_len h.wake.1 l
    show (R.road.eraseIdx k).length + (h.wake.2 ++ (h.wake.1.came l).2).length ≤ _
    rw [List.length_eraseIdx, List.length_append]
    split <;> omega
  · obtain ⟨rfl, A4, K4⟩ := q
    have hb4 := K4 _ _ hb3 (A3.notD_tup hb3)
    repeat walk_at "s"
    rw [bring_is hk hh]
    refine ⟨⟨b, rfl, tb, kb, hb4⟩, A4, ?_⟩
    have K0 : Keep L.D σ' (upd σ' L.lr (lstO ((List.map Value.ref ms).eraseIdx k) (kr + 1))) := Keep.refl.upd (.inl (.inr (.inl rfl)))
    exact ((K0.trans (Keep.of_sub s2)).trans K3).trans K4
end
section
variable {g : Pg} {σ : Store} {L : RL} {R : Rng}
theorem r_stage (hK : g.K = heap g.w.params) (A : RingAt g.w.params 157 267 L σ R) {p : Nat} {t : Tok} {h : Hnd} (hh : R.hands[p]? = some h) (hz : L.xs.length ≤ 64) :
    Fn g 3 (.ref 257) [.ref L.r, .int p t] σ (fun v σ' => (∃ t, v = optV h.stage t) ∧ σ' = σ) NoE := by
  obtain ⟨x, dx, ex, edx, H⟩ := A.at hh
  obtain ⟨kh, hx1, hd1⟩ := id H
  have hx := A.top
  obtain ⟨k, hd⟩ := A.dict
  refine' fn_body [(Str.ofString "self", .ref L.r), (Str.ofString "place", .int p t)] ?k6 ?k7 ?k9 ?kB ?c5 ?c2 ?c3 ?c4 ?_
  walk_at "enter"
  intro c m hg G hsc hcl hin hm
  have m1 : m (Str.ofString "self") = some (.ref L.r) := by rw [hm]; rfl
  have m2 : m (Str.ofString "place") = some (.int p t) := by rw [hm]; rfl
  clear hm
  subst hg
  show W c (execs (_ :: _) c.env) _ _ _ _
  repeat walk_at "s"
  refine w_fn G (Nat.le_refl _) (r_hand_at hK A ex hz) (fun v σ' q => ?_) fun _ _ q => q.elim
  obtain ⟨rfl, rfl⟩ := q
  repeat walk_at "s"
  refine w_fn G (by decide) (m_stage hK H) (fun v σ' q => ?_) fun _ _ q => q.elim
  obtain ⟨q1, rfl⟩ := q
  exact ⟨q1, rfl⟩
end
section
variable {g : Pg} {σ : Store}
theorem hand_init (hK : g.K = heap g.w.params) {x dx : Addr} {a : Int} {t : Tok} (hx : σ x = some (instObj 157 dx)) (hd : σ dx = some (dictOf [] 0)) :
    Fn g 1 (.ref 84) [.ref x, .int a t] σ (fun v σ' => v = .none ∧ HandAt g.w.params 157 σ' x dx { num := a } ∧ Keep (· = dx) σ σ') NoE := by
  have hne := inst_ne hx hd
  refine' fn_body [(Str.ofString "self", .ref x), (Str.ofString "number", .int a t)] ?k6 ?k7 ?k9 ?kB ?c5 ?c2 ?c3 ?c4 ?_
  walk_at "enter"
  intro c m hg G hsc hcl hin hm
  have m1 : m (Str.ofString "self") = some (.ref x) := by rw [hm]; rfl
  have m2 : m (Str.ofString "number") = some (.int a t) := by rw [hm]; rfl
  clear hm
  subst hg
  show W c (execs (_ :: _) c.env) _ _ _ _
  repeat walk_at "s"
  rename_i t0 t1 ta t2 tb t3 t4 t5 t6
  exact ⟨rfl, ⟨fun i => [t0, t1, t2, t3, t4, t5, t6, t, 0, ta, tb, 0].getD i 0, by walk_at "o", upd_same⟩, by walk_at "keep"⟩
theorem mk_hand (hK : g.K = heap g.w.params) {a : Int} {t : Tok} :
    Fn g 2 (.ref 157) [.int a t] σ (fun v σ' => ∃ x dx, v = .ref x ∧ σ x = none ∧ σ dx = none ∧ HandAt g.w.params 157 σ' x dx { num := a } ∧ Sub σ σ') NoE := by
  refine fn_make (C := 157) (fI := 84) (by rw [hK]; k_is) (by rw [hK]; k_is) (by rw [hK]; k_is) fun x dx hx hdx hne => ?_
  refine (hand_init hK upd_same (look_off (Ne.symm hne) upd_same)).mono (fun v σ' q => ?_) fun _ _ q => q
  obtain ⟨rfl, H, K⟩ := q
  refine ⟨rfl, x, dx, rfl, hx, hdx, H, fun b o e => K b o ?_ ?_⟩
  · rw [upd_ne (new_ne e hx), upd_ne (new_ne e hdx)]; exact e
  · exact new_ne e hdx
theorem are_numbers_ok (hK : g.K = heap g.w.params) {nl : Addr} {vs : List Value} {ns : List Int} {k : Nat} (hl : σ nl = some (lstO vs k)) (hi : IntsAre vs ns) (h1 : 1 ≤ ns.length) (h64 : ns.length ≤ 64) (h0 : ∀ a ∈ ns, 0 ≤ a) (hd : ns.Nodup) :
    Fn g 2 (.ref 175) [.ref nl] σ (fun v σ' => v = .bool true ∧ Sub σ σ') NoE := by
  have hlen := hi.length
  refine' fn_body [(Str.ofString "things", .ref nl)] ?k6 ?k7 ?k9 ?kB ?c5 ?c2 ?c3 ?c4 ?_
  walk_at "enter"
  intro c m hg G hsc hcl hin hm
  have m1 : m (Str.ofString "things") = some (.ref nl) := by rw [hm]; rfl
  clear hm
  subst hg
  show W c (execs (_ :: _) c.env) _ _ _ _
  repeat walk_at "s"
  refine br_isT (decide_eq_true (by omega)) ?_
  repeat walk_at "s"
  refine br_isT (decide_eq_true (by omega)) ?_
  repeat walk_at "s"
  refine turns_list (vs := vs) (k := k) G (kind_is hsc (by decide +kernel)) (nocell hcl) (fun j m' σ' => σ' = σ ∧ m' (Str.ofString "things") = some (.ref nl)) ?_ ?_ ?_ ?_
  · rintro i m' σ' ⟨rfl, _⟩; exact hl
  · exact ⟨rfl, m1⟩
  · rintro j v m' σ' hv ⟨rfl, n1⟩
    obtain ⟨a, t, ha, rfl⟩ := ints_get hi hv
    repeat walk_at "s"
    refine w_fn G (by decide) (is_number_ok hK) (fun v σ' q => ?_) fun _ _ q => q.elim
    obtain ⟨rfl, rfl⟩ := q
    repeat walk_at "s"
    refine br_isT (decide_eq_true (h0 a (List.mem_of_getElem? ha))) ?_
    repeat walk_at "s"
    exact ⟨rfl, by walk_at "m"⟩
  · rintro m' σ' ⟨rfl, n1⟩
    repeat walk_at "s"
    rename_i x o hx ho
    obtain ⟨S, ho⟩ := ho
    rw [firstMet_nodup hd ns.length (Nat.le_refl _)] at ho
    refine w_len_set upd_same ho (by omega) fun _ => ?_
    repeat walk_at "s"
    refine ⟨?_, sub_upd hx⟩
    show Value.bool _ = _
    rw [hlen]
    simp
end
section
variable {g : Pg} {σ : Store}
theorem ring_init (hK : g.K = heap g.w.params) {r dR nl : Addr} {vs : List Value} {ns : List Int} {k : Nat} (hx : σ r = some (instObj 267 dR)) (hd : σ dR = some (dictOf [] 0)) (hl : σ nl = some (lstO vs k)) (hi : IntsAre vs ns) (h1 : 1 ≤ ns.length) (h64 : ns.length ≤ 64) (h0 : ∀ a ∈ ns, 0 ≤ a) (hnd : ns.Nodup) :
    Fn g 3 (.ref 187) [.ref r, .ref nl] σ (fun v σ' => v = .none ∧ ∃ L : RL, L.r = r ∧ L.dR = dR ∧ RingAt g.w.params 157 267 L σ' (Rng.start ns) ∧ Keep (· = dR) σ σ' ∧ σ L.lr = none ∧ ∀ d ∈ L.dxs, σ d = none) NoE := by
  have hne := inst_ne hx hd
  have hlen := hi.length
  refine' fn_body [(Str.ofString "self", .ref r), (Str.ofString "numbers", .ref nl)] ?k6 ?k7 ?k9 ?kB ?c5 ?c2 ?c3 ?c4 ?_
  walk_at "enter"
  intro c m hg G hsc hcl hin hm
  have m1 : m (Str.ofString "self") = some (.ref r) := by rw [hm]; rfl
  have m2 : m (Str.ofString "numbers") = some (.ref nl) := by rw [hm]; rfl
  clear hm
  subst hg
  show W c (execs (_ :: _) c.env) _ _ _ _
  repeat walk_at "s"
  refine w_fn G (by decide) (are_numbers_ok hK hl hi h1 h64 h0 hnd) (fun v σ1 q => ?_) fun _ _ q => q.elim
  obtain ⟨rfl, s1⟩ := q
  repeat walk_at "s"
  refine w_comp (nofree rfl) rfl (by decide +kernel) (fun _ => rfl) ?_
  repeat walk_at "s"
  refine comp_list G (by decide +kernel) rfl (by decide +kernel) (HandsTo c.g.w.params 157 σ1 ns) (fun _ _ _ _ s h => h.mono s) (s1 _ _ hl) (by rw [sizeLine_eq]; omega) ⟨[], [], rfl, rfl, rfl, List.nodup_nil, fun j x dx a e => (by simp at e), fun d hd => (by simp at hd)⟩ ?_ ?_
  · intro j v hv e C oC mm τ ys CE sub τC hP hn hmm
    obtain ⟨a, t, ha, rfl⟩ := ints_get hi hv
    have hj : j < ns.length := by
      rcases Nat.lt_or_ge j ns.length with q | q
      · exact q
      · rw [List.getElem?_eq_none q] at ha; cases ha
    repeat walk_at "s"
    refine w_fn G (Nat.le_refl _) (mk_hand hK) (fun v σ2 q => ?_) fun _ _ q => q.elim
    obtain ⟨x, dx, rfl, hx', hdx', H, s2⟩ := q
    refine ⟨rfl, s2, ?_⟩
    have nx : x ≠ C := fun q => by rw [q, upd_same] at hx'; cases hx'
    have nd : dx ≠ C := fun q => by rw [q, upd_same] at hdx'; cases hdx'
    refine hP.succ (sub_drop ((sub_upd τC).trans s2) τC) hj ha (upd_none hdx') sub ?_
    obtain ⟨kk, e1, e2⟩ := H
    exact ⟨kk, by rw [drop_ne nx]; exact e1, by rw [drop_ne nd]; exact e2⟩
  · intro D σ2 ys kk hD hD2 s2 hys hP
    have hx2 := s2 _ _ (s1 _ _ hx)
    have hd2 := s2 _ _ (s1 _ _ hd)
    have nrD : dR ≠ D := new_ne hd2 hD2
    repeat walk_at "s"
    rename_i t0 lr hlr t1 tz t2
    obtain ⟨xs, dxs, rfl, e2, e3, e4, e5, e6⟩ := hP
    have nlD : lr ≠ D := fun q => by
      have z := upd_none hlr
      rw [q, upd_same] at z; cases z
    have hlr2 : σ2 lr = none := upd_none (upd_none hlr)
    have K2 : Keep (· = dR) σ2 _ := ((((Keep.refl (D := (· = dR)) (σ := σ2)).upd (o := lstO (List.map Value.ref xs) kk) (.inr hD2)).upd (o := dictOf ([] ++ [ent c.g.w.params (Str.ofString "hands") t0 (Value.ref D)]) (0 + 1)) (.inl rfl)).upd (o := lstO [] 0) (.inr hlr)).upd (a := dR) (o := dictOf ([] ++ [ent c.g.w.params (Str.ofString "hands") t0 (Value.ref D)] ++ [ent c.g.w.params (Str.ofString "road") t1 (Value.ref lr)]) (0 + 1 + 1)) (.inl rfl) |>.upd (a := dR) (o := dictOf ([] ++ [ent c.g.w.params (Str.ofString "hands") t0 (Value.ref D)] ++ [ent c.g.w.params (Str.ofString "road") t1 (Value.ref lr)] ++ [ent c.g.w.params (Str.ofString "many") t2 (Value.int 0 tz)]) (0 + 1 + 1 + 1)) (.inl rfl)
    have nlr : lr ≠ dR := fun q => by rw [q, hd2] at hlr2; cases hlr2
    have dfree : ∀ d ∈ dxs, d ≠ dR := fun d hd' q => by have := e6 d hd'; rw [q, s1 _ _ hd] at this; cases this
    refine ⟨rfl, ⟨r, dR, D, lr, xs, dxs⟩, rfl, rfl, ⟨K2 _ _ hx2 hne, ⟨fun i => [t0, t1, t2, tz].getD i 0, upd_same⟩, ⟨kk, ?_⟩, ⟨[], 0, ?_, .nil⟩, ?_, ?_, fun i x dx h q1 q2 q3 => ?_, ?_, nlD⟩, ?_, ?_, fun d hd' => ?_⟩
    · show upd _ _ _ _ = _
      rw [upd_ne (Ne.symm nrD), upd_ne (Ne.symm nrD), upd_ne (Ne.symm nlD), upd_ne (Ne.symm nrD), upd_same]
    · show upd _ _ _ _ = _
      rw [upd_ne nlr, upd_ne nlr, upd_same]; rfl
    · show xs.length = (ns.map _).length
      rw [List.length_map]; omega
    · show dxs.length = (ns.map _).length
      rw [List.length_map]; omega
    · have q3' : (ns.map fun x => ({ num := x } : Hnd))[i]? = some h := q3
      rw [List.getElem?_map, Option.map_eq_some_iff] at q3'
      obtain ⟨a, ha, rfl⟩ := q3'
      obtain ⟨k5, z1, z2⟩ := e5 i x dx a q1 q2 ha
      exact ⟨k5, K2 _ _ z1 (inst_ne z1 hd2), K2 _ _ z2 (dfree dx (List.mem_of_getElem? q2))⟩
    · exact List.nodup_cons.mpr ⟨fun q => dfree dR q rfl, e4⟩
    · exact (Keep.of_sub (s1.trans s2)).trans K2
    · cases z : σ lr with
      | none => rfl
      | some o => rw [s2 _ _ (s1 _ _ z)] at hlr2; cases hlr2
    · cases z : σ d with
      | none => rfl
      | some o => have := e6 d hd'; rw [s1 _ _ z] at this; cases this
theorem mk_ring (hK : g.K = heap g.w.params) {nl : Addr} {vs : List Value} {ns : List Int} {k : Nat} (hl : σ nl = some (lstO vs k)) (hi : IntsAre vs ns) (h1 : 1 ≤ ns.length) (h64 : ns.length ≤ 64) (h0 : ∀ a ∈ ns, 0 ≤ a) (hnd : ns.Nodup) :
    Fn g 4 (.ref 267) [.ref nl] σ (fun v σ' => ∃ L : RL, v = .ref L.r ∧ RingAt g.w.params 157 267 L σ' (Rng.start ns) ∧ Sub σ σ' ∧ ∀ a, L.D a → σ a = none) NoE := by
  refine fn_make (C := 267) (fI := 187) (by rw [hK]; k_is) (by rw [hK]; k_is) (by rw [hK]; k_is) fun x dx hx hdx hne => ?_
  have hl' : upd (upd σ dx (dictOf [] 0)) x (instObj 267 dx) nl = some (lstO vs k) := by rw [upd_ne (new_ne hl hx), upd_ne (new_ne hl hdx)]; exact hl
  refine (ring_init hK upd_same (look_off (Ne.symm hne) upd_same) hl' hi h1 h64 h0 hnd).mono (fun v σ' q => ?_) fun _ _ q => q
  obtain ⟨rfl, L, rfl, rfl, A, K, e1, e2⟩ := q
  refine ⟨rfl, L, rfl, A, fun b o e => K b o ?_ ?_, fun a ha => ?_⟩
  · rw [upd_ne (new_ne e hx), upd_ne (new_ne e hdx)]; exact e
  · exact new_ne e hdx
  · rcases ha with q | q | q
    · rw [q]; exact hdx
    · rw [q]; exact upd_none (upd_none e1)
    · exact upd_none (upd_none (e2 a q))
end
section
variable {g : Pg} {σ : Store} {ns : List Int}
theorem cell_ok (hK : g.K = heap g.w.params) (hB : IntsAre g.bv ns) (h63 : ns.length ≤ 63) {k : Int} (h0 : 0 ≤ k) {t : Tok} : Fn g 1 (.ref 278) [.ref g.bl, .int k t] σ (fun v σ' => (∃ t, v = .int (ns.getD k.toNat 0) t) ∧ σ' = σ) NoE := by
  have hlen := hB.length
  refine' fn_body [(Str.ofString "_law_script", .ref g.bl), (Str.ofString "_law_k", .int k t)] ?k6 ?k7 ?k9 ?kB ?c5 ?c2 ?c3 ?c4 ?_
  walk_at "enter"
  intro c m hg G hsc hcl hin hm
  have m1 : m (Str.ofString "_law_script") = some (.ref g.bl) := by rw [hm]; rfl
  have m2 : m (Str.ofString "_law_k") = some (.int k t) := by rw [hm]; rfl
  clear hm
  subst hg
  show W c (execs (_ :: _) c.env) _ _ _ _
  repeat walk_at "s"
  refine br_dec (fun q1 => ?_) fun q1 => ?_
  · repeat walk_at "s"
    have hlt : k.toNat < ns.length := by omega
    have hv : c.g.bv[k.toNat]? = some c.g.bv[k.toNat] := List.getElem?_eq_getElem (by omega)
    obtain ⟨a, t', ha, e⟩ := ints_get hB hv
    refine w_item_base (v := .int a t') G.base (by omega) (by omega) (by rw [hv, e]) ?_ (by with_unfolding_all rfl)
    refine ⟨⟨t', ?_⟩, rfl⟩
    rw [List.getD_eq_getElem?_getD, ha]; rfl
  · repeat walk_at "s"
    rw [List.getD_eq_getElem?_getD, List.getElem?_eq_none (by omega)]
    exact ⟨⟨_, rfl⟩, rfl⟩
theorem whole_ok (hK : g.K = heap g.w.params) {k : Int} {t : Tok} : Fn g 1 (.ref 285) [.int k t] σ (fun v σ' => v = .bool true ∧ σ' = σ) NoE := by
  refine' fn_body [(Str.ofString "_law_found", .int k t)] ?k6 ?k7 ?k9 ?kB ?c5 ?c2 ?c3 ?c4 ?_
  walk_at "enter"
  intro c m hg G hsc hcl hin hm
  have m1 : m (Str.ofString "_law_found") = some (.int k t) := by rw [hm]; rfl
  clear hm
  subst hg
  show W c (execs (_ :: _) c.env) _ _ _ _
  repeat walk_at "s"
  exact ⟨rfl, rfl⟩
end
section
variable {g : Pg} {σ : Store} {ns : List Int} {L : RL} {nums : List Int} {R : Rng}
theorem brought_ok (hK : g.K = heap g.w.params) (H : Going g.w.params 157 267 L nums R σ) (h64 : nums.length ≤ 64) {a b : Int} {t u : Tok} :
    Fn g 5 (.ref 297) [.ref L.r, .int a t, .int b u] σ (fun v σ' => Next g.w.params 157 267 L nums R σ σ') NoE := by
  have A := H.A
  have hx := A.top
  obtain ⟨k, hd⟩ := A.dict
  have hr := H.road h64
  refine' fn_body [(Str.ofString "_law_ring", .ref L.r), (Str.ofString "_law_cell", .int a t), (Str.ofString "_law_turn", .int b u)] ?k6 ?k7 ?k9 ?kB ?c5 ?c2 ?c3 ?c4 ?_
  walk_at "enter"
  intro c m hg G hsc hcl hin hm
  have m1 : m (Str.ofString "_law_ring") = some (.ref L.r) := by rw [hm]; rfl
  have m2 : m (Str.ofString "_law_cell") = some (.int a t) := by rw [hm]; rfl
  have m3 : m (Str.ofString "_law_turn") = some (.int b u) := by rw [hm]; rfl
  clear hm
  subst hg
  show W c (execs (_ :: _) c.env) _ _ _ _
  repeat walk_at "s"
  refine w_fn G (by decide) (r_mails hK A (by omega)) (fun v σ1 q => ?_) fun _ _ q => q.elim
  obtain ⟨y, ms, kk, rfl, hy, am, rfl⟩ := q
  have hml := am.len
  have s1 := sub_upd (o := lstO (ms.map .ref) kk) hy
  have hx1 := s1 _ _ hx
  have hd1 := s1 _ _ hd
  repeat walk_at "s"
  refine br_dec (fun q1 => ?_) fun q1 => ?_
  · repeat walk_at "s"
    rw [List.length_map] at q1 ⊢
    obtain ⟨j, ej, hj⟩ := fmod_nat (n := ms.length) (by omega) (a.fdiv 4 + 7 * b)
    rw [ej]
    have H1 := H.sub s1
    obtain ⟨d, l, h, e1, e2⟩ := H1.mail (k := j) (by omega)
    refine w_fn G (by decide) (r_bring hK H1.A e1 e2 (by rw [H1.lenx]; exact h64) (by omega)) (fun v σ2 q => ?_) fun _ _ q => q.elim
    obtain ⟨_, A2, K2⟩ := q
    repeat walk_at "s"
    exact .trans (Rng.Le.refl R) (Keep.of_sub s1) (H1.brought (by omega) A2 K2)
  · repeat walk_at "s"
    exact ⟨R, H.sub s1, Rng.Le.refl R, Keep.of_sub s1⟩
end
section
variable {g : Pg} {σ : Store} {ns : List Int} {L : RL} {nums : List Int} {R : Rng}
theorem alone_ok (hK : g.K = heap g.w.params) {nl : Addr} {vs : List Value} {kn : Nat} (hnl : σ nl = some (lstO vs kn)) (hvs : IntsAre vs nums) (h64 : nums.length ≤ 64) {p f : Nat} {tp tf : Tok} (hp : p < nums.length) (hf : f < nums.length)
    (hlow : ∀ r j, 1 ≤ j → j ≤ f → nmOff nums p r j < nmAt nums p) :
    Fn g 1 (.ref 311) [.ref nl, .int p tp, .int f tf] σ (fun v σ' => v = .bool true ∧ Sub σ σ') NoE := by
  have hlen := hvs.length
  have hn0 : 0 < nums.length := by omega
  refine' fn_body [(Str.ofString "_law_numbers_here", .ref nl), (Str.ofString "_law_place", .int p tp), (Str.ofString "_law_far", .int f tf)] ?k6 ?k7 ?k9 ?kB ?c5 ?c2 ?c3 ?c4 ?_
  walk_at "enter"
  intro c m hg G hsc hcl hin hm
  have m1 : m (Str.ofString "_law_numbers_here") = some (.ref nl) := by rw [hm]; rfl
  have m2 : m (Str.ofString "_law_place") = some (.int p tp) := by rw [hm]; rfl
  have m3 : m (Str.ofString "_law_far") = some (.int f tf) := by rw [hm]; rfl
  clear hm
  subst hg
  show W c (execs (_ :: _) c.env) _ _ _ _
  repeat walk_at "s"
  refine br_isF (decide_eq_false (by omega)) ?_
  repeat walk_at "s"
  rename_i rg r1 r2 r3 hrg
  refine turns_range G (kind_is hsc (by decide +kernel)) (nocell hcl) (fun j m' σ' => σ' = upd σ rg (rngO 1 ((f : Int) + 1) r1 r2 r3) ∧ m' (Str.ofString "_law_numbers_here") = some (.ref nl) ∧ m' (Str.ofString "_law_place") = some (.int p tp) ∧ ∃ tm, m' (Str.ofString "_law_many") = some (.int (nums.length : Int) tm)) upd_same (by decide) (by decide) (by omega) (by omega) ?_ ?_ ?_
  · exact ⟨rfl, by walk_at "m", by walk_at "m", ⟨_, by rw [← hlen]; walk_at "m"⟩⟩
  · rintro j tj m' σ' hj ⟨rfl, n1, n2, ⟨tm, n3⟩⟩
    have e1 := pl_right (n := nums.length) (p := p) (1 + (j : Int)) (j + 1) (by omega) hn0
    have e2 := pl_left (n := nums.length) (p := p) (1 + (j : Int)) (j + 1) (by omega) hn0
    have l1 := pl_lt hn0 p true (j + 1)
    have l2 := pl_lt hn0 p false (j + 1)
    obtain ⟨t1, v1⟩ := ints_nm hvs l1
    obtain ⟨t2, v2⟩ := ints_nm hvs l2
    obtain ⟨t3, v3⟩ := ints_nm hvs hp
    have b1 : nmAt nums (pl nums.length p true (j + 1)) < nmAt nums p := hlow true (j + 1) (by omega) (by omega)
    have b2 : nmAt nums (pl nums.length p false (j + 1)) < nmAt nums p := hlow false (j + 1) (by omega) (by omega)
    have hnl' : upd σ rg (rngO 1 ((f : Int) + 1) r1 r2 r3) nl = some (lstO vs kn) := look_new hrg hnl
    repeat walk_at "s"
    rw [e1]
    refine w_item (v := .int (nmAt nums (pl nums.length p true (j + 1))) t1) hnl' (by omega) (by omega) (by rw [Int.toNat_natCast]; exact v1) ?_ (by with_unfolding_all rfl)
    repeat walk_at "s"
    refine w_item (v := .int (nmAt nums p) t3) hnl' (by omega) (by omega) (by rw [Int.toNat_natCast]; exact v3) ?_ (by with_unfolding_all rfl)
    repeat walk_at "s"
    refine br_isF (decide_eq_false (by omega)) ?_
    repeat walk_at "s"
    rw [e2]
    refine w_item (v := .int (nmAt nums (pl nums.length p false (j + 1))) t2) hnl' (by omega) (by omega) (by rw [Int.toNat_natCast]; exact v2) ?_ (by with_unfolding_all rfl)
    repeat walk_at "s"
    refine w_item (v := .int (nmAt nums p) t3) hnl' (by omega) (by omega) (by rw [Int.toNat_natCast]; exact v3) ?_ (by with_unfolding_all rfl)
    repeat walk_at "s"
    refine br_isF (decide_eq_false (by omega)) ?_
    repeat walk_at "s"
    exact ⟨rfl, by walk_at "m", by walk_at "m", ⟨_, by walk_at "m"⟩⟩
  · rintro m' σ' ⟨rfl, _⟩
    repeat walk_at "s"
    exact ⟨rfl, sub_upd hrg⟩
theorem stages_ok (hK : g.K = heap g.w.params) (H : Going g.w.params 157 267 L nums R σ) (h64 : nums.length ≤ 64) (h1 : 1 ≤ nums.length) {nl : Addr} {vs : List Value} {kn : Nat} (hnl : σ nl = some (lstO vs kn)) (hvs : IntsAre vs nums)
    {bl : Addr} {bvs : List Value} {kb : Nat} {codes : List Int} (hbl : σ bl = some (lstO bvs kb)) (hbi : IntsAre bvs codes) (hcd : codes.length = nums.length) (hle : ∀ (p : Nat) (x : Int) (h : Hnd), codes[p]? = some x → R.hands[p]? = some h → x ≤ stCode h) :
    Fn g 6 (.ref 318) [.ref L.r, .ref nl, .ref bl] σ (fun v σ' => ∃ fl fvs k, v = .ref fl ∧ σ fl = none ∧ σ' fl = some (lstO fvs k) ∧ IntsAre fvs (R.hands.map stCode) ∧ Sub σ σ') NoE := by
  have A := H.A
  have hx := A.top
  obtain ⟨k, hd⟩ := A.dict
  have hlen := hvs.length
  have hblen := hbi.length
  have hl := H.G.len
  refine' fn_body [(Str.ofString "_law_ring", .ref L.r), (Str.ofString "_law_numbers_here", .ref nl), (Str.ofString "_law_before", .ref bl)] ?k6 ?k7 ?k9 ?kB ?c5 ?c2 ?c3 ?c4 ?_
  walk_at "enter"
  intro c m hg G hsc hcl hin hm
  have m1 : m (Str.ofString "_law_ring") = some (.ref L.r) := by rw [hm]; rfl
  have m2 : m (Str.ofString "_law_numbers_here") = some (.ref nl) := by rw [hm]; rfl
  have m3 : m (Str.ofString "_law_before") = some (.ref bl) := by rw [hm]; rfl
  clear hm
  subst hg
  show W c (execs (_ :: _) c.env) _ _ _ _
  repeat walk_at "s"
  rename_i fl hfl tl rg r1 r2 r3 hrg
  have hflr : ∀ o, upd (upd σ fl (lstO [] 0)) rg o fl = some (lstO [] 0) := fun o => look_new hrg upd_same
  refine turns_range G (kind_is hsc (by decide +kernel)) (nocell hcl) (fun j m' σ' => (∃ fvs kf, σ' fl = some (lstO fvs kf) ∧ IntsAre fvs ((R.hands.take j).map stCode)) ∧ Sub σ σ' ∧ m' (Str.ofString "_law_ring") = some (.ref L.r) ∧ m' (Str.ofString "_law_numbers_here") = some (.ref nl) ∧ m' (Str.ofString "_law_before") = some (.ref bl) ∧ m' (Str.ofString "_law_found") = some (.ref fl)) upd_same (by decide) (by decide) (by omega) (by omega) ?_ ?_ ?_
  · exact ⟨⟨[], 0, hflr _, .nil⟩, (sub_upd hfl).trans (sub_upd hrg), by walk_at "m", by walk_at "m", by walk_at "m", by walk_at "m"⟩
  · rintro j tj m' σ' hj ⟨⟨fvs, kf, ef, hf⟩, s', n1, n2, n3, n4⟩
    rw [Int.zero_add]
    have hj' : j < nums.length := by omega
    obtain ⟨h, hh⟩ := H.hand hj'
    have H' := H.sub s'
    have hx' := s' _ _ hx
    have hd' := s' _ _ hd
    have hnl' := s' _ _ hnl
    have hbl' := s' _ _ hbl
    have ec : codes[j]? = some codes[j] := List.getElem?_eq_getElem (by omega)
    obtain ⟨tx, ex⟩ := ints_at hbi ec
    have hxle := hle j _ h ec hh
    generalize codes[j] = x at ec ex hxle
    have flen : fvs.length ≤ 64 := by rw [hf.length, List.length_map, List.length_take]; omega
    have fin : ∀ (a : Int) (t : Tok), a = stCode h → IntsAre (fvs ++ [.int a t]) ((R.hands.take (j + 1)).map stCode) := fun a t e => by
      rw [List.take_succ, hh, List.map_append, e]
      exact ints_snoc hf _ _
    repeat walk_at "s"
    refine w_fn G (by decide) (r_stage hK H'.A hh (by rw [H.lenx]; exact h64)) (fun v σ2 q => ?_) fun _ _ q => q.elim
    obtain ⟨⟨tk, rfl⟩, rfl⟩ := q
    cases hs : h.stage with
    | none =>
      have hc : stCode h = -1 := by unfold stCode; rw [hs]
      rw [hc] at hxle
      dsimp only [optV]
      repeat walk_at "s"
      refine w_fn G (by decide) (whole_ok hK) (fun v σ2 q => ?_) fun _ _ q => q.elim
      obtain ⟨rfl, rfl⟩ := q
      repeat walk_at "s"
      refine w_item (v := .int x tx) hbl' (by omega) (by omega) (by rw [Int.toNat_natCast]; exact ex) ?_ (by with_unfolding_all rfl)
      repeat walk_at "s"
      refine br_isF (decide_eq_false (by omega)) ?_
      repeat walk_at "s"
      refine br_isF (decide_eq_false (by omega)) ?_
      repeat walk_at "s"
      refine br_isF (decide_eq_false (by omega)) ?_
      repeat walk_at "s"
      refine w_append ef (by rw [sizeLine_eq]; omega) ?_
      repeat walk_at "s"
      exact ⟨⟨_, _, upd_same, fin _ _ hc.symm⟩, fun a o e => look_off (new_ne e hfl) (s' a o e), by walk_at "m", by walk_at "m", by walk_at "m", by walk_at "m"⟩
    | some st =>
      have hc : stCode h = (st : Int) := by unfold stCode; rw [hs]
      rw [hc] at hxle
      have h7 := H.G.stage_lt h64 h (List.mem_of_getElem? hh) st hs
      dsimp only [optV]
      repeat walk_at "s"
      refine w_fn G (by decide) (whole_ok hK) (fun v σ2 q => ?_) fun _ _ q => q.elim
      obtain ⟨rfl, rfl⟩ := q
      repeat walk_at "s"
      refine w_item (v := .int x tx) hbl' (by omega) (by omega) (by rw [Int.toNat_natCast]; exact ex) ?_ (by with_unfolding_all rfl)
      repeat walk_at "s"
      refine br_isF (decide_eq_false (by omega)) ?_
      repeat walk_at "s"
      refine br_isF (decide_eq_false (by omega)) ?_
      cases st with
      | zero =>
        repeat walk_at "s"
        refine br_isF (decide_eq_false (by omega)) ?_
        repeat walk_at "s"
        refine w_append ef (by rw [sizeLine_eq]; omega) ?_
        repeat walk_at "s"
        exact ⟨⟨_, _, upd_same, fin _ _ hc.symm⟩, fun a o e => look_off (new_ne e hfl) (s' a o e), by walk_at "m", by walk_at "m", by walk_at "m", by walk_at "m"⟩
      | succ st =>
        obtain ⟨g1, g2⟩ := H.G.stage hh hs
        repeat walk_at "s"
        refine br_isT (decide_eq_true (by omega)) ?_
        repeat walk_at "s"
        rename_i t1 t2 t3 t4 t5 t6 ll hll _ _
        obtain ⟨tv, ev⟩ : ∃ tv, [Value.int 1 t1, .int 2 t2, .int 4 t3, .int 8 t4, .int 16 t5, .int 32 t6][st]? = some (.int ((2 ^ st : Nat) : Int) tv) := by
          rcases st with _ | _ | _ | _ | _ | _ | st
          · exact ⟨_, rfl⟩
          · exact ⟨_, rfl⟩
          · exact ⟨_, rfl⟩
          · exact ⟨_, rfl⟩
          · exact ⟨_, rfl⟩
          · exact ⟨_, rfl⟩
          · omega
        have s2 := sub_upd (o := lstO [Value.int 1 t1, .int 2 t2, .int 4 t3, .int 8 t4, .int 16 t5, .int 32 t6] 0) hll
        refine w_item (v := .int ((2 ^ st : Nat) : Int) tv) upd_same (by omega) (by omega) (by rw [show (((st + 1 : Nat) : Int) - 1).toNat = st by omega]; exact ev) ?_ (by with_unfolding_all rfl)
        repeat walk_at "s"
        refine w_fn G (by decide) (alone_ok hK (s2 _ _ hnl') hvs h64 hj' g1 g2) (fun v σ3 q => ?_) fun _ _ q => q.elim
        obtain ⟨rfl, s3⟩ := q
        have s4 := s2.trans s3
        have ef4 := s4 _ _ ef
        repeat walk_at "s"
        refine w_append ef4 (by rw [sizeLine_eq]; omega) ?_
        repeat walk_at "s"
        exact ⟨⟨_, _, upd_same, fin _ _ hc.symm⟩, fun a o e => look_off (new_ne e hfl) (s4 _ _ (s' a o e)), by walk_at "m", by walk_at "m", by walk_at "m", by walk_at "m"⟩
  · rintro m' σ' ⟨⟨fvs, kf, ef, hf⟩, s', n1, n2, n3, n4⟩
    repeat walk_at "s"
    rw [List.take_of_length_le (by omega)] at hf
    exact ⟨fl, fvs, kf, rfl, hfl, ef, hf, s'⟩
theorem going_ok (hK : g.K = heap g.w.params) (H : Going g.w.params 157 267 L nums R σ) (h64 : nums.length ≤ 64) (h1 : 1 ≤ nums.length) {nl : Addr} {vs : List Value} {kn : Nat} (hnl : σ nl = some (lstO vs kn)) (hvs : IntsAre vs nums) (nnl : nl ≠ L.lr) {a : Int} {t : Tok} :
    Fn g 6 (.ref 325) [.ref L.r, .ref nl, .int a t] σ (fun v σ' => Next g.w.params 157 267 L nums R σ σ') NoE := by
  have hlen := hvs.length
  have nd := H.A.notD_lst hnl nnl
  refine' fn_body [(Str.ofString "_law_ring", .ref L.r), (Str.ofString "_law_numbers_here", .ref nl), (Str.ofString "_law_pick", .int a t)] ?k6 ?k7 ?k9 ?kB ?c5 ?c2 ?c3 ?c4 ?_
  walk_at "enter"
  intro c m hg G hsc hcl hin hm
  have m1 : m (Str.ofString "_law_ring") = some (.ref L.r) := by rw [hm]; rfl
  have m2 : m (Str.ofString "_law_numbers_here") = some (.ref nl) := by rw [hm]; rfl
  have m3 : m (Str.ofString "_law_pick") = some (.int a t) := by rw [hm]; rfl
  clear hm
  subst hg
  show W c (execs (_ :: _) c.env) _ _ _ _
  repeat walk_at "s"
  rename_i rg r1 r2 r3 hrg
  have s1 := sub_upd (o := rngO 0 (vs.length : Int) r1 r2 r3) hrg
  refine turns_range G (kind_is hsc (by decide +kernel)) (nocell hcl) (fun j m' σ' => Next c.g.w.params 157 267 L nums R σ σ' ∧ m' (Str.ofString "_law_ring") = some (.ref L.r) ∧ m' (Str.ofString "_law_numbers_here") = some (.ref nl) ∧ m' (Str.ofString "_law_pick") = some (.int a t)) upd_same (by decide) (by decide) (by omega) (by omega) ?_ ?_ ?_
  · exact ⟨⟨R, H.sub s1, Rng.Le.refl R, Keep.of_sub s1⟩, m1, m2, m3⟩
  · rintro j tj m' σ' hj ⟨⟨R', H', le', K'⟩, n1, n2, n3⟩
    rw [Int.zero_add]
    have hx := H'.A.top
    obtain ⟨k, hd⟩ := H'.A.dict
    have hr := H'.road h64
    have hnl' := K' _ _ hnl nd
    obtain ⟨p, ep, hp⟩ := fmod_nat (n := nums.length) (by omega) ((j : Int) + a)
    obtain ⟨hp', ehp⟩ := H'.hand hp
    repeat walk_at "s"
    rw [hlen, ep]
    refine w_fn G (by decide) (r_wake hK H'.A ehp (by rw [H'.lenx]; exact h64) (by omega)) (fun v σ2 q => ?_) fun _ _ q => q.elim
    obtain ⟨_, A2, K2⟩ := q
    repeat walk_at "s"
    exact ⟨.trans le' K' (H'.woken A2 K2), by walk_at "m", by walk_at "m", by walk_at "m"⟩
  · rintro m' σ' ⟨⟨R', H', le', K'⟩, n1, n2, n3⟩
    repeat walk_at "s"
    rename_i rg2 q1 q2 q3 hrg2
    have s2 := sub_upd (o := rngO 0 400 q1 q2 q3) hrg2
    refine turns_range G (kind_is hsc (by decide +kernel)) (nocell hcl) (fun j m' σ' => Next c.g.w.params 157 267 L nums R σ σ' ∧ m' (Str.ofString "_law_ring") = some (.ref L.r) ∧ ∃ a t, m' (Str.ofString "_law_pick") = some (.int a t)) upd_same (by decide) (by decide) (by decide) (by decide) ?_ ?_ ?_
    · exact ⟨.trans le' K' ⟨R', H'.sub s2, Rng.Le.refl R', Keep.of_sub s2⟩, n1, ⟨a, t, n3⟩⟩
    · clear H' le' K' n1 n2 n3
      rintro j tj m' σ' hj ⟨⟨R', H', le', K'⟩, n1, ⟨a, t, n3⟩⟩
      have hx := H'.A.top
      obtain ⟨kd, hd⟩ := H'.A.dict
      have hr := H'.road h64
      repeat walk_at "s"
      refine w_fn G (by decide) (r_mails hK H'.A (by omega)) (fun v σ1 q => ?_) fun _ _ q => q.elim
      obtain ⟨y, ms, kk, rfl, hy, am, rfl⟩ := q
      have hml := am.len
      have s1 := sub_upd (o := lstO (ms.map .ref) kk) hy
      repeat walk_at "s"
      rename_i z hz
      have s2 := s1.trans (sub_upd (o := lstO [] 0) hz)
      have H2 := H'.sub s2
      refine br_dec (fun q1 => ?_) fun q1 => ?_
      · repeat walk_at "s"
        exact ⟨.trans le' K' ⟨R', H2, Rng.Le.refl R', Keep.of_sub s2⟩, by walk_at "m", ⟨_, _, by walk_at "m"⟩⟩
      · rw [List.length_map] at q1
        have hx2 := s2 _ _ hx
        have hd2 := s2 _ _ hd
        repeat walk_at "s"
        refine w_fn G (by decide) (r_mails hK H2.A (by omega)) (fun v σ3 q => ?_) fun _ _ q => q.elim
        obtain ⟨y2, ms2, kk2, rfl, hy2, am2, rfl⟩ := q
        have hml2 : (List.map Value.ref ms2).length = R'.road.length := by rw [List.length_map]; exact am2.len
        have s3 := s2.trans (sub_upd (o := lstO (ms2.map .ref) kk2) hy2)
        have H3 := H'.sub s3
        have hx3 := s3 _ _ hx
        have hd3 := s3 _ _ hd
        repeat walk_at "s"
        obtain ⟨j, ej, hj⟩ := fmod_nat (n := (List.map Value.ref ms2).length) (by omega) (a.fdiv 3)
        rw [ej]
        rw [hml2] at hj
        obtain ⟨d, l, h, e1, e2⟩ := H3.mail (k := j) hj
        refine w_fn G (by decide) (r_bring hK H3.A e1 e2 (by rw [H3.lenx]; exact h64) (by omega)) (fun v σ4 q => ?_) fun _ _ q => q.elim
        obtain ⟨_, A4, K4⟩ := q
        repeat walk_at "s"
        exact ⟨.trans le' K' (.trans (Rng.Le.refl R') (Keep.of_sub s3) (H3.brought hj A4 K4)), by walk_at "m", ⟨_, _, by walk_at "m"⟩⟩
    · rintro m' σ' ⟨q, _⟩
      repeat walk_at "s"
      exact q
end
section
variable {g : Pg} {σ : Store} {ns : List Int} {L : RL} {nums : List Int} {R : Rng}
theorem deed_ok (hK : g.K = heap g.w.params) (H : Going g.w.params 157 267 L nums R σ) (h64 : nums.length ≤ 64) (h1 : 1 ≤ nums.length) {a : Int} {t u : Tok} :
    Fn g 6 (.ref 304) [.ref L.r, .int nums.length u, .int a t] σ (fun v σ' => Next g.w.params 157 267 L nums R σ σ') NoE := by
  have A := H.A
  have hx := A.top
  obtain ⟨k, hd⟩ := A.dict
  have hr := H.road h64
  refine' fn_body [(Str.ofString "_law_ring", .ref L.r), (Str.ofString "_law_many", .int nums.length u), (Str.ofString "_law_cell", .int a t)] ?k6 ?k7 ?k9 ?kB ?c5 ?c2 ?c3 ?c4 ?_
  walk_at "enter"
  intro c m hg G hsc hcl hin hm
  have m1 : m (Str.ofString "_law_ring") = some (.ref L.r) := by rw [hm]; rfl
  have m2 : m (Str.ofString "_law_many") = some (.int nums.length u) := by rw [hm]; rfl
  have m3 : m (Str.ofString "_law_cell") = some (.int a t) := by rw [hm]; rfl
  clear hm
  subst hg
  show W c (execs (_ :: _) c.env) _ _ _ _
  obtain ⟨p, ep, hp⟩ := fmod_nat (n := nums.length) (by omega) (a.fdiv 4)
  have b1 : 0 ≤ (a.fdiv 4).fmod 8 := Int.fmod_nonneg_of_pos _ (by decide)
  have b2 : (a.fdiv 4).fmod 8 < 8 := Int.fmod_lt_of_pos _ (by decide)
  have b3 : 0 ≤ a.fmod 4 := Int.fmod_nonneg_of_pos _ (by decide)
  have b4 : a.fmod 4 < 4 := Int.fmod_lt_of_pos _ (by decide)
  have b5 : (a.fmod 4).fdiv 3 = a.fmod 4 / 3 := Int.fdiv_eq_ediv_of_nonneg _ (by decide)
  have b6 : 0 ≤ (a.fmod 4).fdiv 3 := by omega
  have b7 : (a.fmod 4).fdiv 3 ≤ 1 := by omega
  have b8 : 0 ≤ (a.fdiv 4).fmod 8 * (a.fmod 4).fdiv 3 := Int.mul_nonneg b1 b6
  have b9 : (a.fdiv 4).fmod 8 * (a.fmod 4).fdiv 3 ≤ 8 * 1 := Int.mul_le_mul (by omega) b7 b6 (by omega)
  obtain ⟨hp', ehp⟩ := H.hand hp
  repeat walk_at "s"
  refine br_beq (fun q1 => ?_) fun q1 => ?_
  · repeat walk_at "s"
    rw [ep]
    refine w_fn G (by decide) (r_wake hK A ehp (by rw [H.lenx]; exact h64) (by omega)) (fun v σ2 q => ?_) fun _ _ q => q.elim
    obtain ⟨_, A2, K2⟩ := q
    repeat walk_at "s"
    exact H.woken A2 K2
  · repeat walk_at "s"
    refine w_fn G (by decide) (r_mails hK A (by omega)) (fun v σ1 q => ?_) fun _ _ q => q.elim
    obtain ⟨y, ms, kk, rfl, hy, am, rfl⟩ := q
    have hml := am.len
    have s1 := sub_upd (o := lstO (ms.map .ref) kk) hy
    repeat walk_at "s"
    rename_i z hz
    have s2 := s1.trans (sub_upd (o := lstO [] 0) hz)
    have H2 := H.sub s2
    have hx2 := s2 _ _ hx
    have hd2 := s2 _ _ hd
    refine br_dec (fun q2 => ?_) fun q2 => ?_
    · repeat walk_at "s"
      rw [ep]
      refine w_fn G (by decide) (r_wake hK H2.A ehp (by rw [H.lenx]; exact h64) (by omega)) (fun v σ2 q => ?_) fun _ _ q => q.elim
      obtain ⟨_, A2, K2⟩ := q
      repeat walk_at "s"
      exact .trans (Rng.Le.refl R) (Keep.of_sub s2) (H2.woken A2 K2)
    · repeat walk_at "s"
      rename_i rg t1 t2 t3 hrg
      have s3 := s2.trans (sub_upd (o := rngO 0 (1 + (a.fdiv 4).fmod 8 * (a.fmod 4).fdiv 3) t1 t2 t3) hrg)
      refine turns_range G (kind_is hsc (by decide +kernel)) (nocell hcl) (fun j m' σ' => Next c.g.w.params 157 267 L nums R σ σ' ∧ m' (Str.ofString "_law_ring") = some (.ref L.r) ∧ m' (Str.ofString "_law_cell") = some (.int a t)) upd_same (by omega) (by omega) (by omega) (by omega) ?_ ?_ ?_
      · exact ⟨⟨R, H.sub s3, Rng.Le.refl R, Keep.of_sub s3⟩, m1, m3⟩
      · rintro j tj m' σ' hj ⟨⟨R', H', le', K'⟩, n1, n2⟩
        repeat walk_at "s"
        refine w_fn G (by decide) (brought_ok hK H' h64) (fun v σ2 q => ?_) fun _ _ q => q.elim
        repeat walk_at "s"
        exact ⟨.trans le' K' q, by walk_at "m", by walk_at "m"⟩
      · rintro m' σ' ⟨q, _⟩
        repeat walk_at "s"
        exact q
end
section
variable {g : Pg} {σ : Store} {ns : List Int}
/-- a list of fit numbers was made -/
def Made (σ : Store) (v : Value) (σ' : Store) : Prop := ∃ nl vs nums k, v = .ref nl ∧ σ nl = none ∧ σ' nl = some (lstO vs k) ∧ IntsAre vs nums ∧ Fit nums ∧ Sub σ σ'
theorem numbers_ok (hK : g.K = heap g.w.params) (hB : IntsAre g.bv ns) (h63 : ns.length ≤ 63) : Fn g 2 (.ref 290) [.ref g.bl] σ (Made σ) NoE := by
  refine' fn_bodyC [(Str.ofString "_law_script", .ref g.bl)] ?k6 ?k7 ?k9 ?kB ?c5 ?c2 ?c3 ?c4 ?_
  walk_at "enterC"
  intro c m hg G hsc hcl hnd hin hm
  have m1 : m (Str.ofString "_law_script") = some (.ref g.bl) := by rw [hm]; rfl
  clear hm
  subst hg
  show W c (execs (_ :: _) c.env) _ _ _ _
  repeat walk_at "s"
  refine w_fn G (by decide) (cell_ok hK hB h63 (by decide)) (fun v σ' q => ?_) fun _ _ q => q.elim
  obtain ⟨⟨t1, rfl⟩, rfl⟩ := q
  repeat walk_at "s"
  refine w_fn G (by decide) (cell_ok hK hB h63 (by decide)) (fun v σ' q => ?_) fun _ _ q => q.elim
  obtain ⟨⟨t2, rfl⟩, rfl⟩ := q
  generalize ns.getD (Int.toNat 0) 0 = fst
  generalize ns.getD (Int.toNat 1) 0 = snd
  have a1 : 0 ≤ fst.fmod 9 := Int.fmod_nonneg_of_pos _ (by decide)
  have a2 : fst.fmod 9 < 9 := Int.fmod_lt_of_pos _ (by decide)
  repeat walk_at "u"
  refine x_if_cut (fun m' σ₁ => σ₁ = σ' ∧ m' (Str.ofString "_law_script") = some (.ref c.g.bl) ∧ m' (Str.ofString "_law_first") = some (.int fst t1) ∧ m' (Str.ofString "_law_second") = some (.int snd t2) ∧ ∃ (N : Nat) (t : Tok), m' (Str.ofString "_law_many") = some (.int (N : Int) t) ∧ 1 ≤ N ∧ N ≤ 64) ?_ ?_
  · repeat walk_at "u"
    refine br_beq (fun q1 => ?_) fun q1 => ?_
    · repeat walk_at "u"
      refine w_fn G (by decide) (cell_ok hK hB h63 (by decide)) (fun v σ' q => ?_) fun _ _ q => q.elim
      obtain ⟨⟨t3, rfl⟩, rfl⟩ := q
      generalize ns.getD (Int.toNat 7) 0 = sv
      have a3 : 0 ≤ sv.fmod 24 := Int.fmod_nonneg_of_pos _ (by decide)
      have a4 : sv.fmod 24 < 24 := Int.fmod_lt_of_pos _ (by decide)
      repeat walk_at "u"
      exact ⟨rfl, by walk_at "m", by walk_at "m", by walk_at "m", (1 + sv.fmod 24).toNat, _, (by rw [Int.toNat_of_nonneg (by omega)]; walk_at "m"), by omega, by omega⟩
    · repeat walk_at "u"
      exact ⟨rfl, by walk_at "m", by walk_at "m", by walk_at "m", (1 + fst.fmod 9).toNat, _, (by rw [Int.toNat_of_nonneg (by omega)]; walk_at "m"), by omega, by omega⟩
  · rintro m' σ₁ ⟨rfl, n1, n2, n3, N, tN, n4, hN1, hN2⟩
    refine x_if_cut (fun m' σ₂ => σ₂ = σ₁ ∧ m' (Str.ofString "_law_script") = some (.ref c.g.bl) ∧ m' (Str.ofString "_law_first") = some (.int fst t1) ∧ m' (Str.ofString "_law_second") = some (.int snd t2) ∧ ∃ (N : Nat) (t : Tok), m' (Str.ofString "_law_many") = some (.int (N : Int) t) ∧ 1 ≤ N ∧ N ≤ 64) ?_ ?_
    · repeat walk_at "u"
      refine br_beq (fun q1 => ?_) fun q1 => ?_
      · repeat walk_at "u"
        refine w_fn G (by decide) (cell_ok hK hB h63 (by decide)) (fun v σ' q => ?_) fun _ _ q => q.elim
        obtain ⟨⟨t3, rfl⟩, rfl⟩ := q
        generalize ns.getD (Int.toNat 7) 0 = sv
        have a3 : 0 ≤ sv.fmod 32 := Int.fmod_nonneg_of_pos _ (by decide)
        have a4 : sv.fmod 32 < 32 := Int.fmod_lt_of_pos _ (by decide)
        repeat walk_at "u"
        exact ⟨rfl, by walk_at "m", by walk_at "m", by walk_at "m", (33 + sv.fmod 32).toNat, _, (by rw [Int.toNat_of_nonneg (by omega)]; walk_at "m"), by omega, by omega⟩
      · repeat walk_at "u"
        exact ⟨rfl, n1, n2, n3, N, tN, n4, hN1, hN2⟩
    · rintro m₂ σ₂ ⟨rfl, n1, n2, n3, N, tN, n4, hN1, hN2⟩
      have b1 : 0 ≤ (snd.fdiv 256).fmod 1000000 := Int.fmod_nonneg_of_pos _ (by decide)
      have b2 : (snd.fdiv 256).fmod 1000000 < 1000000 := Int.fmod_lt_of_pos _ (by decide)
      have b3 : 0 ≤ snd.fmod 4 := Int.fmod_nonneg_of_pos _ (by decide)
      have b4 : snd.fmod 4 < 4 := Int.fmod_lt_of_pos _ (by decide)
      repeat walk_at "u"
      walk_at "s"
      repeat walk_at "u"
      refine br_beq (fun q1 => ?_) fun q1 => ?_
      · repeat walk_at "u"
        refine w_comp (allfree hsc hcl rfl) rfl (by decide +kernel) (fun _ => rfl) ?_
        repeat walk_at "u"
        rename_i rg r1 r2 r3 hrg
        have s1 := sub_upd (o := rngO 0 (N : Int) r1 r2 r3) hrg
        refine comp_range G (by decide +kernel) rfl (by decide +kernel) (fun i ys _ => IntsAre ys ((List.range i).map (fun k : Nat => ((k : Int) + (snd.fdiv 4).fmod (N : Int)).fmod (N : Int) * (1 + (snd.fdiv 256).fmod 1000000)))) (fun _ _ _ _ _ h => h) upd_same (by decide) (by decide) (by omega) (by omega) (by rw [sizeLine_eq]; omega) .nil ?_ ?_
        · intro j tj hj e C oC mm τ ys CE sub τC hP hn hmm
          rw [Int.zero_add] at hmm
          repeat walk_at "u"
          exact ⟨rfl, Sub.refl _, ints_next hP rfl⟩
        · intro D σ' ys kk hD hD2 s2 hys hP
          rw [Int.sub_zero, Int.toNat_natCast] at hP
          exact ⟨D, ys, _, kk, rfl, upd_none hD, upd_same, hP, nums1 hN1 hN2 (by omega), (s1.trans s2).trans (sub_upd hD2)⟩
      · repeat walk_at "u"
        walk_at "s"
        repeat walk_at "u"
        refine br_beq (fun q2 => ?_) fun q2 => ?_
        · repeat walk_at "u"
          refine w_comp (allfree hsc hcl rfl) rfl (by decide +kernel) (fun _ => rfl) ?_
          repeat walk_at "u"
          rename_i rg r1 r2 r3 hrg
          have s1 := sub_upd (o := rngO 0 (N : Int) r1 r2 r3) hrg
          refine comp_range G (by decide +kernel) rfl (by decide +kernel) (fun i ys _ => IntsAre ys ((List.range i).map (fun k : Nat => ((N : Int) - 1 - ((k : Int) + (snd.fdiv 4).fmod (N : Int)).fmod (N : Int)) * (1 + (snd.fdiv 256).fmod 1000000)))) (fun _ _ _ _ _ h => h) upd_same (by decide) (by decide) (by omega) (by omega) (by rw [sizeLine_eq]; omega) .nil ?_ ?_
          · intro j tj hj e C oC mm τ ys CE sub τC hP hn hmm
            rw [Int.zero_add] at hmm
            repeat walk_at "u"
            exact ⟨rfl, Sub.refl _, ints_next hP rfl⟩
          · intro D σ' ys kk hD hD2 s2 hys hP
            rw [Int.sub_zero, Int.toNat_natCast] at hP
            exact ⟨D, ys, _, kk, rfl, upd_none hD, upd_same, hP, nums2 hN1 hN2 (by omega), (s1.trans s2).trans (sub_upd hD2)⟩
        · repeat walk_at "u"
          have hc0 := Int.fdiv_eq_ediv_of_nonneg (snd.fmod 4) (show (0 : Int) ≤ 3 by decide)
          rename_i ta tb tc td l0 hl0 te tf tg th
          have s0 := sub_upd (o := lstO [Value.int 1009 ta, Value.int (10 ^ Int.toNat 30) td] 0) hl0
          obtain ⟨w, tw, ew, hw⟩ : ∃ (w : Int) (tw : Tok), [Value.int 1009 ta, Value.int (10 ^ Int.toNat 30) td][((snd.fmod 4).fdiv 3).toNat]? = some (Value.int w tw) ∧ 0 < w := by
            rcases (show (snd.fmod 4).fdiv 3 = 0 ∨ (snd.fmod 4).fdiv 3 = 1 by omega) with q | q
            · rw [q]; exact ⟨1009, ta, rfl, by decide⟩
            · rw [q]; exact ⟨10 ^ Int.toNat 30, td, rfl, by decide +kernel⟩
          refine w_item (v := .int w tw) upd_same (by omega) (by omega) ew ?_ (by with_unfolding_all rfl)
          repeat walk_at "u"
          refine w_comp (allfree hsc hcl rfl) rfl (by decide +kernel) (fun _ => rfl) ?_
          repeat walk_at "u"
          rename_i rg r1 r2 r3 hrg
          have s1 := s0.trans (sub_upd (o := rngO 0 (N : Int) r1 r2 r3) hrg)
          refine comp_range G (by decide +kernel) rfl (by decide +kernel) (fun i ys _ => IntsAre ys ((List.range i).map (fun k : Nat => ((ns.getD (2 + (k : Int).fmod 6).toNat 0 + (k : Int) * (k : Int) * 7919) * 48271).fmod w * 64 + (k : Int)))) (fun _ _ _ _ _ h => h) upd_same (by decide) (by decide) (by omega) (by omega) (by rw [sizeLine_eq]; omega) .nil ?_ ?_
          · intro j tj hj e C oC mm τ ys CE sub τC hP hn hmm
            rw [Int.zero_add] at hmm
            have hj' : j < N := by omega
            have c1 : 0 ≤ (j : Int).fmod 6 := Int.fmod_nonneg_of_pos _ (by decide)
            repeat walk_at "u"
            refine w_fn G (by decide) (cell_ok hK hB h63 (by omega)) (fun v σ' q => ?_) fun _ _ q => q.elim
            obtain ⟨⟨t3, rfl⟩, rfl⟩ := q
            repeat walk_at "u"
            exact ⟨rfl, Sub.refl _, ints_next hP rfl⟩
          · intro D σ' ys kk hD hD2 s2 hys hP
            rw [Int.sub_zero, Int.toNat_natCast] at hP
            exact ⟨D, ys, _, kk, rfl, upd_none (upd_none hD), upd_same, hP, nums3 (g := fun k : Nat => (ns.getD (2 + (k : Int).fmod 6).toNat 0 + (k : Int) * (k : Int) * 7919) * 48271) hN1 hN2 hw, (s1.trans s2).trans (sub_upd hD2)⟩
end
set_option hygiene false in
local macro_rules | `(tactic| walk_at "sl") => `(tactic| ((with_reducible refine w_tailL ?_ ?ht); rotate_left; (case ht => intro _ _; with_unfolding_all exact rfl)))
theorem law_holds : PySem.Challenge.rw_uf060019_08.Holds := by
  refine holds_law (by decide +kernel) fun said => ?_
  refine holds_open (q := view) (loose := []) (Xt := fun s => xlAt view [] s && recOk [] s) (XP := XL view []) (Yf := Hook.obs hook) (Ya := Hook.val hook) (YP := Hook.says hook) top_runs (Hook.of hook) (Hook.keeps hook) (fun s e => xl_of s (Bool.and_eq_true_iff.mp e).1) XL.keeps (by rfl) (by rfl) (by rfl) (fun s e => recFacts_of (Bool.and_eq_true_iff.mp e).2) (by rfl) (by first | assumption | decide +kernel) (by decide +kernel) ⟨rfl, rfl, rfl, rfl, rfl, by decide +kernel⟩ ?hw ?hc
  (case hw => w_witness2)
  intro w s₀ s₁ mg mb G Y fa o pm cd doc dV kV ho hd hcd hD hmg hg args vals as hpre hlay hrd hwl hlo
  have KX := kIn_of Y
  refine Ground.open G ?_
  intro T B D TE TW
  wrow_args hpre hlay hrd hwl hlo
  refine enter_call ?_
  rename_i ns _ _ _ _ _ _ _ l vs _ hL _ _ _ hI _ hc _
  have hdV : dV = .none := by
    rcases hD.pos with q | q
    · exact q.2
    · exact absurd rfl q.1
  have hkV : kV = .none := by
    rcases hD.kw with q | q
    · exact q.2
    · exact absurd rfl q.1
  subst hdV hkV
  have h63 : ns.length ≤ 63 := by omega
  refine codeAny_mono (top_call (g := ⟨_, w, heap w.params, _, _, _, mg, mb, l, vs, s₁.heap⟩) (binds := [(Str.ofString "_law_script", .ref l)]) T KX hL rfl ho hd hcd rfl rfl (of_decide_eq_true rfl) (of_decide_eq_true rfl) rfl rfl rfl ?_) (fun r s' q => ?_)
  rotate_left
  · obtain ⟨rfl, k1, k2, k3⟩ := q
    exact GoodW.toG (good_true PySem.Challenge.rw_uf060019_08 k1 k2 (k3.trans hg))
  intro c hg' G' hsc hcl hh0 hfrm
  have hK : c.g.K = heap c.g.w.params := by rw [hg']
  have hB : IntsAre c.g.bv ns := by rw [hg']; exact hI
  have hl' : l = c.g.bl := by rw [hg']
  have hnd : (c.env.scope.names.map (·.1)).Nodup := by rw [hsc]; exact of_decide_eq_true rfl
  rw [hsc] at hnd
  have hin : interactive c.env = false := by unfold interactive; rw [hsc]; rfl
  dsimp only [docDef] at hsc hcl hnd ⊢
  generalize hm : (fun y => List.lookup y [(Str.ofString "_law_script", Value.ref l)].reverse) = m
  have m1 : m (Str.ofString "_law_script") = some (.ref c.g.bl) := by rw [← hm, ← hl']; rfl
  clear hm
  rename Gnd 300 c => G
  clear hg' hh0 hfrm
  repeat walk_at "u"
  refine w_fn G (by decide) (numbers_ok hK hB h63) (fun v σ1 q => ?_) fun _ _ q => q.elim
  obtain ⟨nl, nvs, nums, kn, rfl, hnl0, hnl, hni, hfit, s1⟩ := q
  have hnlen := hni.length
  have f1 := hfit.pos
  have f2 := hfit.most
  repeat walk_at "u"
  rename_i nc knc hnc
  have s2 := sub_upd (o := lstO nvs knc) hnc
  refine w_fn G (by decide) (mk_ring hK (nl := nc) upd_same hni f1 f2 hfit.nn hfit.nd) (fun v σ2 q => ?_) fun _ _ q => q.elim
  obtain ⟨L, rfl, A, s3, hD⟩ := q
  have H : Going c.g.w.params 157 267 L nums (Rng.start nums) σ2 := ⟨A, good_start (by omega) hfit.nd, Nat.le_refl _⟩
  have hnl2 := s3 _ _ (s2 _ _ hnl)
  have nnl : nl ≠ L.lr := fun q => by have := hD L.lr (.inr (.inl rfl)); rw [← q, s2 _ _ hnl] at this; cases this
  repeat walk_at "u"
  rename_i tz0 tz zl hzl tl
  refine w_times upd_same (by omega) (by omega) (by simp; omega) fun b0 hb0 => ?_
  repeat walk_at "u"
  refine ⟨_, _, 9, _, rfl, rfl, .inl G.base, by rw [sizeLine_eq, hB.length]; omega, fun tl htl => ?_⟩
  have s4 := ((sub_upd (o := lstO [Value.int (-1) tz] 0) hzl).trans (sub_upd (o := lstO (List.replicate (nvs.length : Int).toNat [Value.int (-1) tz]).flatten 0) hb0)).trans (sub_upd (o := lstO (List.drop 9 c.g.bv) 0) htl)
  refine turns_list (vs := c.g.bv.drop 9) (k := 0) G (kind_is hsc (by decide +kernel)) (cell_no (sc := c.env.scope) (k := .local) (by rw [hcl, hsc]) (by rw [hsc]; decide +kernel) (fun q => nomatch q) (by rw [hsc]; exact hnd)) (fun j m' σ' => ∃ (R : Rng) (bl : Addr) (bvs : List Value) (kb : Nat) (codes : List Int), Going c.g.w.params 157 267 L nums R σ' ∧ σ' nl = some (lstO nvs kn) ∧ σ' tl = some (lstO (List.drop 9 c.g.bv) 0) ∧ tl ≠ L.lr ∧ σ' bl = some (lstO bvs kb) ∧ bl ≠ L.lr ∧ IntsAre bvs codes ∧ codes.length = nums.length ∧ (∀ (p : Nat) (x : Int) (h : Hnd), codes[p]? = some x → R.hands[p]? = some h → x ≤ stCode h) ∧ m' (Str.ofString "_law_before") = some (.ref bl) ∧ m' (Str.ofString "_law_ring") = some (.ref L.r) ∧ m' (Str.ofString "_law_numbers_here") = some (.ref nl) ∧ m' (Str.ofString "_law_script") = some (.ref c.g.bl)) ?_ ?_ ?_ ?_
  · rintro i m' σ' ⟨R, bl, bvs, kb, codes, _, _, z, _⟩; exact z
  · have hlr : ∃ o, σ2 L.lr = some o := by obtain ⟨ms, kr, er, _⟩ := A.road; exact ⟨_, er⟩
    obtain ⟨olr, hlr⟩ := hlr
    refine ⟨Rng.start nums, b0, _, 0, List.replicate (nvs.length : Int).toNat (-1), H.sub s4, s4 _ _ hnl2, upd_same, fun q => ?_, look_new htl upd_same, fun q => ?_, ints_rep _, by simp; omega, fun p x h e1 e2 => ?_, by walk_at "m", by walk_at "m", by walk_at "m", by walk_at "m"⟩
    · have := upd_none (upd_none htl); rw [q, hlr] at this; cases this
    · have := upd_none hb0; rw [q, hlr] at this; cases this
    · have : x = -1 := (List.mem_replicate.mp (List.mem_of_getElem? e1)).2
      rw [this]; unfold stCode; split <;> omega
  · rintro j v m' σ' hv ⟨R, bl, bvs, kb, codes, H', hnl', htl', ntl, hbl, nbl, hbi, hcl2, hle, n1, n2, n3, n4⟩
    obtain ⟨a, ta, _, rfl⟩ := ints_get (ints_drop hB 9) hv
    repeat walk_at "u"
    rw [hnlen]
    refine w_fn G (by decide) (deed_ok hK H' f2 f1) (fun v σ3 q => ?_) fun _ _ q => q.elim
    obtain ⟨R', H3, le, K3⟩ := q
    have hnl3 := K3 _ _ hnl' (H'.A.notD_lst hnl' nnl)
    have htl3 := K3 _ _ htl' (H'.A.notD_lst htl' ntl)
    have hbl3 := K3 _ _ hbl (H'.A.notD_lst hbl nbl)
    have hle3 : ∀ (p : Nat) (x : Int) (h : Hnd), codes[p]? = some x → R'.hands[p]? = some h → x ≤ stCode h := fun p x h' e1 e2 => by
      have hp : p < nums.length := by
        rw [← hcl2]
        rcases Nat.lt_or_ge p codes.length with q | q
        · exact q
        · rw [List.getElem?_eq_none q] at e1; cases e1
      obtain ⟨h, hh⟩ := H'.hand hp
      obtain ⟨h2, hh2, q2⟩ := le.2 p h hh
      rw [e2] at hh2; cases hh2
      exact Int.le_trans (hle p x h e1 hh) (stCode_le q2)
    repeat walk_at "u"
    refine w_fn G (by decide) (stages_ok hK H3 f2 f1 hnl3 hni hbl3 hbi hcl2 hle3) (fun v σ4 q => ?_) fun _ _ q => q.elim
    obtain ⟨fl, fvs, kf, rfl, hfl0, hfl, hfi, s5⟩ := q
    repeat walk_at "u"
    walk_at "s"
    repeat walk_at "u"
    refine ⟨R', fl, fvs, kf, R'.hands.map stCode, H3.sub s5, s5 _ _ hnl3, s5 _ _ htl3, ntl, hfl, fun q => ?_, hfi, by rw [List.length_map]; exact H3.G.len, fun p x h e1 e2 => ?_, by walk_at "m", by walk_at "m", by walk_at "m", by walk_at "m"⟩
    · obtain ⟨ms, kr, er, _⟩ := H3.A.road
      rw [q, er] at hfl0; cases hfl0
    · rw [List.getElem?_map, e2] at e1
      rw [← Option.some.inj e1]; exact Int.le_refl _
  · rintro m' σ' ⟨R, bl, bvs, kb, codes, H', hnl', htl', ntl, hbl, nbl, hbi, hcl2, hle, n1, n2, n3, n4⟩
    repeat walk_at "u"
    refine w_fn G (by decide) (cell_ok hK hB h63 (by decide)) (fun v σ7 q => ?_) fun _ _ q => q.elim
    obtain ⟨⟨t7, rfl⟩, rfl⟩ := q
    generalize ns.getD (Int.toNat 8) 0 = pk
    repeat walk_at "u"
    refine x_if_cut (fun m' σ' => (∃ R, Going c.g.w.params 157 267 L nums R σ' ∧ (∀ (p : Nat) (x : Int) (h : Hnd), codes[p]? = some x → R.hands[p]? = some h → x ≤ stCode h)) ∧ σ' nl = some (lstO nvs kn) ∧ σ' bl = some (lstO bvs kb) ∧ m' (Str.ofString "_law_before") = some (.ref bl) ∧ m' (Str.ofString "_law_ring") = some (.ref L.r) ∧ m' (Str.ofString "_law_numbers_here") = some (.ref nl)) ?_ ?_
    · repeat walk_at "u"
      refine br_any (fun q1 => ?_) fun q1 => ?_
      · repeat walk_at "u"
        refine w_fn G (by decide) (going_ok hK H' f2 f1 hnl' hni nnl) (fun v σ3 q => ?_) fun _ _ q => q.elim
        obtain ⟨R', H3, le, K3⟩ := q
        repeat walk_at "u"
        refine ⟨⟨R', H3, fun p x h' e1 e2 => ?_⟩, K3 _ _ hnl' (H'.A.notD_lst hnl' nnl), K3 _ _ hbl (H'.A.notD_lst hbl nbl), by walk_at "m", by walk_at "m", by walk_at "m"⟩
        have hp : p < nums.length := by
          rw [← hcl2]
          rcases Nat.lt_or_ge p codes.length with q | q
          · exact q
          · rw [List.getElem?_eq_none q] at e1; cases e1
        obtain ⟨h, hh⟩ := H'.hand hp
        obtain ⟨h2, hh2, q2⟩ := le.2 p h hh
        rw [e2] at hh2; cases hh2
        exact Int.le_trans (hle p x h e1 hh) (stCode_le q2)
      · repeat walk_at "u"
        exact ⟨⟨R, H', hle⟩, hnl', hbl, by walk_at "m", by walk_at "m", by walk_at "m"⟩
    · rintro m₂ σ₂ ⟨⟨R₂, H₂, hle₂⟩, hnl₂, hbl₂, n1, n2, n3⟩
      repeat walk_at "u"
      refine w_fn G (by decide) (stages_ok hK H₂ f2 f1 hnl₂ hni hbl₂ hbi hcl2 hle₂) (fun v σ4 q => ?_) fun _ _ q => q.elim
      obtain ⟨fl, fvs, kf, rfl, hfl0, hfl, hfi, s5⟩ := q
      repeat walk_at "u"
      rfl
end Mine

theorem PySem.Challenge.cw_uf060019_08_holds : PySem.Challenge.rw_uf060019_08.Holds :=
  Mine.law_holds
