import PyProof.Rows.All
import PyProof.Rows.EqNone
import PyProof.Rows.ListRangeD
import PyProof.EnumStmt
import PyProof.Rows.Range3
import PyProof.SliceMore
import PyProof.TupleOfSeq
import PyProof.Rows.MaxTwoN
import PyProof.IsiHeapPairs
import PyProof.IsiNone
import PyProof.ExcAttrAll.ValueError
import PyProof.ExcArgsOwn
import KE.KTryMore
import KE.LcSums
import KE.KListMore
import KE.KPop
import OpenK.KPick
import OpenK.KFor
import OpenK.KLaw
import OpenK.KOwn
import OpenK.KList
import OpenK.KCell
import OpenK.KWalk
import OpenK.KLine
import Wide.Line
import Open.Line
import PySem.Challenge.RW_uf060019_05
set_option Elab.async false
set_option compiler.extract_closed false
set_option maxRecDepth 100000
set_option maxHeartbeats 8000000
open PySem PySem.W PySem.Calls PyProof.Rows
namespace Mine
/-! ## the top: what it leaves -/
abbrev pg : Program := PySem.Challenge.pw_uf060019_05
noncomputable def stA : Stmt → Arguments
  | .FunctionDef _ a _ _ _ _ _ _ _ _ => a
  | _ => { posonlyargs := [], args := [], vararg := none, kwonlyargs := [], kw_defaults := [], kwarg := none, defaults := [] }
noncomputable def stB : Stmt → List Stmt
  | .FunctionDef _ _ b _ _ _ _ _ _ _ => b
  | .ClassDef _ _ _ b _ _ _ _ _ _ _ => b
  | _ => []
noncomputable def stS : Stmt → Scope
  | .FunctionDef _ _ _ _ _ _ s _ _ _ => s
  | _ => pg.main.scope
noncomputable def st (i : Nat) : Stmt := pg.main.body.getD i (.Pass ⟨0, 0, 0, 0⟩)
noncomputable def st2 (i j : Nat) : Stmt := (stB (st i)).getD j (.Pass ⟨0, 0, 0, 0⟩)
noncomputable def heap (P : Params) : Frag := 
  (nat_lit 2, { cls := Value.none, data := Data.dict #[] }) ::
  (nat_lit 3, { cls := Value.type "dict", data := Data.dict #[{ hash := PyData.keyHash P (Str.ofString "__name__"), key := Value.str (Str.ofString "__name__") 165, val := Value.str (Str.ofString "law_uf060019_05") 515 }, { hash := PyData.keyHash P (Str.ofString "__doc__"), key := Value.str (Str.ofString "__doc__") 166, val := Value.none }, { hash := PyData.keyHash P (Str.ofString "__package__"), key := Value.str (Str.ofString "__package__") 167, val := Value.none }, { hash := PyData.keyHash P (Str.ofString "__loader__"), key := Value.str (Str.ofString "__loader__") 168, val := Value.builtin "__main__.__loader__#opaque" }, { hash := PyData.keyHash P (Str.ofString "__spec__"), key := Value.str (Str.ofString "__spec__") 169, val := Value.none }, { hash := PyData.keyHash P (Str.ofString "__annotations__"), key := Value.str (Str.ofString "__annotations__") 170, val := Value.ref 6 }, { hash := PyData.keyHash P (Str.ofString "__builtins__"), key := Value.str (Str.ofString "__builtins__") 171, val := Value.ref 4 }, { hash := PyData.keyHash P (Str.ofString "__file__"), key := Value.str (Str.ofString "__file__") 173, val := Value.str (Str.ofString "/claim/cut.py") 172 }, { hash := PyData.keyHash P (Str.ofString "__cached__"), key := Value.str (Str.ofString "__cached__") 174, val := Value.none }, { hash := PyData.keyHash P (Str.ofString "RingError"), key := Value.str (Str.ofString "RingError") 206, val := Value.ref 24 }, { hash := PyData.keyHash P (Str.ofString "BadRing"), key := Value.str (Str.ofString "BadRing") 222, val := Value.ref 37 }, { hash := PyData.keyHash P (Str.ofString "NoHand"), key := Value.str (Str.ofString "NoHand") 238, val := Value.ref 49 }, { hash := PyData.keyHash P (Str.ofString "NoMail"), key := Value.str (Str.ofString "NoMail") 254, val := Value.ref 61 }, { hash := PyData.keyHash P (Str.ofString "ASK"), key := Value.str (Str.ofString "ASK") 258, val := Value.str (Str.ofString "ask") 257 }, { hash := PyData.keyHash P (Str.ofString "ANSWER"), key := Value.str (Str.ofString "ANSWER") 260, val := Value.str (Str.ofString "answer") 259 }, { hash := PyData.keyHash P (Str.ofString "CROWN"), key := Value.str (Str.ofString "CROWN") 262, val := Value.str (Str.ofString "crown") 261 }, { hash := PyData.keyHash P (Str.ofString "Hand"), key := Value.str (Str.ofString "Hand") 376, val := Value.ref 150 }, { hash := PyData.keyHash P (Str.ofString "MOST_HANDS"), key := Value.str (Str.ofString "MOST_HANDS") 380, val := Value.int 64 379 }, { hash := PyData.keyHash P (Str.ofString "is_number"), key := Value.str (Str.ofString "is_number") 387, val := Value.ref 161 }, { hash := PyData.keyHash P (Str.ofString "are_numbers"), key := Value.str (Str.ofString "are_numbers") 395, val := Value.ref 168 }, { hash := PyData.keyHash P (Str.ofString "Ring"), key := Value.str (Str.ofString "Ring") 514, val := Value.ref 260 }, { hash := PyData.keyHash P (Str.ofString "_law_cell_at"), key := Value.str (Str.ofString "_law_cell_at") 524, val := Value.ref 271 }, { hash := PyData.keyHash P (Str.ofString "_law_whole"), key := Value.str (Str.ofString "_law_whole") 531, val := Value.ref 278 }, { hash := PyData.keyHash P (Str.ofString "_law_letters"), key := Value.str (Str.ofString "_law_letters") 541, val := Value.ref 285 }, { hash := PyData.keyHash P (Str.ofString "_law_truth"), key := Value.str (Str.ofString "_law_truth") 549, val := Value.ref 292 }, { hash := PyData.keyHash P (Str.ofString "_law_numbers"), key := Value.str (Str.ofString "_law_numbers") 555, val := Value.ref 297 }, { hash := PyData.keyHash P (Str.ofString "_law_start"), key := Value.str (Str.ofString "_law_start") 563, val := Value.ref 304 }, { hash := PyData.keyHash P (Str.ofString "_law_asks"), key := Value.str (Str.ofString "_law_asks") 572, val := Value.ref 311 }, { hash := PyData.keyHash P (Str.ofString "_law_woken"), key := Value.str (Str.ofString "_law_woken") 579, val := Value.ref 318 }, { hash := PyData.keyHash P (Str.ofString "_law_taken"), key := Value.str (Str.ofString "_law_taken") 594, val := Value.ref 325 }, { hash := PyData.keyHash P (Str.ofString "_law_put"), key := Value.str (Str.ofString "_law_put") 604, val := Value.ref 332 }, { hash := PyData.keyHash P (Str.ofString "_law_came"), key := Value.str (Str.ofString "_law_came") 613, val := Value.ref 339 }, { hash := PyData.keyHash P (Str.ofString "_law_step"), key := Value.str (Str.ofString "_law_step") 628, val := Value.ref 346 }, { hash := PyData.keyHash P (Str.ofString "_law_strange"), key := Value.str (Str.ofString "_law_strange") 638, val := Value.ref 353 }, { hash := PyData.keyHash P (Str.ofString "_law_hand_told"), key := Value.str (Str.ofString "_law_hand_told") 650, val := Value.ref 360 }, { hash := PyData.keyHash P (Str.ofString "_law_hands_told"), key := Value.str (Str.ofString "_law_hands_told") 663, val := Value.ref 367 }, { hash := PyData.keyHash P (Str.ofString "_law_looked"), key := Value.str (Str.ofString "_law_looked") 675, val := Value.ref 374 }, { hash := PyData.keyHash P (Str.ofString "_law_all"), key := Value.str (Str.ofString "_law_all") 685, val := Value.ref 381 }, { hash := PyData.keyHash P (Str.ofString "_law_rests"), key := Value.str (Str.ofString "_law_rests") 695, val := Value.ref 388 }, { hash := PyData.keyHash P (Str.ofString "law"), key := Value.str (Str.ofString "law") 701, val := Value.ref 393 }] 40 }) ::
  (nat_lit 15, { cls := Value.type "tuple", data := Data.seq #[Value.type "ValueError"] }) ::
  (nat_lit 22, { cls := Value.type "tuple", data := Data.seq #[] }) ::
  (nat_lit 23, { cls := Value.type "dict", data := Data.dict #[{ hash := PyData.keyHash P (Str.ofString "__module__"), key := Value.str (Str.ofString "__module__") 196, val := Value.str (Str.ofString "ringcrown.errors") 187 }, { hash := PyData.keyHash P (Str.ofString "__firstlineno__"), key := Value.str (Str.ofString "__firstlineno__") 200, val := Value.int 2 199 }, { hash := PyData.keyHash P (Str.ofString "__static_attributes__"), key := Value.str (Str.ofString "__static_attributes__") 201, val := Value.ref 22 }, { hash := PyData.keyHash P (Str.ofString "__weakref__"), key := Value.str (Str.ofString "__weakref__") 203, val := Value.ref 25 }, { hash := PyData.keyHash P (Str.ofString "__doc__"), key := Value.str (Str.ofString "__doc__") 204, val := Value.none }] 3 }) ::
  (nat_lit 24, { cls := Value.type "type", data := Data.cls { name := Str.ofString "RingError", bases := [Value.type "ValueError"], mro := [Value.ref 24, Value.type "ValueError", Value.type "Exception", Value.type "BaseException", Value.type "object"], ns := 23, qualname := Str.ofString "RingError", subclasses := [Value.ref 37, Value.ref 49, Value.ref 61] }, slots := #[some (Value.ref 15), none, some (Value.str (Str.ofString "RingError") 189), some (Value.str (Str.ofString "RingError") 197), some (Value.builtin "ValueError.__new__"), some (Value.bool true)] }) ::
  (nat_lit 25, { cls := Value.type "getset_descriptor", data := Data.fields #[Value.str (Str.ofString "__weakref__") 202, Value.ref 24, Value.builtin "ExceptionGroup.__weakref__", Value.none] }) ::
  (nat_lit 28, { cls := Value.type "tuple", data := Data.seq #[Value.ref 24] }) ::
  (nat_lit 35, { cls := Value.type "tuple", data := Data.seq #[] }) ::
  (nat_lit 36, { cls := Value.type "dict", data := Data.dict #[{ hash := PyData.keyHash P (Str.ofString "__module__"), key := Value.str (Str.ofString "__module__") 214, val := Value.str (Str.ofString "ringcrown.errors") 187 }, { hash := PyData.keyHash P (Str.ofString "__firstlineno__"), key := Value.str (Str.ofString "__firstlineno__") 218, val := Value.int 4 217 }, { hash := PyData.keyHash P (Str.ofString "__static_attributes__"), key := Value.str (Str.ofString "__static_attributes__") 219, val := Value.ref 35 }, { hash := PyData.keyHash P (Str.ofString "__doc__"), key := Value.str (Str.ofString "__doc__") 220, val := Value.none }] 2 }) ::
  (nat_lit 37, { cls := Value.type "type", data := Data.cls { name := Str.ofString "BadRing", bases := [Value.ref 24], mro := [Value.ref 37, Value.ref 24, Value.type "ValueError", Value.type "Exception", Value.type "BaseException", Value.type "object"], ns := 36, qualname := Str.ofString "BadRing" }, slots := #[some (Value.ref 28), none, some (Value.str (Str.ofString "BadRing") 207), some (Value.str (Str.ofString "BadRing") 215), some (Value.builtin "ValueError.__new__"), some (Value.bool true)] }) ::
  (nat_lit 40, { cls := Value.type "tuple", data := Data.seq #[Value.ref 24] }) ::
  (nat_lit 47, { cls := Value.type "tuple", data := Data.seq #[] }) ::
  (nat_lit 48, { cls := Value.type "dict", data := Data.dict #[{ hash := PyData.keyHash P (Str.ofString "__module__"), key := Value.str (Str.ofString "__module__") 230, val := Value.str (Str.ofString "ringcrown.errors") 187 }, { hash := PyData.keyHash P (Str.ofString "__firstlineno__"), key := Value.str (Str.ofString "__firstlineno__") 234, val := Value.int 6 233 }, { hash := PyData.keyHash P (Str.ofString "__static_attributes__"), key := Value.str (Str.ofString "__static_attributes__") 235, val := Value.ref 47 }, { hash := PyData.keyHash P (Str.ofString "__doc__"), key := Value.str (Str.ofString "__doc__") 236, val := Value.none }] 2 }) ::
  (nat_lit 49, { cls := Value.type "type", data := Data.cls { name := Str.ofString "NoHand", bases := [Value.ref 24], mro := [Value.ref 49, Value.ref 24, Value.type "ValueError", Value.type "Exception", Value.type "BaseException", Value.type "object"], ns := 48, qualname := Str.ofString "NoHand" }, slots := #[some (Value.ref 40), none, some (Value.str (Str.ofString "NoHand") 223), some (Value.str (Str.ofString "NoHand") 231), some (Value.builtin "ValueError.__new__"), some (Value.bool true)] }) ::
  (nat_lit 52, { cls := Value.type "tuple", data := Data.seq #[Value.ref 24] }) ::
  (nat_lit 59, { cls := Value.type "tuple", data := Data.seq #[] }) ::
  (nat_lit 60, { cls := Value.type "dict", data := Data.dict #[{ hash := PyData.keyHash P (Str.ofString "__module__"), key := Value.str (Str.ofString "__module__") 246, val := Value.str (Str.ofString "ringcrown.errors") 187 }, { hash := PyData.keyHash P (Str.ofString "__firstlineno__"), key := Value.str (Str.ofString "__firstlineno__") 250, val := Value.int 8 249 }, { hash := PyData.keyHash P (Str.ofString "__static_attributes__"), key := Value.str (Str.ofString "__static_attributes__") 251, val := Value.ref 59 }, { hash := PyData.keyHash P (Str.ofString "__doc__"), key := Value.str (Str.ofString "__doc__") 252, val := Value.none }] 2 }) ::
  (nat_lit 61, { cls := Value.type "type", data := Data.cls { name := Str.ofString "NoMail", bases := [Value.ref 24], mro := [Value.ref 61, Value.ref 24, Value.type "ValueError", Value.type "Exception", Value.type "BaseException", Value.type "object"], ns := 60, qualname := Str.ofString "NoMail" }, slots := #[some (Value.ref 52), none, some (Value.str (Str.ofString "NoMail") 239), some (Value.str (Str.ofString "NoMail") 247), some (Value.builtin "ValueError.__new__"), some (Value.bool true)] }) ::
  (nat_lit 71, { cls := Value.type "tuple", data := Data.seq #[] }) ::
  (nat_lit 73, { cls := Value.type "tuple", data := Data.seq #[Value.str (Str.ofString "self") 278, Value.str (Str.ofString "number") 279] }) ::
  (nat_lit 74, { cls := Value.type "tuple", data := Data.seq #[] }) ::
  (nat_lit 76, { cls := Value.type "code", data := Data.fields #[Value.str (Str.ofString "__init__") 275, Value.str (Str.ofString "Hand.__init__") 276, Value.str (Str.ofString "/claim/cut.py") 277, Value.int 16 0, Value.int 2 0, Value.int 0 0, Value.int 0 0, Value.int 3 0, Value.ref 71, Value.bool true, Value.int 181 0, Value.ref 72, Value.none, Value.ref 73, Value.ref 74, Value.ref 75, Value.int 280 0, Value.int 16 0, Value.str (Str.ofString "/claim/cut.py") 281] }) ::
  (nat_lit 77, { cls := Value.type "function", data := Data.func { name := Str.ofString "__init__", qualname := Str.ofString "Hand.__init__", params := stA (st2 9 0), body := FuncBody.stmts (stB (st2 9 0)), scope := stS (st2 9 0), globals := 3, closure := [], defaults := Value.none, kwdefaults := Value.none, pyModule := Value.str (Str.ofString "ringcrown.hand") 255, code := Value.ref 76 } }) ::
  (nat_lit 78, { cls := Value.type "tuple", data := Data.seq #[] }) ::
  (nat_lit 80, { cls := Value.type "tuple", data := Data.seq #[Value.str (Str.ofString "self") 286, Value.str (Str.ofString "right") 287, Value.str (Str.ofString "left") 288] }) ::
  (nat_lit 81, { cls := Value.type "tuple", data := Data.seq #[] }) ::
  (nat_lit 83, { cls := Value.type "code", data := Data.fields #[Value.str (Str.ofString "two_asks") 283, Value.str (Str.ofString "Hand.two_asks") 284, Value.str (Str.ofString "/claim/cut.py") 285, Value.int 25 0, Value.int 1 0, Value.int 0 0, Value.int 0 0, Value.int 3 0, Value.ref 78, Value.bool true, Value.int 181 0, Value.ref 79, Value.none, Value.ref 80, Value.ref 81, Value.ref 82, Value.int 289 0, Value.int 25 0, Value.str (Str.ofString "/claim/cut.py") 290] }) ::
  (nat_lit 84, { cls := Value.type "function", data := Data.func { name := Str.ofString "two_asks", qualname := Str.ofString "Hand.two_asks", params := stA (st2 9 1), body := FuncBody.stmts (stB (st2 9 1)), scope := stS (st2 9 1), globals := 3, closure := [], defaults := Value.none, kwdefaults := Value.none, pyModule := Value.str (Str.ofString "ringcrown.hand") 255, code := Value.ref 83 } }) ::
  (nat_lit 85, { cls := Value.type "tuple", data := Data.seq #[] }) ::
  (nat_lit 87, { cls := Value.type "tuple", data := Data.seq #[Value.str (Str.ofString "self") 295] }) ::
  (nat_lit 88, { cls := Value.type "tuple", data := Data.seq #[] }) ::
  (nat_lit 90, { cls := Value.type "code", data := Data.fields #[Value.str (Str.ofString "wake") 292, Value.str (Str.ofString "Hand.wake") 293, Value.str (Str.ofString "/claim/cut.py") 294, Value.int 30 0, Value.int 1 0, Value.int 0 0, Value.int 0 0, Value.int 3 0, Value.ref 85, Value.bool true, Value.int 181 0, Value.ref 86, Value.none, Value.ref 87, Value.ref 88, Value.ref 89, Value.int 296 0, Value.int 30 0, Value.str (Str.ofString "/claim/cut.py") 297] }) ::
  (nat_lit 91, { cls := Value.type "function", data := Data.func { name := Str.ofString "wake", qualname := Str.ofString "Hand.wake", params := stA (st2 9 2), body := FuncBody.stmts (stB (st2 9 2)), scope := stS (st2 9 2), globals := 3, closure := [], defaults := Value.none, kwdefaults := Value.none, pyModule := Value.str (Str.ofString "ringcrown.hand") 255, code := Value.ref 90 } }) ::
  (nat_lit 92, { cls := Value.type "tuple", data := Data.seq #[] }) ::
  (nat_lit 94, { cls := Value.type "tuple", data := Data.seq #[Value.str (Str.ofString "self") 302, Value.str (Str.ofString "letter") 303, Value.str (Str.ofString "first") 304] }) ::
  (nat_lit 95, { cls := Value.type "tuple", data := Data.seq #[] }) ::
  (nat_lit 97, { cls := Value.type "code", data := Data.fields #[Value.str (Str.ofString "take") 299, Value.str (Str.ofString "Hand.take") 300, Value.str (Str.ofString "/claim/cut.py") 301, Value.int 36 0, Value.int 2 0, Value.int 0 0, Value.int 0 0, Value.int 3 0, Value.ref 92, Value.bool true, Value.int 181 0, Value.ref 93, Value.none, Value.ref 94, Value.ref 95, Value.ref 96, Value.int 305 0, Value.int 36 0, Value.str (Str.ofString "/claim/cut.py") 306] }) ::
  (nat_lit 98, { cls := Value.type "function", data := Data.func { name := Str.ofString "take", qualname := Str.ofString "Hand.take", params := stA (st2 9 3), body := FuncBody.stmts (stB (st2 9 3)), scope := stS (st2 9 3), globals := 3, closure := [], defaults := Value.none, kwdefaults := Value.none, pyModule := Value.str (Str.ofString "ringcrown.hand") 255, code := Value.ref 97 } }) ::
  (nat_lit 99, { cls := Value.type "tuple", data := Data.seq #[] }) ::
  (nat_lit 101, { cls := Value.type "tuple", data := Data.seq #[Value.str (Str.ofString "self") 311, Value.str (Str.ofString "letter") 312, Value.str (Str.ofString "way") 313, Value.str (Str.ofString "number") 314] }) ::
  (nat_lit 102, { cls := Value.type "tuple", data := Data.seq #[] }) ::
  (nat_lit 104, { cls := Value.type "code", data := Data.fields #[Value.str (Str.ofString "ask_came") 308, Value.str (Str.ofString "Hand.ask_came") 309, Value.str (Str.ofString "/claim/cut.py") 310, Value.int 44 0, Value.int 2 0, Value.int 0 0, Value.int 0 0, Value.int 3 0, Value.ref 99, Value.bool true, Value.int 181 0, Value.ref 100, Value.none, Value.ref 101, Value.ref 102, Value.ref 103, Value.int 315 0, Value.int 44 0, Value.str (Str.ofString "/claim/cut.py") 316] }) ::
  (nat_lit 105, { cls := Value.type "function", data := Data.func { name := Str.ofString "ask_came", qualname := Str.ofString "Hand.ask_came", params := stA (st2 9 4), body := FuncBody.stmts (stB (st2 9 4)), scope := stS (st2 9 4), globals := 3, closure := [], defaults := Value.none, kwdefaults := Value.none, pyModule := Value.str (Str.ofString "ringcrown.hand") 255, code := Value.ref 104 } }) ::
  (nat_lit 106, { cls := Value.type "tuple", data := Data.seq #[] }) ::
  (nat_lit 108, { cls := Value.type "tuple", data := Data.seq #[Value.str (Str.ofString "self") 321, Value.str (Str.ofString "letter") 322] }) ::
  (nat_lit 109, { cls := Value.type "tuple", data := Data.seq #[] }) ::
  (nat_lit 111, { cls := Value.type "code", data := Data.fields #[Value.str (Str.ofString "answer_came") 318, Value.str (Str.ofString "Hand.answer_came") 319, Value.str (Str.ofString "/claim/cut.py") 320, Value.int 60 0, Value.int 2 0, Value.int 0 0, Value.int 0 0, Value.int 3 0, Value.ref 106, Value.bool true, Value.int 181 0, Value.ref 107, Value.none, Value.ref 108, Value.ref 109, Value.ref 110, Value.int 323 0, Value.int 60 0, Value.str (Str.ofString "/claim/cut.py") 324] }) ::
  (nat_lit 112, { cls := Value.type "function", data := Data.func { name := Str.ofString "answer_came", qualname := Str.ofString "Hand.answer_came", params := stA (st2 9 5), body := FuncBody.stmts (stB (st2 9 5)), scope := stS (st2 9 5), globals := 3, closure := [], defaults := Value.none, kwdefaults := Value.none, pyModule := Value.str (Str.ofString "ringcrown.hand") 255, code := Value.ref 111 } }) ::
  (nat_lit 113, { cls := Value.type "tuple", data := Data.seq #[] }) ::
  (nat_lit 115, { cls := Value.type "tuple", data := Data.seq #[Value.str (Str.ofString "self") 329, Value.str (Str.ofString "letter") 330] }) ::
  (nat_lit 116, { cls := Value.type "tuple", data := Data.seq #[] }) ::
  (nat_lit 118, { cls := Value.type "code", data := Data.fields #[Value.str (Str.ofString "crown_came") 326, Value.str (Str.ofString "Hand.crown_came") 327, Value.str (Str.ofString "/claim/cut.py") 328, Value.int 73 0, Value.int 2 0, Value.int 0 0, Value.int 0 0, Value.int 3 0, Value.ref 113, Value.bool true, Value.int 181 0, Value.ref 114, Value.none, Value.ref 115, Value.ref 116, Value.ref 117, Value.int 331 0, Value.int 73 0, Value.str (Str.ofString "/claim/cut.py") 332] }) ::
  (nat_lit 119, { cls := Value.type "function", data := Data.func { name := Str.ofString "crown_came", qualname := Str.ofString "Hand.crown_came", params := stA (st2 9 6), body := FuncBody.stmts (stB (st2 9 6)), scope := stS (st2 9 6), globals := 3, closure := [], defaults := Value.none, kwdefaults := Value.none, pyModule := Value.str (Str.ofString "ringcrown.hand") 255, code := Value.ref 118 } }) ::
  (nat_lit 120, { cls := Value.type "tuple", data := Data.seq #[] }) ::
  (nat_lit 122, { cls := Value.type "tuple", data := Data.seq #[Value.str (Str.ofString "self") 337] }) ::
  (nat_lit 123, { cls := Value.type "tuple", data := Data.seq #[] }) ::
  (nat_lit 125, { cls := Value.type "code", data := Data.fields #[Value.str (Str.ofString "is_awake") 334, Value.str (Str.ofString "Hand.is_awake") 335, Value.str (Str.ofString "/claim/cut.py") 336, Value.int 79 0, Value.int 1 0, Value.int 0 0, Value.int 0 0, Value.int 3 0, Value.ref 120, Value.bool true, Value.int 181 0, Value.ref 121, Value.none, Value.ref 122, Value.ref 123, Value.ref 124, Value.int 338 0, Value.int 79 0, Value.str (Str.ofString "/claim/cut.py") 339] }) ::
  (nat_lit 126, { cls := Value.type "function", data := Data.func { name := Str.ofString "is_awake", qualname := Str.ofString "Hand.is_awake", params := stA (st2 9 7), body := FuncBody.stmts (stB (st2 9 7)), scope := stS (st2 9 7), globals := 3, closure := [], defaults := Value.none, kwdefaults := Value.none, pyModule := Value.str (Str.ofString "ringcrown.hand") 255, code := Value.ref 125 } }) ::
  (nat_lit 127, { cls := Value.type "tuple", data := Data.seq #[] }) ::
  (nat_lit 129, { cls := Value.type "tuple", data := Data.seq #[Value.str (Str.ofString "self") 344] }) ::
  (nat_lit 130, { cls := Value.type "tuple", data := Data.seq #[] }) ::
  (nat_lit 132, { cls := Value.type "code", data := Data.fields #[Value.str (Str.ofString "is_first") 341, Value.str (Str.ofString "Hand.is_first") 342, Value.str (Str.ofString "/claim/cut.py") 343, Value.int 82 0, Value.int 1 0, Value.int 0 0, Value.int 0 0, Value.int 3 0, Value.ref 127, Value.bool true, Value.int 181 0, Value.ref 128, Value.none, Value.ref 129, Value.ref 130, Value.ref 131, Value.int 345 0, Value.int 82 0, Value.str (Str.ofString "/claim/cut.py") 346] }) ::
  (nat_lit 133, { cls := Value.type "function", data := Data.func { name := Str.ofString "is_first", qualname := Str.ofString "Hand.is_first", params := stA (st2 9 8), body := FuncBody.stmts (stB (st2 9 8)), scope := stS (st2 9 8), globals := 3, closure := [], defaults := Value.none, kwdefaults := Value.none, pyModule := Value.str (Str.ofString "ringcrown.hand") 255, code := Value.ref 132 } }) ::
  (nat_lit 134, { cls := Value.type "tuple", data := Data.seq #[] }) ::
  (nat_lit 136, { cls := Value.type "tuple", data := Data.seq #[Value.str (Str.ofString "self") 351] }) ::
  (nat_lit 137, { cls := Value.type "tuple", data := Data.seq #[] }) ::
  (nat_lit 139, { cls := Value.type "code", data := Data.fields #[Value.str (Str.ofString "stage") 348, Value.str (Str.ofString "Hand.stage") 349, Value.str (Str.ofString "/claim/cut.py") 350, Value.int 85 0, Value.int 1 0, Value.int 0 0, Value.int 0 0, Value.int 3 0, Value.ref 134, Value.bool true, Value.int 181 0, Value.ref 135, Value.none, Value.ref 136, Value.ref 137, Value.ref 138, Value.int 352 0, Value.int 85 0, Value.str (Str.ofString "/claim/cut.py") 353] }) ::
  (nat_lit 140, { cls := Value.type "function", data := Data.func { name := Str.ofString "stage", qualname := Str.ofString "Hand.stage", params := stA (st2 9 9), body := FuncBody.stmts (stB (st2 9 9)), scope := stS (st2 9 9), globals := 3, closure := [], defaults := Value.none, kwdefaults := Value.none, pyModule := Value.str (Str.ofString "ringcrown.hand") 255, code := Value.ref 139 } }) ::
  (nat_lit 141, { cls := Value.type "tuple", data := Data.seq #[] }) ::
  (nat_lit 143, { cls := Value.type "tuple", data := Data.seq #[Value.str (Str.ofString "self") 358] }) ::
  (nat_lit 144, { cls := Value.type "tuple", data := Data.seq #[] }) ::
  (nat_lit 146, { cls := Value.type "code", data := Data.fields #[Value.str (Str.ofString "knows") 355, Value.str (Str.ofString "Hand.knows") 356, Value.str (Str.ofString "/claim/cut.py") 357, Value.int 88 0, Value.int 1 0, Value.int 0 0, Value.int 0 0, Value.int 3 0, Value.ref 141, Value.bool true, Value.int 181 0, Value.ref 142, Value.none, Value.ref 143, Value.ref 144, Value.ref 145, Value.int 359 0, Value.int 88 0, Value.str (Str.ofString "/claim/cut.py") 360] }) ::
  (nat_lit 147, { cls := Value.type "function", data := Data.func { name := Str.ofString "knows", qualname := Str.ofString "Hand.knows", params := stA (st2 9 10), body := FuncBody.stmts (stB (st2 9 10)), scope := stS (st2 9 10), globals := 3, closure := [], defaults := Value.none, kwdefaults := Value.none, pyModule := Value.str (Str.ofString "ringcrown.hand") 255, code := Value.ref 146 } }) ::
  (nat_lit 148, { cls := Value.type "tuple", data := Data.seq #[Value.str (Str.ofString "at_stage") 362, Value.str (Str.ofString "far") 363, Value.str (Str.ofString "greatest") 364, Value.str (Str.ofString "had") 365, Value.str (Str.ofString "lost") 366, Value.str (Str.ofString "number") 367, Value.str (Str.ofString "won") 368] }) ::
  (nat_lit 149, { cls := Value.type "dict", data := Data.dict #[{ hash := PyData.keyHash P (Str.ofString "__module__"), key := Value.str (Str.ofString "__module__") 270, val := Value.str (Str.ofString "ringcrown.hand") 255 }, { hash := PyData.keyHash P (Str.ofString "__firstlineno__"), key := Value.str (Str.ofString "__firstlineno__") 274, val := Value.int 14 273 }, { hash := PyData.keyHash P (Str.ofString "__init__"), key := Value.str (Str.ofString "__init__") 282, val := Value.ref 77 }, { hash := PyData.keyHash P (Str.ofString "two_asks"), key := Value.str (Str.ofString "two_asks") 291, val := Value.ref 84 }, { hash := PyData.keyHash P (Str.ofString "wake"), key := Value.str (Str.ofString "wake") 298, val := Value.ref 91 }, { hash := PyData.keyHash P (Str.ofString "take"), key := Value.str (Str.ofString "take") 307, val := Value.ref 98 }, { hash := PyData.keyHash P (Str.ofString "ask_came"), key := Value.str (Str.ofString "ask_came") 317, val := Value.ref 105 }, { hash := PyData.keyHash P (Str.ofString "answer_came"), key := Value.str (Str.ofString "answer_came") 325, val := Value.ref 112 }, { hash := PyData.keyHash P (Str.ofString "crown_came"), key := Value.str (Str.ofString "crown_came") 333, val := Value.ref 119 }, { hash := PyData.keyHash P (Str.ofString "is_awake"), key := Value.str (Str.ofString "is_awake") 340, val := Value.ref 126 }, { hash := PyData.keyHash P (Str.ofString "is_first"), key := Value.str (Str.ofString "is_first") 347, val := Value.ref 133 }, { hash := PyData.keyHash P (Str.ofString "stage"), key := Value.str (Str.ofString "stage") 354, val := Value.ref 140 }, { hash := PyData.keyHash P (Str.ofString "knows"), key := Value.str (Str.ofString "knows") 361, val := Value.ref 147 }, { hash := PyData.keyHash P (Str.ofString "__static_attributes__"), key := Value.str (Str.ofString "__static_attributes__") 369, val := Value.ref 148 }, { hash := PyData.keyHash P (Str.ofString "__dict__"), key := Value.str (Str.ofString "__dict__") 371, val := Value.ref 151 }, { hash := PyData.keyHash P (Str.ofString "__weakref__"), key := Value.str (Str.ofString "__weakref__") 373, val := Value.ref 152 }, { hash := PyData.keyHash P (Str.ofString "__doc__"), key := Value.str (Str.ofString "__doc__") 374, val := Value.none }] 4 }) ::
  (nat_lit 150, { cls := Value.type "type", data := Data.cls { name := Str.ofString "Hand", bases := [Value.type "object"], mro := [Value.ref 150, Value.type "object"], ns := 149, qualname := Str.ofString "Hand" }, slots := #[none, none, some (Value.str (Str.ofString "Hand") 263), some (Value.str (Str.ofString "Hand") 271), some (Value.builtin "object.__new__"), some (Value.bool true)] }) ::
  (nat_lit 151, { cls := Value.type "getset_descriptor", data := Data.fields #[Value.str (Str.ofString "__dict__") 370, Value.ref 150, Value.builtin "function.__dict__", Value.builtin "function.__dict__#set"] }) ::
  (nat_lit 152, { cls := Value.type "getset_descriptor", data := Data.fields #[Value.str (Str.ofString "__weakref__") 372, Value.ref 150, Value.builtin "ExceptionGroup.__weakref__", Value.none] }) ::
  (nat_lit 155, { cls := Value.type "tuple", data := Data.seq #[] }) ::
  (nat_lit 157, { cls := Value.type "tuple", data := Data.seq #[Value.str (Str.ofString "thing") 384] }) ::
  (nat_lit 158, { cls := Value.type "tuple", data := Data.seq #[] }) ::
  (nat_lit 160, { cls := Value.type "code", data := Data.fields #[Value.str (Str.ofString "is_number") 381, Value.str (Str.ofString "is_number") 382, Value.str (Str.ofString "/claim/cut.py") 383, Value.int 92 0, Value.int 1 0, Value.int 0 0, Value.int 0 0, Value.int 3 0, Value.ref 155, Value.bool true, Value.int 181 0, Value.ref 156, Value.none, Value.ref 157, Value.ref 158, Value.ref 159, Value.int 385 0, Value.int 92 0, Value.str (Str.ofString "/claim/cut.py") 386] }) ::
  (nat_lit 161, { cls := Value.type "function", data := Data.func { name := Str.ofString "is_number", qualname := Str.ofString "is_number", params := stA (st 12), body := FuncBody.stmts (stB (st 12)), scope := stS (st 12), globals := 3, closure := [], defaults := Value.none, kwdefaults := Value.none, pyModule := Value.str (Str.ofString "ringcrown.ring") 377, code := Value.ref 160 } }) ::
  (nat_lit 162, { cls := Value.type "tuple", data := Data.seq #[] }) ::
  (nat_lit 164, { cls := Value.type "tuple", data := Data.seq #[Value.str (Str.ofString "things") 391, Value.str (Str.ofString "thing") 392] }) ::
  (nat_lit 165, { cls := Value.type "tuple", data := Data.seq #[] }) ::
  (nat_lit 167, { cls := Value.type "code", data := Data.fields #[Value.str (Str.ofString "are_numbers") 388, Value.str (Str.ofString "are_numbers") 389, Value.str (Str.ofString "/claim/cut.py") 390, Value.int 94 0, Value.int 1 0, Value.int 0 0, Value.int 0 0, Value.int 3 0, Value.ref 162, Value.bool true, Value.int 181 0, Value.ref 163, Value.none, Value.ref 164, Value.ref 165, Value.ref 166, Value.int 393 0, Value.int 94 0, Value.str (Str.ofString "/claim/cut.py") 394] }) ::
  (nat_lit 168, { cls := Value.type "function", data := Data.func { name := Str.ofString "are_numbers", qualname := Str.ofString "are_numbers", params := stA (st 13), body := FuncBody.stmts (stB (st 13)), scope := stS (st 13), globals := 3, closure := [], defaults := Value.none, kwdefaults := Value.none, pyModule := Value.str (Str.ofString "ringcrown.ring") 377, code := Value.ref 167 } }) ::
  (nat_lit 176, { cls := Value.type "tuple", data := Data.seq #[] }) ::
  (nat_lit 179, { cls := Value.type "code", data := Data.fields #[Value.str (Str.ofString "__init__") 408, Value.str (Str.ofString "Ring.__init__") 409, Value.str (Str.ofString "/claim/cut.py") 410, Value.int 103 0, Value.int 2 0, Value.int 0 0, Value.int 0 0, Value.int 3 0, Value.ref 176, Value.bool true, Value.int 181 0, Value.ref 177, Value.none, Value.none, Value.none, Value.ref 178, Value.int 411 0, Value.int 103 0, Value.str (Str.ofString "/claim/cut.py") 412] }) ::
  (nat_lit 180, { cls := Value.type "function", data := Data.func { name := Str.ofString "__init__", qualname := Str.ofString "Ring.__init__", params := stA (st2 14 0), body := FuncBody.stmts (stB (st2 14 0)), scope := stS (st2 14 0), globals := 3, closure := [], defaults := Value.none, kwdefaults := Value.none, pyModule := Value.str (Str.ofString "ringcrown.ring") 377, code := Value.ref 179 } }) ::
  (nat_lit 181, { cls := Value.type "tuple", data := Data.seq #[] }) ::
  (nat_lit 183, { cls := Value.type "tuple", data := Data.seq #[Value.str (Str.ofString "self") 417, Value.str (Str.ofString "place") 418] }) ::
  (nat_lit 184, { cls := Value.type "tuple", data := Data.seq #[] }) ::
  (nat_lit 186, { cls := Value.type "code", data := Data.fields #[Value.str (Str.ofString "hand_at") 414, Value.str (Str.ofString "Ring.hand_at") 415, Value.str (Str.ofString "/claim/cut.py") 416, Value.int 110 0, Value.int 2 0, Value.int 0 0, Value.int 0 0, Value.int 3 0, Value.ref 181, Value.bool true, Value.int 181 0, Value.ref 182, Value.none, Value.ref 183, Value.ref 184, Value.ref 185, Value.int 419 0, Value.int 110 0, Value.str (Str.ofString "/claim/cut.py") 420] }) ::
  (nat_lit 187, { cls := Value.type "function", data := Data.func { name := Str.ofString "hand_at", qualname := Str.ofString "Ring.hand_at", params := stA (st2 14 1), body := FuncBody.stmts (stB (st2 14 1)), scope := stS (st2 14 1), globals := 3, closure := [], defaults := Value.none, kwdefaults := Value.none, pyModule := Value.str (Str.ofString "ringcrown.ring") 377, code := Value.ref 186 } }) ::
  (nat_lit 188, { cls := Value.type "tuple", data := Data.seq #[] }) ::
  (nat_lit 190, { cls := Value.type "tuple", data := Data.seq #[Value.str (Str.ofString "self") 425, Value.str (Str.ofString "place") 426, Value.str (Str.ofString "letters") 427, Value.str (Str.ofString "letter") 428] }) ::
  (nat_lit 191, { cls := Value.type "tuple", data := Data.seq #[] }) ::
  (nat_lit 193, { cls := Value.type "code", data := Data.fields #[Value.str (Str.ofString "posted") 422, Value.str (Str.ofString "Ring.posted") 423, Value.str (Str.ofString "/claim/cut.py") 424, Value.int 115 0, Value.int 3 0, Value.int 0 0, Value.int 0 0, Value.int 3 0, Value.ref 188, Value.bool true, Value.int 181 0, Value.ref 189, Value.none, Value.ref 190, Value.ref 191, Value.ref 192, Value.int 429 0, Value.int 115 0, Value.str (Str.ofString "/claim/cut.py") 430] }) ::
  (nat_lit 194, { cls := Value.type "function", data := Data.func { name := Str.ofString "posted", qualname := Str.ofString "Ring.posted", params := stA (st2 14 2), body := FuncBody.stmts (stB (st2 14 2)), scope := stS (st2 14 2), globals := 3, closure := [], defaults := Value.none, kwdefaults := Value.none, pyModule := Value.str (Str.ofString "ringcrown.ring") 377, code := Value.ref 193 } }) ::
  (nat_lit 195, { cls := Value.type "tuple", data := Data.seq #[] }) ::
  (nat_lit 197, { cls := Value.type "tuple", data := Data.seq #[Value.str (Str.ofString "self") 435, Value.str (Str.ofString "place") 436, Value.str (Str.ofString "hand") 437] }) ::
  (nat_lit 198, { cls := Value.type "tuple", data := Data.seq #[] }) ::
  (nat_lit 200, { cls := Value.type "code", data := Data.fields #[Value.str (Str.ofString "wake") 432, Value.str (Str.ofString "Ring.wake") 433, Value.str (Str.ofString "/claim/cut.py") 434, Value.int 120 0, Value.int 2 0, Value.int 0 0, Value.int 0 0, Value.int 3 0, Value.ref 195, Value.bool true, Value.int 181 0, Value.ref 196, Value.none, Value.ref 197, Value.ref 198, Value.ref 199, Value.int 438 0, Value.int 120 0, Value.str (Str.ofString "/claim/cut.py") 439] }) ::
  (nat_lit 201, { cls := Value.type "function", data := Data.func { name := Str.ofString "wake", qualname := Str.ofString "Ring.wake", params := stA (st2 14 3), body := FuncBody.stmts (stB (st2 14 3)), scope := stS (st2 14 3), globals := 3, closure := [], defaults := Value.none, kwdefaults := Value.none, pyModule := Value.str (Str.ofString "ringcrown.ring") 377, code := Value.ref 200 } }) ::
  (nat_lit 202, { cls := Value.type "tuple", data := Data.seq #[] }) ::
  (nat_lit 204, { cls := Value.type "tuple", data := Data.seq #[Value.str (Str.ofString "self") 444] }) ::
  (nat_lit 205, { cls := Value.type "tuple", data := Data.seq #[] }) ::
  (nat_lit 207, { cls := Value.type "code", data := Data.fields #[Value.str (Str.ofString "mails") 441, Value.str (Str.ofString "Ring.mails") 442, Value.str (Str.ofString "/claim/cut.py") 443, Value.int 127 0, Value.int 1 0, Value.int 0 0, Value.int 0 0, Value.int 3 0, Value.ref 202, Value.bool true, Value.int 181 0, Value.ref 203, Value.none, Value.ref 204, Value.ref 205, Value.ref 206, Value.int 445 0, Value.int 127 0, Value.str (Str.ofString "/claim/cut.py") 446] }) ::
  (nat_lit 208, { cls := Value.type "function", data := Data.func { name := Str.ofString "mails", qualname := Str.ofString "Ring.mails", params := stA (st2 14 4), body := FuncBody.stmts (stB (st2 14 4)), scope := stS (st2 14 4), globals := 3, closure := [], defaults := Value.none, kwdefaults := Value.none, pyModule := Value.str (Str.ofString "ringcrown.ring") 377, code := Value.ref 207 } }) ::
  (nat_lit 209, { cls := Value.type "tuple", data := Data.seq #[] }) ::
  (nat_lit 211, { cls := Value.type "tuple", data := Data.seq #[Value.str (Str.ofString "self") 451, Value.str (Str.ofString "place") 452, Value.str (Str.ofString "mail") 453] }) ::
  (nat_lit 212, { cls := Value.type "tuple", data := Data.seq #[] }) ::
  (nat_lit 214, { cls := Value.type "code", data := Data.fields #[Value.str (Str.ofString "bring") 448, Value.str (Str.ofString "Ring.bring") 449, Value.str (Str.ofString "/claim/cut.py") 450, Value.int 130 0, Value.int 2 0, Value.int 0 0, Value.int 0 0, Value.int 3 0, Value.ref 209, Value.bool true, Value.int 181 0, Value.ref 210, Value.none, Value.ref 211, Value.ref 212, Value.ref 213, Value.int 454 0, Value.int 130 0, Value.str (Str.ofString "/claim/cut.py") 455] }) ::
  (nat_lit 215, { cls := Value.type "function", data := Data.func { name := Str.ofString "bring", qualname := Str.ofString "Ring.bring", params := stA (st2 14 5), body := FuncBody.stmts (stB (st2 14 5)), scope := stS (st2 14 5), globals := 3, closure := [], defaults := Value.none, kwdefaults := Value.none, pyModule := Value.str (Str.ofString "ringcrown.ring") 377, code := Value.ref 214 } }) ::
  (nat_lit 216, { cls := Value.type "tuple", data := Data.seq #[] }) ::
  (nat_lit 218, { cls := Value.type "tuple", data := Data.seq #[Value.str (Str.ofString "self") 460, Value.str (Str.ofString "came") 461] }) ::
  (nat_lit 219, { cls := Value.type "tuple", data := Data.seq #[] }) ::
  (nat_lit 221, { cls := Value.type "code", data := Data.fields #[Value.str (Str.ofString "rest") 457, Value.str (Str.ofString "Ring.rest") 458, Value.str (Str.ofString "/claim/cut.py") 459, Value.int 137 0, Value.int 1 0, Value.int 0 0, Value.int 0 0, Value.int 3 0, Value.ref 216, Value.bool true, Value.int 181 0, Value.ref 217, Value.none, Value.ref 218, Value.ref 219, Value.ref 220, Value.int 462 0, Value.int 137 0, Value.str (Str.ofString "/claim/cut.py") 463] }) ::
  (nat_lit 222, { cls := Value.type "function", data := Data.func { name := Str.ofString "rest", qualname := Str.ofString "Ring.rest", params := stA (st2 14 6), body := FuncBody.stmts (stB (st2 14 6)), scope := stS (st2 14 6), globals := 3, closure := [], defaults := Value.none, kwdefaults := Value.none, pyModule := Value.str (Str.ofString "ringcrown.ring") 377, code := Value.ref 221 } }) ::
  (nat_lit 223, { cls := Value.type "tuple", data := Data.seq #[] }) ::
  (nat_lit 225, { cls := Value.type "tuple", data := Data.seq #[Value.str (Str.ofString "self") 468] }) ::
  (nat_lit 226, { cls := Value.type "tuple", data := Data.seq #[] }) ::
  (nat_lit 228, { cls := Value.type "code", data := Data.fields #[Value.str (Str.ofString "sent") 465, Value.str (Str.ofString "Ring.sent") 466, Value.str (Str.ofString "/claim/cut.py") 467, Value.int 144 0, Value.int 1 0, Value.int 0 0, Value.int 0 0, Value.int 3 0, Value.ref 223, Value.bool true, Value.int 181 0, Value.ref 224, Value.none, Value.ref 225, Value.ref 226, Value.ref 227, Value.int 469 0, Value.int 144 0, Value.str (Str.ofString "/claim/cut.py") 470] }) ::
  (nat_lit 229, { cls := Value.type "function", data := Data.func { name := Str.ofString "sent", qualname := Str.ofString "Ring.sent", params := stA (st2 14 7), body := FuncBody.stmts (stB (st2 14 7)), scope := stS (st2 14 7), globals := 3, closure := [], defaults := Value.none, kwdefaults := Value.none, pyModule := Value.str (Str.ofString "ringcrown.ring") 377, code := Value.ref 228 } }) ::
  (nat_lit 230, { cls := Value.type "tuple", data := Data.seq #[] }) ::
  (nat_lit 232, { cls := Value.type "tuple", data := Data.seq #[Value.str (Str.ofString "self") 475, Value.str (Str.ofString "place") 476] }) ::
  (nat_lit 233, { cls := Value.type "tuple", data := Data.seq #[] }) ::
  (nat_lit 235, { cls := Value.type "code", data := Data.fields #[Value.str (Str.ofString "is_awake") 472, Value.str (Str.ofString "Ring.is_awake") 473, Value.str (Str.ofString "/claim/cut.py") 474, Value.int 147 0, Value.int 2 0, Value.int 0 0, Value.int 0 0, Value.int 3 0, Value.ref 230, Value.bool true, Value.int 181 0, Value.ref 231, Value.none, Value.ref 232, Value.ref 233, Value.ref 234, Value.int 477 0, Value.int 147 0, Value.str (Str.ofString "/claim/cut.py") 478] }) ::
  (nat_lit 236, { cls := Value.type "function", data := Data.func { name := Str.ofString "is_awake", qualname := Str.ofString "Ring.is_awake", params := stA (st2 14 8), body := FuncBody.stmts (stB (st2 14 8)), scope := stS (st2 14 8), globals := 3, closure := [], defaults := Value.none, kwdefaults := Value.none, pyModule := Value.str (Str.ofString "ringcrown.ring") 377, code := Value.ref 235 } }) ::
  (nat_lit 237, { cls := Value.type "tuple", data := Data.seq #[] }) ::
  (nat_lit 239, { cls := Value.type "tuple", data := Data.seq #[Value.str (Str.ofString "self") 483, Value.str (Str.ofString "place") 484] }) ::
  (nat_lit 240, { cls := Value.type "tuple", data := Data.seq #[] }) ::
  (nat_lit 242, { cls := Value.type "code", data := Data.fields #[Value.str (Str.ofString "is_first") 480, Value.str (Str.ofString "Ring.is_first") 481, Value.str (Str.ofString "/claim/cut.py") 482, Value.int 150 0, Value.int 2 0, Value.int 0 0, Value.int 0 0, Value.int 3 0, Value.ref 237, Value.bool true, Value.int 181 0, Value.ref 238, Value.none, Value.ref 239, Value.ref 240, Value.ref 241, Value.int 485 0, Value.int 150 0, Value.str (Str.ofString "/claim/cut.py") 486] }) ::
  (nat_lit 243, { cls := Value.type "function", data := Data.func { name := Str.ofString "is_first", qualname := Str.ofString "Ring.is_first", params := stA (st2 14 9), body := FuncBody.stmts (stB (st2 14 9)), scope := stS (st2 14 9), globals := 3, closure := [], defaults := Value.none, kwdefaults := Value.none, pyModule := Value.str (Str.ofString "ringcrown.ring") 377, code := Value.ref 242 } }) ::
  (nat_lit 244, { cls := Value.type "tuple", data := Data.seq #[] }) ::
  (nat_lit 246, { cls := Value.type "tuple", data := Data.seq #[Value.str (Str.ofString "self") 491, Value.str (Str.ofString "place") 492] }) ::
  (nat_lit 247, { cls := Value.type "tuple", data := Data.seq #[] }) ::
  (nat_lit 249, { cls := Value.type "code", data := Data.fields #[Value.str (Str.ofString "stage") 488, Value.str (Str.ofString "Ring.stage") 489, Value.str (Str.ofString "/claim/cut.py") 490, Value.int 153 0, Value.int 2 0, Value.int 0 0, Value.int 0 0, Value.int 3 0, Value.ref 244, Value.bool true, Value.int 181 0, Value.ref 245, Value.none, Value.ref 246, Value.ref 247, Value.ref 248, Value.int 493 0, Value.int 153 0, Value.str (Str.ofString "/claim/cut.py") 494] }) ::
  (nat_lit 250, { cls := Value.type "function", data := Data.func { name := Str.ofString "stage", qualname := Str.ofString "Ring.stage", params := stA (st2 14 10), body := FuncBody.stmts (stB (st2 14 10)), scope := stS (st2 14 10), globals := 3, closure := [], defaults := Value.none, kwdefaults := Value.none, pyModule := Value.str (Str.ofString "ringcrown.ring") 377, code := Value.ref 249 } }) ::
  (nat_lit 251, { cls := Value.type "tuple", data := Data.seq #[] }) ::
  (nat_lit 253, { cls := Value.type "tuple", data := Data.seq #[Value.str (Str.ofString "self") 499, Value.str (Str.ofString "place") 500] }) ::
  (nat_lit 254, { cls := Value.type "tuple", data := Data.seq #[] }) ::
  (nat_lit 256, { cls := Value.type "code", data := Data.fields #[Value.str (Str.ofString "knows") 496, Value.str (Str.ofString "Ring.knows") 497, Value.str (Str.ofString "/claim/cut.py") 498, Value.int 156 0, Value.int 2 0, Value.int 0 0, Value.int 0 0, Value.int 3 0, Value.ref 251, Value.bool true, Value.int 181 0, Value.ref 252, Value.none, Value.ref 253, Value.ref 254, Value.ref 255, Value.int 501 0, Value.int 156 0, Value.str (Str.ofString "/claim/cut.py") 502] }) ::
  (nat_lit 257, { cls := Value.type "function", data := Data.func { name := Str.ofString "knows", qualname := Str.ofString "Ring.knows", params := stA (st2 14 11), body := FuncBody.stmts (stB (st2 14 11)), scope := stS (st2 14 11), globals := 3, closure := [], defaults := Value.none, kwdefaults := Value.none, pyModule := Value.str (Str.ofString "ringcrown.ring") 377, code := Value.ref 256 } }) ::
  (nat_lit 258, { cls := Value.type "tuple", data := Data.seq #[Value.str (Str.ofString "hands") 504, Value.str (Str.ofString "many") 505, Value.str (Str.ofString "road") 506] }) ::
  (nat_lit 259, { cls := Value.type "dict", data := Data.dict #[{ hash := PyData.keyHash P (Str.ofString "__module__"), key := Value.str (Str.ofString "__module__") 403, val := Value.str (Str.ofString "ringcrown.ring") 377 }, { hash := PyData.keyHash P (Str.ofString "__firstlineno__"), key := Value.str (Str.ofString "__firstlineno__") 407, val := Value.int 101 406 }, { hash := PyData.keyHash P (Str.ofString "__init__"), key := Value.str (Str.ofString "__init__") 413, val := Value.ref 180 }, { hash := PyData.keyHash P (Str.ofString "hand_at"), key := Value.str (Str.ofString "hand_at") 421, val := Value.ref 187 }, { hash := PyData.keyHash P (Str.ofString "posted"), key := Value.str (Str.ofString "posted") 431, val := Value.ref 194 }, { hash := PyData.keyHash P (Str.ofString "wake"), key := Value.str (Str.ofString "wake") 440, val := Value.ref 201 }, { hash := PyData.keyHash P (Str.ofString "mails"), key := Value.str (Str.ofString "mails") 447, val := Value.ref 208 }, { hash := PyData.keyHash P (Str.ofString "bring"), key := Value.str (Str.ofString "bring") 456, val := Value.ref 215 }, { hash := PyData.keyHash P (Str.ofString "rest"), key := Value.str (Str.ofString "rest") 464, val := Value.ref 222 }, { hash := PyData.keyHash P (Str.ofString "sent"), key := Value.str (Str.ofString "sent") 471, val := Value.ref 229 }, { hash := PyData.keyHash P (Str.ofString "is_awake"), key := Value.str (Str.ofString "is_awake") 479, val := Value.ref 236 }, { hash := PyData.keyHash P (Str.ofString "is_first"), key := Value.str (Str.ofString "is_first") 487, val := Value.ref 243 }, { hash := PyData.keyHash P (Str.ofString "stage"), key := Value.str (Str.ofString "stage") 495, val := Value.ref 250 }, { hash := PyData.keyHash P (Str.ofString "knows"), key := Value.str (Str.ofString "knows") 503, val := Value.ref 257 }, { hash := PyData.keyHash P (Str.ofString "__static_attributes__"), key := Value.str (Str.ofString "__static_attributes__") 507, val := Value.ref 258 }, { hash := PyData.keyHash P (Str.ofString "__dict__"), key := Value.str (Str.ofString "__dict__") 509, val := Value.ref 261 }, { hash := PyData.keyHash P (Str.ofString "__weakref__"), key := Value.str (Str.ofString "__weakref__") 511, val := Value.ref 262 }, { hash := PyData.keyHash P (Str.ofString "__doc__"), key := Value.str (Str.ofString "__doc__") 512, val := Value.none }] 4 }) ::
  (nat_lit 260, { cls := Value.type "type", data := Data.cls { name := Str.ofString "Ring", bases := [Value.type "object"], mro := [Value.ref 260, Value.type "object"], ns := 259, qualname := Str.ofString "Ring" }, slots := #[none, none, some (Value.str (Str.ofString "Ring") 396), some (Value.str (Str.ofString "Ring") 404), some (Value.builtin "object.__new__"), some (Value.bool true)] }) ::
  (nat_lit 261, { cls := Value.type "getset_descriptor", data := Data.fields #[Value.str (Str.ofString "__dict__") 508, Value.ref 260, Value.builtin "function.__dict__", Value.builtin "function.__dict__#set"] }) ::
  (nat_lit 262, { cls := Value.type "getset_descriptor", data := Data.fields #[Value.str (Str.ofString "__weakref__") 510, Value.ref 260, Value.builtin "ExceptionGroup.__weakref__", Value.none] }) ::
  (nat_lit 265, { cls := Value.type "tuple", data := Data.seq #[] }) ::
  (nat_lit 267, { cls := Value.type "tuple", data := Data.seq #[Value.str (Str.ofString "_law_script") 520, Value.str (Str.ofString "_law_k") 521] }) ::
  (nat_lit 268, { cls := Value.type "tuple", data := Data.seq #[] }) ::
  (nat_lit 270, { cls := Value.type "code", data := Data.fields #[Value.str (Str.ofString "_law_cell_at") 517, Value.str (Str.ofString "_law_cell_at") 518, Value.str (Str.ofString "/claim/cut.py") 519, Value.int 159 0, Value.int 2 0, Value.int 0 0, Value.int 0 0, Value.int 3 0, Value.ref 265, Value.bool true, Value.int 181 0, Value.ref 266, Value.none, Value.ref 267, Value.ref 268, Value.ref 269, Value.int 522 0, Value.int 159 0, Value.str (Str.ofString "/claim/cut.py") 523] }) ::
  (nat_lit 271, { cls := Value.type "function", data := Data.func { name := Str.ofString "_law_cell_at", qualname := Str.ofString "_law_cell_at", params := stA (st 16), body := FuncBody.stmts (stB (st 16)), scope := stS (st 16), globals := 3, closure := [], defaults := Value.none, kwdefaults := Value.none, pyModule := Value.str (Str.ofString "law_uf060019_05") 515, code := Value.ref 270 } }) ::
  (nat_lit 272, { cls := Value.type "tuple", data := Data.seq #[] }) ::
  (nat_lit 274, { cls := Value.type "tuple", data := Data.seq #[Value.str (Str.ofString "_law_found") 528] }) ::
  (nat_lit 275, { cls := Value.type "tuple", data := Data.seq #[] }) ::
  (nat_lit 277, { cls := Value.type "code", data := Data.fields #[Value.str (Str.ofString "_law_whole") 525, Value.str (Str.ofString "_law_whole") 526, Value.str (Str.ofString "/claim/cut.py") 527, Value.int 163 0, Value.int 1 0, Value.int 0 0, Value.int 0 0, Value.int 3 0, Value.ref 272, Value.bool true, Value.int 181 0, Value.ref 273, Value.none, Value.ref 274, Value.ref 275, Value.ref 276, Value.int 529 0, Value.int 163 0, Value.str (Str.ofString "/claim/cut.py") 530] }) ::
  (nat_lit 278, { cls := Value.type "function", data := Data.func { name := Str.ofString "_law_whole", qualname := Str.ofString "_law_whole", params := stA (st 17), body := FuncBody.stmts (stB (st 17)), scope := stS (st 17), globals := 3, closure := [], defaults := Value.none, kwdefaults := Value.none, pyModule := Value.str (Str.ofString "law_uf060019_05") 515, code := Value.ref 277 } }) ::
  (nat_lit 279, { cls := Value.type "tuple", data := Data.seq #[] }) ::
  (nat_lit 281, { cls := Value.type "tuple", data := Data.seq #[Value.str (Str.ofString "_law_found") 535, Value.str (Str.ofString "_law_due") 536, Value.str (Str.ofString "_law_one") 537, Value.str (Str.ofString "_law_part") 538] }) ::
  (nat_lit 282, { cls := Value.type "tuple", data := Data.seq #[] }) ::
  (nat_lit 284, { cls := Value.type "code", data := Data.fields #[Value.str (Str.ofString "_law_letters") 532, Value.str (Str.ofString "_law_letters") 533, Value.str (Str.ofString "/claim/cut.py") 534, Value.int 165 0, Value.int 2 0, Value.int 0 0, Value.int 0 0, Value.int 3 0, Value.ref 279, Value.bool true, Value.int 181 0, Value.ref 280, Value.none, Value.ref 281, Value.ref 282, Value.ref 283, Value.int 539 0, Value.int 165 0, Value.str (Str.ofString "/claim/cut.py") 540] }) ::
  (nat_lit 285, { cls := Value.type "function", data := Data.func { name := Str.ofString "_law_letters", qualname := Str.ofString "_law_letters", params := stA (st 18), body := FuncBody.stmts (stB (st 18)), scope := stS (st 18), globals := 3, closure := [], defaults := Value.none, kwdefaults := Value.none, pyModule := Value.str (Str.ofString "law_uf060019_05") 515, code := Value.ref 284 } }) ::
  (nat_lit 286, { cls := Value.type "tuple", data := Data.seq #[] }) ::
  (nat_lit 288, { cls := Value.type "tuple", data := Data.seq #[Value.str (Str.ofString "_law_found") 545, Value.str (Str.ofString "_law_due") 546] }) ::
  (nat_lit 289, { cls := Value.type "tuple", data := Data.seq #[] }) ::
  (nat_lit 291, { cls := Value.type "code", data := Data.fields #[Value.str (Str.ofString "_law_truth") 542, Value.str (Str.ofString "_law_truth") 543, Value.str (Str.ofString "/claim/cut.py") 544, Value.int 175 0, Value.int 2 0, Value.int 0 0, Value.int 0 0, Value.int 3 0, Value.ref 286, Value.bool true, Value.int 181 0, Value.ref 287, Value.none, Value.ref 288, Value.ref 289, Value.ref 290, Value.int 547 0, Value.int 175 0, Value.str (Str.ofString "/claim/cut.py") 548] }) ::
  (nat_lit 292, { cls := Value.type "function", data := Data.func { name := Str.ofString "_law_truth", qualname := Str.ofString "_law_truth", params := stA (st 19), body := FuncBody.stmts (stB (st 19)), scope := stS (st 19), globals := 3, closure := [], defaults := Value.none, kwdefaults := Value.none, pyModule := Value.str (Str.ofString "law_uf060019_05") 515, code := Value.ref 291 } }) ::
  (nat_lit 293, { cls := Value.type "tuple", data := Data.seq #[] }) ::
  (nat_lit 296, { cls := Value.type "code", data := Data.fields #[Value.str (Str.ofString "_law_numbers") 550, Value.str (Str.ofString "_law_numbers") 551, Value.str (Str.ofString "/claim/cut.py") 552, Value.int 177 0, Value.int 1 0, Value.int 0 0, Value.int 0 0, Value.int 3 0, Value.ref 293, Value.bool true, Value.int 181 0, Value.ref 294, Value.none, Value.none, Value.none, Value.ref 295, Value.int 553 0, Value.int 177 0, Value.str (Str.ofString "/claim/cut.py") 554] }) ::
  (nat_lit 297, { cls := Value.type "function", data := Data.func { name := Str.ofString "_law_numbers", qualname := Str.ofString "_law_numbers", params := stA (st 20), body := FuncBody.stmts (stB (st 20)), scope := stS (st 20), globals := 3, closure := [], defaults := Value.none, kwdefaults := Value.none, pyModule := Value.str (Str.ofString "law_uf060019_05") 515, code := Value.ref 296 } }) ::
  (nat_lit 298, { cls := Value.type "tuple", data := Data.seq #[] }) ::
  (nat_lit 300, { cls := Value.type "tuple", data := Data.seq #[Value.str (Str.ofString "_law_number") 559, Value.str (Str.ofString "_law_found") 560] }) ::
  (nat_lit 301, { cls := Value.type "tuple", data := Data.seq #[] }) ::
  (nat_lit 303, { cls := Value.type "code", data := Data.fields #[Value.str (Str.ofString "_law_start") 556, Value.str (Str.ofString "_law_start") 557, Value.str (Str.ofString "/claim/cut.py") 558, Value.int 193 0, Value.int 1 0, Value.int 0 0, Value.int 0 0, Value.int 3 0, Value.ref 298, Value.bool true, Value.int 181 0, Value.ref 299, Value.none, Value.ref 300, Value.ref 301, Value.ref 302, Value.int 561 0, Value.int 193 0, Value.str (Str.ofString "/claim/cut.py") 562] }) ::
  (nat_lit 304, { cls := Value.type "function", data := Data.func { name := Str.ofString "_law_start", qualname := Str.ofString "_law_start", params := stA (st 21), body := FuncBody.stmts (stB (st 21)), scope := stS (st 21), globals := 3, closure := [], defaults := Value.none, kwdefaults := Value.none, pyModule := Value.str (Str.ofString "law_uf060019_05") 515, code := Value.ref 303 } }) ::
  (nat_lit 305, { cls := Value.type "tuple", data := Data.seq #[] }) ::
  (nat_lit 307, { cls := Value.type "tuple", data := Data.seq #[Value.str (Str.ofString "_law_state") 567, Value.str (Str.ofString "_law_steps") 568, Value.str (Str.ofString "_law_turn") 569] }) ::
  (nat_lit 308, { cls := Value.type "tuple", data := Data.seq #[] }) ::
  (nat_lit 310, { cls := Value.type "code", data := Data.fields #[Value.str (Str.ofString "_law_asks") 564, Value.str (Str.ofString "_law_asks") 565, Value.str (Str.ofString "/claim/cut.py") 566, Value.int 199 0, Value.int 1 0, Value.int 0 0, Value.int 0 0, Value.int 3 0, Value.ref 305, Value.bool true, Value.int 181 0, Value.ref 306, Value.none, Value.ref 307, Value.ref 308, Value.ref 309, Value.int 570 0, Value.int 199 0, Value.str (Str.ofString "/claim/cut.py") 571] }) ::
  (nat_lit 311, { cls := Value.type "function", data := Data.func { name := Str.ofString "_law_asks", qualname := Str.ofString "_law_asks", params := stA (st 22), body := FuncBody.stmts (stB (st 22)), scope := stS (st 22), globals := 3, closure := [], defaults := Value.none, kwdefaults := Value.none, pyModule := Value.str (Str.ofString "law_uf060019_05") 515, code := Value.ref 310 } }) ::
  (nat_lit 312, { cls := Value.type "tuple", data := Data.seq #[] }) ::
  (nat_lit 314, { cls := Value.type "tuple", data := Data.seq #[Value.str (Str.ofString "_law_state") 576] }) ::
  (nat_lit 315, { cls := Value.type "tuple", data := Data.seq #[] }) ::
  (nat_lit 317, { cls := Value.type "code", data := Data.fields #[Value.str (Str.ofString "_law_woken") 573, Value.str (Str.ofString "_law_woken") 574, Value.str (Str.ofString "/claim/cut.py") 575, Value.int 204 0, Value.int 1 0, Value.int 0 0, Value.int 0 0, Value.int 3 0, Value.ref 312, Value.bool true, Value.int 181 0, Value.ref 313, Value.none, Value.ref 314, Value.ref 315, Value.ref 316, Value.int 577 0, Value.int 204 0, Value.str (Str.ofString "/claim/cut.py") 578] }) ::
  (nat_lit 318, { cls := Value.type "function", data := Data.func { name := Str.ofString "_law_woken", qualname := Str.ofString "_law_woken", params := stA (st 23), body := FuncBody.stmts (stB (st 23)), scope := stS (st 23), globals := 3, closure := [], defaults := Value.none, kwdefaults := Value.none, pyModule := Value.str (Str.ofString "law_uf060019_05") 515, code := Value.ref 317 } }) ::
  (nat_lit 319, { cls := Value.type "tuple", data := Data.seq #[] }) ::
  (nat_lit 321, { cls := Value.type "tuple", data := Data.seq #[Value.str (Str.ofString "_law_state") 583, Value.str (Str.ofString "_law_letter") 584, Value.str (Str.ofString "_law_found") 585, Value.str (Str.ofString "_law_way") 586, Value.str (Str.ofString "_law_word") 587, Value.str (Str.ofString "_law_number") 588, Value.str (Str.ofString "_law_stage") 589, Value.str (Str.ofString "_law_steps") 590, Value.str (Str.ofString "_law_mine") 591] }) ::
  (nat_lit 322, { cls := Value.type "tuple", data := Data.seq #[] }) ::
  (nat_lit 324, { cls := Value.type "code", data := Data.fields #[Value.str (Str.ofString "_law_taken") 580, Value.str (Str.ofString "_law_taken") 581, Value.str (Str.ofString "/claim/cut.py") 582, Value.int 209 0, Value.int 2 0, Value.int 0 0, Value.int 0 0, Value.int 3 0, Value.ref 319, Value.bool true, Value.int 181 0, Value.ref 320, Value.none, Value.ref 321, Value.ref 322, Value.ref 323, Value.int 592 0, Value.int 209 0, Value.str (Str.ofString "/claim/cut.py") 593] }) ::
  (nat_lit 325, { cls := Value.type "function", data := Data.func { name := Str.ofString "_law_taken", qualname := Str.ofString "_law_taken", params := stA (st 24), body := FuncBody.stmts (stB (st 24)), scope := stS (st 24), globals := 3, closure := [], defaults := Value.none, kwdefaults := Value.none, pyModule := Value.str (Str.ofString "law_uf060019_05") 515, code := Value.ref 324 } }) ::
  (nat_lit 326, { cls := Value.type "tuple", data := Data.seq #[] }) ::
  (nat_lit 328, { cls := Value.type "tuple", data := Data.seq #[Value.str (Str.ofString "_law_house") 598, Value.str (Str.ofString "_law_place") 599, Value.str (Str.ofString "_law_letters_here") 600, Value.str (Str.ofString "_law_letter") 601] }) ::
  (nat_lit 329, { cls := Value.type "tuple", data := Data.seq #[] }) ::
  (nat_lit 331, { cls := Value.type "code", data := Data.fields #[Value.str (Str.ofString "_law_put") 595, Value.str (Str.ofString "_law_put") 596, Value.str (Str.ofString "/claim/cut.py") 597, Value.int 233 0, Value.int 3 0, Value.int 0 0, Value.int 0 0, Value.int 3 0, Value.ref 326, Value.bool true, Value.int 181 0, Value.ref 327, Value.none, Value.ref 328, Value.ref 329, Value.ref 330, Value.int 602 0, Value.int 233 0, Value.str (Str.ofString "/claim/cut.py") 603] }) ::
  (nat_lit 332, { cls := Value.type "function", data := Data.func { name := Str.ofString "_law_put", qualname := Str.ofString "_law_put", params := stA (st 25), body := FuncBody.stmts (stB (st 25)), scope := stS (st 25), globals := 3, closure := [], defaults := Value.none, kwdefaults := Value.none, pyModule := Value.str (Str.ofString "law_uf060019_05") 515, code := Value.ref 331 } }) ::
  (nat_lit 333, { cls := Value.type "tuple", data := Data.seq #[] }) ::
  (nat_lit 335, { cls := Value.type "tuple", data := Data.seq #[Value.str (Str.ofString "_law_house") 608, Value.str (Str.ofString "_law_at") 609, Value.str (Str.ofString "_law_mail") 610] }) ::
  (nat_lit 336, { cls := Value.type "tuple", data := Data.seq #[] }) ::
  (nat_lit 338, { cls := Value.type "code", data := Data.fields #[Value.str (Str.ofString "_law_came") 605, Value.str (Str.ofString "_law_came") 606, Value.str (Str.ofString "/claim/cut.py") 607, Value.int 237 0, Value.int 2 0, Value.int 0 0, Value.int 0 0, Value.int 3 0, Value.ref 333, Value.bool true, Value.int 181 0, Value.ref 334, Value.none, Value.ref 335, Value.ref 336, Value.ref 337, Value.int 611 0, Value.int 237 0, Value.str (Str.ofString "/claim/cut.py") 612] }) ::
  (nat_lit 339, { cls := Value.type "function", data := Data.func { name := Str.ofString "_law_came", qualname := Str.ofString "_law_came", params := stA (st 26), body := FuncBody.stmts (stB (st 26)), scope := stS (st 26), globals := 3, closure := [], defaults := Value.none, kwdefaults := Value.none, pyModule := Value.str (Str.ofString "law_uf060019_05") 515, code := Value.ref 338 } }) ::
  (nat_lit 340, { cls := Value.type "tuple", data := Data.seq #[] }) ::
  (nat_lit 342, { cls := Value.type "tuple", data := Data.seq #[Value.str (Str.ofString "_law_ring") 617, Value.str (Str.ofString "_law_house") 618, Value.str (Str.ofString "_law_cell") 619, Value.str (Str.ofString "_law_many") 620, Value.str (Str.ofString "_law_place") 621, Value.str (Str.ofString "_law_slept") 622, Value.str (Str.ofString "_law_turn") 623, Value.str (Str.ofString "_law_at") 624, Value.str (Str.ofString "_law_found") 625] }) ::
  (nat_lit 343, { cls := Value.type "tuple", data := Data.seq #[] }) ::
  (nat_lit 345, { cls := Value.type "code", data := Data.fields #[Value.str (Str.ofString "_law_step") 614, Value.str (Str.ofString "_law_step") 615, Value.str (Str.ofString "/claim/cut.py") 616, Value.int 241 0, Value.int 3 0, Value.int 0 0, Value.int 0 0, Value.int 3 0, Value.ref 340, Value.bool true, Value.int 181 0, Value.ref 341, Value.none, Value.ref 342, Value.ref 343, Value.ref 344, Value.int 626 0, Value.int 241 0, Value.str (Str.ofString "/claim/cut.py") 627] }) ::
  (nat_lit 346, { cls := Value.type "function", data := Data.func { name := Str.ofString "_law_step", qualname := Str.ofString "_law_step", params := stA (st 27), body := FuncBody.stmts (stB (st 27)), scope := stS (st 27), globals := 3, closure := [], defaults := Value.none, kwdefaults := Value.none, pyModule := Value.str (Str.ofString "law_uf060019_05") 515, code := Value.ref 345 } }) ::
  (nat_lit 347, { cls := Value.type "tuple", data := Data.seq #[] }) ::
  (nat_lit 349, { cls := Value.type "tuple", data := Data.seq #[Value.str (Str.ofString "_law_ring") 632, Value.str (Str.ofString "_law_house") 633, Value.str (Str.ofString "_law_many") 634, Value.str (Str.ofString "_law_beyond") 635] }) ::
  (nat_lit 350, { cls := Value.type "tuple", data := Data.seq #[] }) ::
  (nat_lit 352, { cls := Value.type "code", data := Data.fields #[Value.str (Str.ofString "_law_strange") 629, Value.str (Str.ofString "_law_strange") 630, Value.str (Str.ofString "/claim/cut.py") 631, Value.int 255 0, Value.int 3 0, Value.int 0 0, Value.int 0 0, Value.int 3 0, Value.ref 347, Value.bool true, Value.int 181 0, Value.ref 348, Value.none, Value.ref 349, Value.ref 350, Value.ref 351, Value.int 636 0, Value.int 255 0, Value.str (Str.ofString "/claim/cut.py") 637] }) ::
  (nat_lit 353, { cls := Value.type "function", data := Data.func { name := Str.ofString "_law_strange", qualname := Str.ofString "_law_strange", params := stA (st 28), body := FuncBody.stmts (stB (st 28)), scope := stS (st 28), globals := 3, closure := [], defaults := Value.none, kwdefaults := Value.none, pyModule := Value.str (Str.ofString "law_uf060019_05") 515, code := Value.ref 352 } }) ::
  (nat_lit 354, { cls := Value.type "tuple", data := Data.seq #[] }) ::
  (nat_lit 356, { cls := Value.type "tuple", data := Data.seq #[Value.str (Str.ofString "_law_ring") 642, Value.str (Str.ofString "_law_place") 643, Value.str (Str.ofString "_law_state") 644, Value.str (Str.ofString "_law_which") 645, Value.str (Str.ofString "_law_found") 646, Value.str (Str.ofString "_law_due") 647] }) ::
  (nat_lit 357, { cls := Value.type "tuple", data := Data.seq #[] }) ::
  (nat_lit 359, { cls := Value.type "code", data := Data.fields #[Value.str (Str.ofString "_law_hand_told") 639, Value.str (Str.ofString "_law_hand_told") 640, Value.str (Str.ofString "/claim/cut.py") 641, Value.int 267 0, Value.int 4 0, Value.int 0 0, Value.int 0 0, Value.int 3 0, Value.ref 354, Value.bool true, Value.int 181 0, Value.ref 355, Value.none, Value.ref 356, Value.ref 357, Value.ref 358, Value.int 648 0, Value.int 267 0, Value.str (Str.ofString "/claim/cut.py") 649] }) ::
  (nat_lit 360, { cls := Value.type "function", data := Data.func { name := Str.ofString "_law_hand_told", qualname := Str.ofString "_law_hand_told", params := stA (st 29), body := FuncBody.stmts (stB (st 29)), scope := stS (st 29), globals := 3, closure := [], defaults := Value.none, kwdefaults := Value.none, pyModule := Value.str (Str.ofString "law_uf060019_05") 515, code := Value.ref 359 } }) ::
  (nat_lit 361, { cls := Value.type "tuple", data := Data.seq #[] }) ::
  (nat_lit 363, { cls := Value.type "tuple", data := Data.seq #[Value.str (Str.ofString "_law_ring") 654, Value.str (Str.ofString "_law_house") 655, Value.str (Str.ofString "_law_places") 656, Value.str (Str.ofString "_law_turn") 657, Value.str (Str.ofString "_law_place") 658, Value.str (Str.ofString "_law_k") 659, Value.str (Str.ofString "_law_which") 660] }) ::
  (nat_lit 364, { cls := Value.type "tuple", data := Data.seq #[] }) ::
  (nat_lit 366, { cls := Value.type "code", data := Data.fields #[Value.str (Str.ofString "_law_hands_told") 651, Value.str (Str.ofString "_law_hands_told") 652, Value.str (Str.ofString "/claim/cut.py") 653, Value.int 279 0, Value.int 4 0, Value.int 0 0, Value.int 0 0, Value.int 3 0, Value.ref 361, Value.bool true, Value.int 181 0, Value.ref 362, Value.none, Value.ref 363, Value.ref 364, Value.ref 365, Value.int 661 0, Value.int 279 0, Value.str (Str.ofString "/claim/cut.py") 662] }) ::
  (nat_lit 367, { cls := Value.type "function", data := Data.func { name := Str.ofString "_law_hands_told", qualname := Str.ofString "_law_hands_told", params := stA (st 30), body := FuncBody.stmts (stB (st 30)), scope := stS (st 30), globals := 3, closure := [], defaults := Value.none, kwdefaults := Value.none, pyModule := Value.str (Str.ofString "law_uf060019_05") 515, code := Value.ref 366 } }) ::
  (nat_lit 368, { cls := Value.type "tuple", data := Data.seq #[] }) ::
  (nat_lit 370, { cls := Value.type "tuple", data := Data.seq #[Value.str (Str.ofString "_law_ring") 667, Value.str (Str.ofString "_law_house") 668, Value.str (Str.ofString "_law_turn") 669, Value.str (Str.ofString "_law_places") 670, Value.str (Str.ofString "_law_ways") 671, Value.str (Str.ofString "_law_way") 672] }) ::
  (nat_lit 371, { cls := Value.type "tuple", data := Data.seq #[] }) ::
  (nat_lit 373, { cls := Value.type "code", data := Data.fields #[Value.str (Str.ofString "_law_looked") 664, Value.str (Str.ofString "_law_looked") 665, Value.str (Str.ofString "/claim/cut.py") 666, Value.int 286 0, Value.int 4 0, Value.int 0 0, Value.int 0 0, Value.int 3 0, Value.ref 368, Value.bool true, Value.int 181 0, Value.ref 369, Value.none, Value.ref 370, Value.ref 371, Value.ref 372, Value.int 673 0, Value.int 286 0, Value.str (Str.ofString "/claim/cut.py") 674] }) ::
  (nat_lit 374, { cls := Value.type "function", data := Data.func { name := Str.ofString "_law_looked", qualname := Str.ofString "_law_looked", params := stA (st 31), body := FuncBody.stmts (stB (st 31)), scope := stS (st 31), globals := 3, closure := [], defaults := Value.none, kwdefaults := Value.none, pyModule := Value.str (Str.ofString "law_uf060019_05") 515, code := Value.ref 373 } }) ::
  (nat_lit 375, { cls := Value.type "tuple", data := Data.seq #[] }) ::
  (nat_lit 377, { cls := Value.type "tuple", data := Data.seq #[Value.str (Str.ofString "_law_ring") 679, Value.str (Str.ofString "_law_house") 680, Value.str (Str.ofString "_law_turn") 681, Value.str (Str.ofString "_law_places") 682] }) ::
  (nat_lit 378, { cls := Value.type "tuple", data := Data.seq #[] }) ::
  (nat_lit 380, { cls := Value.type "code", data := Data.fields #[Value.str (Str.ofString "_law_all") 676, Value.str (Str.ofString "_law_all") 677, Value.str (Str.ofString "/claim/cut.py") 678, Value.int 296 0, Value.int 3 0, Value.int 0 0, Value.int 0 0, Value.int 3 0, Value.ref 375, Value.bool true, Value.int 181 0, Value.ref 376, Value.none, Value.ref 377, Value.ref 378, Value.ref 379, Value.int 683 0, Value.int 296 0, Value.str (Str.ofString "/claim/cut.py") 684] }) ::
  (nat_lit 381, { cls := Value.type "function", data := Data.func { name := Str.ofString "_law_all", qualname := Str.ofString "_law_all", params := stA (st 32), body := FuncBody.stmts (stB (st 32)), scope := stS (st 32), globals := 3, closure := [], defaults := Value.none, kwdefaults := Value.none, pyModule := Value.str (Str.ofString "law_uf060019_05") 515, code := Value.ref 380 } }) ::
  (nat_lit 382, { cls := Value.type "tuple", data := Data.seq #[] }) ::
  (nat_lit 384, { cls := Value.type "tuple", data := Data.seq #[Value.str (Str.ofString "_law_ring") 689, Value.str (Str.ofString "_law_house") 690, Value.str (Str.ofString "_law_came_here") 691, Value.str (Str.ofString "_law_found") 692] }) ::
  (nat_lit 385, { cls := Value.type "tuple", data := Data.seq #[] }) ::
  (nat_lit 387, { cls := Value.type "code", data := Data.fields #[Value.str (Str.ofString "_law_rests") 686, Value.str (Str.ofString "_law_rests") 687, Value.str (Str.ofString "/claim/cut.py") 688, Value.int 299 0, Value.int 2 0, Value.int 0 0, Value.int 0 0, Value.int 3 0, Value.ref 382, Value.bool true, Value.int 181 0, Value.ref 383, Value.none, Value.ref 384, Value.ref 385, Value.ref 386, Value.int 693 0, Value.int 299 0, Value.str (Str.ofString "/claim/cut.py") 694] }) ::
  (nat_lit 388, { cls := Value.type "function", data := Data.func { name := Str.ofString "_law_rests", qualname := Str.ofString "_law_rests", params := stA (st 33), body := FuncBody.stmts (stB (st 33)), scope := stS (st 33), globals := 3, closure := [], defaults := Value.none, kwdefaults := Value.none, pyModule := Value.str (Str.ofString "law_uf060019_05") 515, code := Value.ref 387 } }) ::
  (nat_lit 389, { cls := Value.type "tuple", data := Data.seq #[] }) ::
  (nat_lit 392, { cls := Value.type "code", data := Data.fields #[Value.str (Str.ofString "law") 696, Value.str (Str.ofString "law") 697, Value.str (Str.ofString "/claim/cut.py") 698, Value.int 306 0, Value.int 1 0, Value.int 0 0, Value.int 0 0, Value.int 3 0, Value.ref 389, Value.bool true, Value.int 181 0, Value.ref 390, Value.none, Value.none, Value.none, Value.ref 391, Value.int 699 0, Value.int 306 0, Value.str (Str.ofString "/claim/cut.py") 700] }) ::
  (nat_lit 393, { cls := Value.type "function", data := Data.func { name := Str.ofString "law", qualname := Str.ofString "law", params := stA (st 34), body := FuncBody.stmts (stB (st 34)), scope := stS (st 34), globals := 3, closure := [], defaults := Value.none, kwdefaults := Value.none, pyModule := Value.str (Str.ofString "law_uf060019_05") 515, code := Value.ref 392 } }) :: []
noncomputable def addrs : List Addr := nat_lit 2 :: nat_lit 3 :: nat_lit 15 :: nat_lit 22 :: nat_lit 23 :: nat_lit 24 :: nat_lit 25 :: nat_lit 28 :: nat_lit 35 :: nat_lit 36 :: nat_lit 37 :: nat_lit 40 :: nat_lit 47 :: nat_lit 48 :: nat_lit 49 :: nat_lit 52 :: nat_lit 59 :: nat_lit 60 :: nat_lit 61 :: nat_lit 71 :: nat_lit 73 :: nat_lit 74 :: nat_lit 76 :: nat_lit 77 :: nat_lit 78 :: nat_lit 80 :: nat_lit 81 :: nat_lit 83 :: nat_lit 84 :: nat_lit 85 :: nat_lit 87 :: nat_lit 88 :: nat_lit 90 :: nat_lit 91 :: nat_lit 92 :: nat_lit 94 :: nat_lit 95 :: nat_lit 97 :: nat_lit 98 :: nat_lit 99 :: nat_lit 101 :: nat_lit 102 :: nat_lit 104 :: nat_lit 105 :: nat_lit 106 :: nat_lit 108 :: nat_lit 109 :: nat_lit 111 :: nat_lit 112 :: nat_lit 113 :: nat_lit 115 :: nat_lit 116 :: nat_lit 118 :: nat_lit 119 :: nat_lit 120 :: nat_lit 122 :: nat_lit 123 :: nat_lit 125 :: nat_lit 126 :: nat_lit 127 :: nat_lit 129 :: nat_lit 130 :: nat_lit 132 :: nat_lit 133 :: nat_lit 134 :: nat_lit 136 :: nat_lit 137 :: nat_lit 139 :: nat_lit 140 :: nat_lit 141 :: nat_lit 143 :: nat_lit 144 :: nat_lit 146 :: nat_lit 147 :: nat_lit 148 :: nat_lit 149 :: nat_lit 150 :: nat_lit 151 :: nat_lit 152 :: nat_lit 155 :: nat_lit 157 :: nat_lit 158 :: nat_lit 160 :: nat_lit 161 :: nat_lit 162 :: nat_lit 164 :: nat_lit 165 :: nat_lit 167 :: nat_lit 168 :: nat_lit 176 :: nat_lit 179 :: nat_lit 180 :: nat_lit 181 :: nat_lit 183 :: nat_lit 184 :: nat_lit 186 :: nat_lit 187 :: nat_lit 188 :: nat_lit 190 :: nat_lit 191 :: nat_lit 193 :: nat_lit 194 :: nat_lit 195 :: nat_lit 197 :: nat_lit 198 :: nat_lit 200 :: nat_lit 201 :: nat_lit 202 :: nat_lit 204 :: nat_lit 205 :: nat_lit 207 :: nat_lit 208 :: nat_lit 209 :: nat_lit 211 :: nat_lit 212 :: nat_lit 214 :: nat_lit 215 :: nat_lit 216 :: nat_lit 218 :: nat_lit 219 :: nat_lit 221 :: nat_lit 222 :: nat_lit 223 :: nat_lit 225 :: nat_lit 226 :: nat_lit 228 :: nat_lit 229 :: nat_lit 230 :: nat_lit 232 :: nat_lit 233 :: nat_lit 235 :: nat_lit 236 :: nat_lit 237 :: nat_lit 239 :: nat_lit 240 :: nat_lit 242 :: nat_lit 243 :: nat_lit 244 :: nat_lit 246 :: nat_lit 247 :: nat_lit 249 :: nat_lit 250 :: nat_lit 251 :: nat_lit 253 :: nat_lit 254 :: nat_lit 256 :: nat_lit 257 :: nat_lit 258 :: nat_lit 259 :: nat_lit 260 :: nat_lit 261 :: nat_lit 262 :: nat_lit 265 :: nat_lit 267 :: nat_lit 268 :: nat_lit 270 :: nat_lit 271 :: nat_lit 272 :: nat_lit 274 :: nat_lit 275 :: nat_lit 277 :: nat_lit 278 :: nat_lit 279 :: nat_lit 281 :: nat_lit 282 :: nat_lit 284 :: nat_lit 285 :: nat_lit 286 :: nat_lit 288 :: nat_lit 289 :: nat_lit 291 :: nat_lit 292 :: nat_lit 293 :: nat_lit 296 :: nat_lit 297 :: nat_lit 298 :: nat_lit 300 :: nat_lit 301 :: nat_lit 303 :: nat_lit 304 :: nat_lit 305 :: nat_lit 307 :: nat_lit 308 :: nat_lit 310 :: nat_lit 311 :: nat_lit 312 :: nat_lit 314 :: nat_lit 315 :: nat_lit 317 :: nat_lit 318 :: nat_lit 319 :: nat_lit 321 :: nat_lit 322 :: nat_lit 324 :: nat_lit 325 :: nat_lit 326 :: nat_lit 328 :: nat_lit 329 :: nat_lit 331 :: nat_lit 332 :: nat_lit 333 :: nat_lit 335 :: nat_lit 336 :: nat_lit 338 :: nat_lit 339 :: nat_lit 340 :: nat_lit 342 :: nat_lit 343 :: nat_lit 345 :: nat_lit 346 :: nat_lit 347 :: nat_lit 349 :: nat_lit 350 :: nat_lit 352 :: nat_lit 353 :: nat_lit 354 :: nat_lit 356 :: nat_lit 357 :: nat_lit 359 :: nat_lit 360 :: nat_lit 361 :: nat_lit 363 :: nat_lit 364 :: nat_lit 366 :: nat_lit 367 :: nat_lit 368 :: nat_lit 370 :: nat_lit 371 :: nat_lit 373 :: nat_lit 374 :: nat_lit 375 :: nat_lit 377 :: nat_lit 378 :: nat_lit 380 :: nat_lit 381 :: nat_lit 382 :: nat_lit 384 :: nat_lit 385 :: nat_lit 387 :: nat_lit 388 :: nat_lit 389 :: nat_lit 392 :: nat_lit 393 :: []
noncomputable def view : Program := { pg with main := { pg.main with body := [1, 2, 3, 4, 6, 7, 8, 9, 11, 12, 13, 14, 16, 17, 18, 19, 20, 21, 22, 23, 24, 25, 26, 27, 28, 29, 30, 31, 32, 33, 34].filterMap fun i => pg.main.body[i]? } }
noncomputable def hook : Hook := kHook heap addrs (fun _ => by kernel_rfl)
theorem top_seen : ∀ w, (openEnds treeTable pg w 5478).map (fun s => openSeen view [] (importedModules pg.main.body) (fun s => xlAt view [] s && recOk [] s) true s) = some (openGood view []) := by intro w; kernel_rfl
theorem top_obs : ∀ w, (openEnds treeTable pg w 5478).map (Hook.obs hook) = some (Hook.val hook w) := by intro w; kernel_rfl
theorem top_runs : LeftO pg view [] (fun s => xlAt view [] s && recOk [] s) (Hook.obs hook) (Hook.val hook) 5478 := fun w => by
  obtain ⟨s, e1, e2⟩ := Option.map_eq_some_iff.mp (top_seen w)
  have e3 := top_obs w
  rw [e1] at e3 ⊢
  exact congrArg some (Prod.ext e2 (Option.some.inj e3))
end Mine

example : (PySem.Challenge.rw_uf060019_05, Mine.heap) = (PySem.Challenge.rw_uf060019_05, Mine.heap) := by k_fill; rfl
namespace Mine

inductive Word where
  | ask | answer | crown
deriving DecidableEq

structure Ltr where
  way : Int
  word : Word
  num : Int
  stage : Nat
  steps : Nat

structure Hnd where
  num : Int
  stage : Option Nat := none
  far : Nat := 1
  had : Nat := 0
  lost : Bool := false
  won : Bool := false
  top : Option Int := none

def Hnd.asks (h : Hnd) (s : Nat) : List Ltr := [⟨1, .ask, h.num, s, h.far⟩, ⟨-1, .ask, h.num, s, h.far⟩]
def Hnd.wake (h : Hnd) : Hnd × List Ltr :=
  match h.stage with
  | some _ => (h, [])
  | none => ({ h with stage := some 0 }, h.asks 0)
def Hnd.askCame (h : Hnd) (l : Ltr) : Hnd × List Ltr :=
  if l.num < h.num then (h, [])
  else if h.num < l.num then
    ({ h with lost := true }, if 1 < l.steps then [⟨l.way, .ask, l.num, l.stage, l.steps - 1⟩] else [⟨-l.way, .answer, l.num, l.stage, 0⟩])
  else if h.won then (h, [])
  else ({ h with won := true, top := some h.num }, [⟨1, .crown, h.num, 0, 0⟩])
def Hnd.answerCame (h : Hnd) (l : Ltr) : Hnd × List Ltr :=
  if l.num ≠ h.num then (h, [l])
  else match h.stage with
    | none => (h, [])
    | some s =>
      if l.stage ≠ s then (h, [])
      else if h.had + 1 ≠ 2 ∨ h.lost = true then ({ h with had := h.had + 1 }, [])
      else ({ h with stage := some (s + 1), far := h.far + h.far, had := 0 },
        [⟨1, .ask, h.num, s + 1, h.far + h.far⟩, ⟨-1, .ask, h.num, s + 1, h.far + h.far⟩])
def Hnd.crownCame (h : Hnd) (l : Ltr) : Hnd × List Ltr :=
  if l.num = h.num then (h, []) else ({ h with top := some l.num }, [l])
def Hnd.came (h : Hnd) (l : Ltr) : Hnd × List Ltr :=
  match l.word with
  | .ask => h.askCame l
  | .answer => h.answerCame l
  | .crown => h.crownCame l
def Hnd.take (h : Hnd) (l : Ltr) : Hnd × List Ltr :=
  ((h.wake.1.came l).1, h.wake.2 ++ (h.wake.1.came l).2)

structure Rng where
  hands : List Hnd
  road : List (Nat × Ltr)
  many : Nat

def dest (n p : Nat) (way : Int) : Nat := (((p : Int) + way) % (n : Int)).toNat
def Rng.post (R : Rng) (p : Nat) (ls : List Ltr) : Rng :=
  { R with road := R.road ++ ls.map (fun l => (dest R.hands.length p l.way, l)), many := R.many + ls.length }
def Rng.wake (R : Rng) (p : Nat) : Rng :=
  match R.hands[p]? with
  | none => R
  | some h => ({ R with hands := R.hands.set p h.wake.1 } : Rng).post p h.wake.2
def Rng.bring (R : Rng) (k : Nat) : Rng :=
  match R.road[k]? with
  | none => R
  | some (p, l) =>
    match R.hands[p]? with
    | none => R
    | some h => ({ R with hands := R.hands.set p (h.take l).1, road := R.road.eraseIdx k } : Rng).post p (h.take l).2

/-! ### the circle -/
def wayOf (r : Bool) : Int := if r then 1 else -1
def pl (n o : Nat) (r : Bool) (j : Nat) : Nat := (((o : Int) + wayOf r * (j : Int)) % (n : Int)).toNat

theorem emod_toNat_cast {a : Int} {n : Nat} (hn : 0 < n) : (((a % (n : Int)).toNat : Nat) : Int) = a % (n : Int) :=
  Int.toNat_of_nonneg (Int.emod_nonneg _ (by omega))
theorem pl_lt {n : Nat} (hn : 0 < n) (o : Nat) (r : Bool) (j : Nat) : pl n o r j < n := by
  have h1 := Int.emod_lt_of_pos ((o : Int) + wayOf r * (j : Int)) (show (0 : Int) < (n : Int) by omega)
  have h2 := emod_toNat_cast (a := (o : Int) + wayOf r * (j : Int)) hn
  unfold pl
  omega
theorem pl_zero {n o : Nat} (r : Bool) (ho : o < n) : pl n o r 0 = o := by
  unfold pl
  rw [show (o : Int) + wayOf r * ((0 : Nat) : Int) = (o : Int) by simp, Int.emod_eq_of_lt (by omega) (by omega)]
  rfl
theorem dest_pl {n : Nat} (hn : 0 < n) (o : Nat) (r : Bool) (j : Nat) (w : Int) :
    dest n (pl n o r j) w = (((o : Int) + wayOf r * (j : Int) + w) % (n : Int)).toNat := by
  unfold dest
  have h2 := emod_toNat_cast (a := (o : Int) + wayOf r * (j : Int)) hn
  unfold pl
  rw [h2, Int.emod_add_emod]
theorem dest_pl_succ {n : Nat} (hn : 0 < n) (o : Nat) (r : Bool) (j : Nat) : dest n (pl n o r j) (wayOf r) = pl n o r (j + 1) := by
  rw [dest_pl hn]
  unfold pl
  congr 2
  cases r <;> simp [wayOf] <;> omega
theorem dest_pl_pred {n : Nat} (hn : 0 < n) (o : Nat) (r : Bool) (j : Nat) : dest n (pl n o r (j + 1)) (-wayOf r) = pl n o r j := by
  rw [dest_pl hn]
  unfold pl
  congr 2
  cases r <;> simp [wayOf] <;> omega
theorem dest_one {n o : Nat} (r : Bool) : dest n o (wayOf r) = pl n o r 1 := by
  unfold dest pl
  cases r <;> simp [wayOf]
theorem pl_self {n : Nat} (o : Nat) (r : Bool) (ho : o < n) : pl n o r n = o := by
  unfold pl
  have : ((o : Int) + wayOf r * (n : Int)) % (n : Int) = (o : Int) := by
    rw [Int.add_mul_emod_self_right, Int.emod_eq_of_lt (by omega) (by omega)]
  rw [this]; rfl
end Mine

namespace Mine
/-! ### 05 alone: a slim invariant of the ring (stages, tokens, the count); it stands in the place of A2..A9 -/
structure GM where
  kind : Word
  o : Nat
  r : Bool
  j : Nat
  s : Nat

abbrev nmAt (nums : List Int) (i : Nat) : Int := nums.getD i 0
/-- the number j places away from o -/
abbrev nmOff (nums : List Int) (o : Nat) (r : Bool) (j : Nat) : Int := nmAt nums (pl nums.length o r j)

def GM.mail (nums : List Int) (m : GM) : Nat × Ltr :=
  match m.kind with
  | .ask => (pl nums.length m.o m.r m.j, ⟨wayOf m.r, .ask, nmAt nums m.o, m.s, 2 ^ m.s + 1 - m.j⟩)
  | .answer => (pl nums.length m.o m.r m.j, ⟨-wayOf m.r, .answer, nmAt nums m.o, m.s, 0⟩)
  | .crown => (pl nums.length m.o true m.j, ⟨1, .crown, nmAt nums m.o, 0, 0⟩)

def GM.isTok (o : Nat) (m : GM) : Bool := (m.kind != .crown) && (m.o == o)
def cost (n : Nat) (h : Hnd) : Nat := (match h.stage with | none => 0 | some s => 8 * 2 ^ s) + (if h.won then n else 0)
def credit (n : Nat) (m : GM) : Nat :=
  match m.kind with
  | .ask => 2 * 2 ^ m.s - m.j
  | .answer => m.j
  | .crown => n - m.j
def Less (nums : List Int) (o : Nat) (r : Bool) (k : Nat) : Prop := ∀ i, 1 ≤ i → i ≤ k → nmOff nums o r i < nmAt nums o
def MPart (nums : List Int) (m : GM) : Prop :=
  match m.kind with
  | .ask => 1 ≤ m.j ∧ m.j ≤ 2 ^ m.s ∧ Less nums m.o m.r (m.j - 1)
  | .answer => m.j < 2 ^ m.s ∧ Less nums m.o m.r (2 ^ m.s)
  | .crown => 1 ≤ m.j ∧ m.j ≤ nums.length
structure HInv (nums : List Int) (i : Nat) (h : Hnd) : Prop where
  num : h.num = nmAt nums i
  asleep : h.stage = none → h = { num := nmAt nums i }
  far : ∀ s, h.stage = some s → h.far = 2 ^ s
  past : ∀ s, h.stage = some (s + 1) → 2 ^ s < nums.length
structure MInv (nums : List Int) (hs : List Hnd) (m : GM) : Prop where
  o : m.o < nums.length
  part : MPart nums m
  live : m.kind ≠ .crown → ∃ h, hs[m.o]? = some h ∧ h.stage = some m.s
structure GInv (nums : List Int) (hs : List Hnd) (ms : List GM) (many : Nat) : Prop where
  pos : 0 < nums.length
  nodup : nums.Nodup
  len : hs.length = nums.length
  hand : ∀ i h, hs[i]? = some h → HInv nums i h
  tok : ∀ i h, hs[i]? = some h → ms.countP (GM.isTok i) + h.had ≤ 2
  mail : ∀ m ∈ ms, MInv nums hs m
  pot : many + (ms.map (credit nums.length)).sum ≤ (hs.map (cost nums.length)).sum

/-! ### small facts of lists -/
theorem sum_set {hs : List Hnd} {f : Hnd → Nat} {p : Nat} {h h' : Hnd} (hp : hs[p]? = some h) :
    ((hs.set p h').map f).sum + f h = (hs.map f).sum + f h' := by
  induction hs generalizing p with
  | nil => cases hp
  | cons x xs ih =>
    cases p with
    | zero =>
      cases hp
      show f h' + (xs.map f).sum + f h = f h + (xs.map f).sum + f h'
      generalize f h' = a, f h = b, (xs.map f).sum = c; omega
    | succ p =>
      have h0 := ih (p := p) hp
      show f x + ((xs.set p h').map f).sum + f h = f x + (xs.map f).sum + f h'
      rw [Nat.add_assoc, h0, Nat.add_assoc]
theorem sum_erase {ms : List GM} {f : GM → Nat} {k : Nat} {m : GM} (hk : ms[k]? = some m) :
    ((ms.eraseIdx k).map f).sum + f m = (ms.map f).sum := by
  induction ms generalizing k with
  | nil => cases hk
  | cons x xs ih =>
    cases k with
    | zero => cases hk; exact Nat.add_comm _ _
    | succ k =>
      show f x + ((xs.eraseIdx k).map f).sum + f m = f x + (xs.map f).sum
      rw [Nat.add_assoc, ih (k := k) hk]
theorem count_erase {ms : List GM} {f : GM → Bool} {k : Nat} {m : GM} (hk : ms[k]? = some m) :
    (ms.eraseIdx k).countP f + (f m).toNat = ms.countP f := by
  induction ms generalizing k with
  | nil => cases hk
  | cons x xs ih =>
    cases k with
    | zero => cases hk; rw [List.countP_cons, List.eraseIdx_cons_zero]; cases f m <;> rfl
    | succ k =>
      rw [List.eraseIdx_cons_succ, List.countP_cons, List.countP_cons, ← ih (k := k) hk, Nat.add_right_comm]
theorem lt_of_get {hs : List Hnd} {p : Nat} {h : Hnd} (hp : hs[p]? = some h) : p < hs.length := (List.getElem?_eq_some_iff.mp hp).1
theorem get_set {hs : List Hnd} {p i : Nat} {h' x : Hnd} (hp : p < hs.length) : (hs.set p h')[i]? = some x ↔ (i = p ∧ x = h') ∨ (i ≠ p ∧ hs[i]? = some x) := by
  by_cases e : i = p
  · subst e
    rw [List.getElem?_set_self hp]
    exact ⟨fun q => .inl ⟨rfl, (Option.some.inj q).symm⟩, fun q => q.elim (fun q => congrArg some q.2.symm) fun q => absurd rfl q.1⟩
  · rw [List.getElem?_set_ne fun q => e q.symm]
    exact ⟨fun q => .inr ⟨e, q⟩, fun q => q.elim (fun q => absurd q.1 e) fun q => q.2⟩
theorem nm_inj {nums : List Int} (hn : nums.Nodup) {i j : Nat} (hi : i < nums.length) (hj : j < nums.length) (h : nmAt nums i = nmAt nums j) : i = j := by
  rw [nmAt, nmAt, List.getD_eq_getElem?_getD, List.getD_eq_getElem?_getD, List.getElem?_eq_getElem hi, List.getElem?_eq_getElem hj] at h
  exact (List.getElem_inj hn).mp h
theorem two_pow_pos (s : Nat) : 1 ≤ 2 ^ s := Nat.one_le_two_pow
theorem isTok_iff {o : Nat} {m : GM} : GM.isTok o m = true ↔ m.kind ≠ .crown ∧ m.o = o := by
  rw [GM.isTok, Bool.and_eq_true, beq_iff_eq, bne_iff_ne]
theorem tok_one {f : GM → Bool} (x : GM) : List.countP f [x] = (f x).toNat := by
  rw [List.countP_singleton]; cases f x <;> rfl
theorem two_pow_succ (s : Nat) : 2 ^ (s + 1) = 2 ^ s + 2 ^ s := by rw [Nat.pow_succ, Nat.mul_two]

variable {nums : List Int} {hs : List Hnd} {ms : List GM} {many p k : Nat} {h h' : Hnd} {m : GM} {R : Rng}
theorem GInv.lt (I : GInv nums hs ms many) (hp : hs[p]? = some h) : p < nums.length := by rw [← I.len]; exact lt_of_get hp

/-- one hand turns, some mails go, some come -/
theorem inv_turn (I : GInv nums hs ms many) (hp : hs[p]? = some h) {ms0 new : List GM} (hsub : ∀ m ∈ ms0, m ∈ ms)
    (H : HInv nums p h') (hst : h'.stage = h.stage ∨ ms0.countP (GM.isTok p) = 0)
    (hnew : ∀ m ∈ new, MInv nums (hs.set p h') m)
    (htok : ∀ o, o ≠ p → ms0.countP (GM.isTok o) + new.countP (GM.isTok o) ≤ ms.countP (GM.isTok o))
    (htp : ms0.countP (GM.isTok p) + new.countP (GM.isTok p) + h'.had ≤ 2)
    (hpot : new.length + (new.map (credit nums.length)).sum + (ms0.map (credit nums.length)).sum + cost nums.length h ≤ (ms.map (credit nums.length)).sum + cost nums.length h') :
    GInv nums (hs.set p h') (ms0 ++ new) (many + new.length) := by
  have hlt := lt_of_get hp
  refine ⟨I.pos, I.nodup, List.length_set.trans I.len, fun i y hy => ?_, fun i y hy => ?_, fun m hm => ?_, ?_⟩
  · rcases (get_set hlt).mp hy with ⟨rfl, rfl⟩ | ⟨_, hy⟩
    · exact H
    · exact I.hand i y hy
  · rw [List.countP_append]
    rcases (get_set hlt).mp hy with ⟨rfl, rfl⟩ | ⟨e, hy⟩
    · exact htp
    · exact Nat.le_trans (Nat.add_le_add_right (htok i e) _) (I.tok i y hy)
  · rcases List.mem_append.mp hm with q | q
    · obtain ⟨a, b, c⟩ := I.mail m (hsub m q)
      refine ⟨a, b, fun hk => ?_⟩
      obtain ⟨y, hy, hys⟩ := c hk
      by_cases e : m.o = p
      · rcases hst with hst | hst
        · refine ⟨h', (get_set hlt).mpr (.inl ⟨e, rfl⟩), ?_⟩
          rw [e, hp] at hy; cases hy; exact hst.trans hys
        · exact absurd (isTok_iff.mpr ⟨hk, e⟩) (List.countP_eq_zero.mp hst m q)
      · exact ⟨y, (get_set hlt).mpr (.inr ⟨e, hy⟩), hys⟩
    · exact hnew m q
  · rw [List.map_append, List.sum_append]
    have h1 := sum_set (f := cost nums.length) (h' := h') hp
    have h3 := I.pot
    clear hst hnew htok htp H hsub hlt hp
    omega

/-- the two asks of a stage -/
theorem two_asks (o s : Nat) (ho : o < nums.length) (hh : hs[o]? = some h) (hst : h.stage = some s) : ∀ m ∈ [(⟨.ask, o, true, 1, s⟩ : GM), ⟨.ask, o, false, 1, s⟩], MInv nums hs m := by
  have one : ∀ r, MInv nums hs ⟨.ask, o, r, 1, s⟩ := fun r => ⟨ho, ⟨Nat.le_refl _, two_pow_pos _, fun i a b => absurd (Nat.le_trans a b) (Nat.not_succ_le_zero 0)⟩, fun _ => ⟨h, hh, hst⟩⟩
  intro m hm
  rcases List.mem_cons.mp hm with rfl | hm
  · exact one true
  · rw [List.mem_singleton.mp hm]; exact one false
theorem two_tok {o p : Nat} {s : Nat} (e : o ≠ p) : List.countP (GM.isTok o) [(⟨.ask, p, true, 1, s⟩ : GM), ⟨.ask, p, false, 1, s⟩] = 0 := by
  rw [List.countP_eq_zero]
  intro m hm q
  have := (isTok_iff.mp q).2
  rcases List.mem_cons.mp hm with rfl | hm
  · exact e this.symm
  · rw [List.mem_singleton.mp hm] at this; exact e this.symm
theorem two_tok_le {o s p : Nat} : List.countP (GM.isTok o) [(⟨.ask, p, true, 1, s⟩ : GM), ⟨.ask, p, false, 1, s⟩] ≤ 2 := List.countP_le_length

theorem inv_wake (I : GInv nums hs ms many) (hp : hs[p]? = some h) (h0 : h.stage = none) :
    GInv nums (hs.set p { h with stage := some 0 }) (ms ++ [⟨.ask, p, true, 1, 0⟩, ⟨.ask, p, false, 1, 0⟩]) (many + 2) := by
  have hd := (I.hand p h hp).asleep h0
  subst hd
  have hc : ms.countP (GM.isTok p) = 0 := by
    rw [List.countP_eq_zero]
    intro m hm q
    obtain ⟨a, b⟩ := isTok_iff.mp q
    obtain ⟨y, hy, e⟩ := (I.mail m hm).live a
    rw [b, hp] at hy
    cases hy; cases e
  refine inv_turn I hp (fun _ q => q) ⟨rfl, fun q => (nomatch q), fun s q => ?_, fun s q => nomatch q⟩ (.inr hc) (two_asks p 0 (I.lt hp) ((get_set (lt_of_get hp)).mpr (.inl ⟨rfl, rfl⟩)) rfl) (fun o e => ?_) ?_ ?_
  · cases q; rfl
  · rw [two_tok e]; exact Nat.le_refl _
  · rw [hc, Nat.zero_add]; exact two_tok_le
  · show 2 + (1 + (1 + 0)) + _ + (0 + 0) ≤ _ + (8 + 0)
    generalize (ms.map (credit nums.length)).sum = x
    omega

/-- the hand keeps its stage and its count, the mail goes on or ends -/
theorem inv_pass (I : GInv nums hs ms many) (hk : ms[k]? = some m) (hp : hs[p]? = some h) (aw : h.stage ≠ none) (e1 : h'.num = h.num) (e2 : h'.stage = h.stage) (e3 : h'.far = h.far) (e4 : h'.had = h.had)
    {new : List GM} (hn : new = [] ∨ ∃ m', new = [m'] ∧ m'.o = m.o ∧ MPart nums m' ∧ (m'.kind ≠ .crown → m.kind ≠ .crown ∧ m'.s = m.s))
    (hpot : new.length + (new.map (credit nums.length)).sum + cost nums.length h ≤ credit nums.length m + cost nums.length h') :
    GInv nums (hs.set p h') (ms.eraseIdx k ++ new) (many + new.length) := by
  have H := I.hand p h hp
  have M := I.mail m (List.mem_of_getElem? hk)
  have hlt := lt_of_get hp
  have hc : ∀ o, (ms.eraseIdx k).countP (GM.isTok o) + new.countP (GM.isTok o) ≤ ms.countP (GM.isTok o) := fun o => by
    rw [← count_erase (f := GM.isTok o) hk]
    refine Nat.add_le_add_left ?_ _
    rcases hn with rfl | ⟨m', rfl, a, _, b⟩
    · exact Nat.zero_le _
    · rw [tok_one]
      cases q : GM.isTok o m' with
      | false => exact Nat.zero_le _
      | true =>
        obtain ⟨c, d⟩ := isTok_iff.mp q
        rw [isTok_iff.mpr ⟨(b c).1, a.symm.trans d⟩]
        exact Nat.le_refl _
  refine inv_turn I hp (fun _ q => List.mem_of_mem_eraseIdx q) ⟨e1.trans H.num, fun q => absurd (e2.symm.trans q) aw, fun s q => e3.trans (H.far s (e2.symm.trans q)), fun s q => H.past s (e2.symm.trans q)⟩ (.inl e2) (fun m' hm' => ?_) (fun o _ => hc o) ?_ ?_
  · rcases hn with rfl | ⟨m1, rfl, a, b, c⟩
    · cases hm'
    · rw [List.mem_singleton.mp hm']
      refine ⟨a ▸ M.o, b, fun q => ?_⟩
      obtain ⟨y, hy, hys⟩ := M.live (c q).1
      rw [a, (c q).2]
      by_cases e : m.o = p
      · refine ⟨h', (get_set hlt).mpr (.inl ⟨e, rfl⟩), ?_⟩
        rw [e, hp] at hy; cases hy; exact e2.trans hys
      · exact ⟨y, (get_set hlt).mpr (.inr ⟨e, hy⟩), hys⟩
  · rw [e4]; exact Nat.le_trans (Nat.add_le_add_right (hc p) _) (I.tok p h hp)
  · have h2 := sum_erase (f := credit nums.length) hk
    clear hc hn
    omega

/-- what a letter leads to -/
def Leads (nums : List Int) (hs : List Hnd) (ms : List GM) (many k p : Nat) (c : Hnd × List Ltr) : Prop :=
  ∃ new, GInv nums (hs.set p c.1) (ms.eraseIdx k ++ new) (many + new.length) ∧ c.2.map (fun l => (dest nums.length p l.way, l)) = new.map (GM.mail nums)
theorem Less.lt {o : Nat} {r : Bool} {j : Nat} (ho : o < nums.length) (hl : Less nums o r j) : j < nums.length := by
  apply Nat.lt_of_not_le
  intro hge
  have := hl nums.length (Nat.lt_of_le_of_lt (Nat.zero_le _) ho) hge
  unfold nmOff at this
  rw [pl_self o r ho] at this
  exact absurd this (Int.lt_irrefl _)
theorem drop_ok (I : GInv nums hs ms many) (hk : ms[k]? = some m) (hp : hs[p]? = some h) (aw : h.stage ≠ none) : Leads nums hs ms many k p (h, []) :=
  ⟨[], inv_pass I hk hp aw rfl rfl rfl rfl (.inl rfl) (by rw [List.length_nil, List.map_nil, List.sum_nil, Nat.zero_add, Nat.zero_add]; exact Nat.le_add_left _ _), rfl⟩
/-- one letter goes on -/
theorem pass_ok (I : GInv nums hs ms many) (hk : ms[k]? = some m) (hp : hs[p]? = some h) (aw : h.stage ≠ none) (e1 : h'.num = h.num) (e2 : h'.stage = h.stage) (e3 : h'.far = h.far) (e4 : h'.had = h.had) (m' : GM)
    (a : m'.o = m.o) (b : MPart nums m') (c : m'.kind ≠ .crown → m.kind ≠ .crown ∧ m'.s = m.s) (hpot : 1 + credit nums.length m' + cost nums.length h ≤ credit nums.length m + cost nums.length h') {l : Ltr}
    (hl : (dest nums.length p l.way, l) = m'.mail nums) : Leads nums hs ms many k p (h', [l]) :=
  ⟨[m'], inv_pass I hk hp aw e1 e2 e3 e4 (.inr ⟨m', rfl, a, b, c⟩) (by rw [List.length_singleton, List.map_singleton, List.sum_singleton]; exact hpot), congrArg (fun x => [x]) hl⟩

theorem ask_ok (I : GInv nums hs ms many) {o : Nat} {r : Bool} {j s : Nat} (hk : ms[k]? = some ⟨.ask, o, r, j, s⟩) (hp : hs[pl nums.length o r j]? = some h) (aw : h.stage ≠ none) :
    Leads nums hs ms many k (pl nums.length o r j) (h.askCame ⟨wayOf r, .ask, nmAt nums o, s, 2 ^ s + 1 - j⟩) := by
  obtain ⟨ho, ⟨hj1, hj2, hless⟩, _⟩ := I.mail _ (List.mem_of_getElem? hk)
  dsimp only at ho hj1 hj2 hless
  have hnum := (I.hand _ h hp).num
  have hpos := I.pos
  have h2 := two_pow_pos s
  unfold Hnd.askCame
  dsimp only
  by_cases c1 : nmAt nums o < h.num
  · rw [if_pos c1]
    exact drop_ok I hk hp aw
  · rw [if_neg c1]
    by_cases c2 : h.num < nmAt nums o
    · rw [if_pos c2]
      have hless' : Less nums o r j := fun i a b => by
        rcases Nat.lt_or_ge i j with q | q
        · exact hless i a (Nat.le_sub_one_of_lt q)
        · rw [Nat.le_antisymm b q]; rw [hnum] at c2; exact c2
      by_cases c3 : 1 < 2 ^ s + 1 - j
      · rw [if_pos c3]
        have c4 : j + 1 ≤ 2 ^ s := Nat.succ_le_of_lt (Nat.lt_of_succ_lt_succ (Nat.add_lt_of_lt_sub' c3))
        refine pass_ok (h' := { h with lost := true }) I hk hp aw rfl rfl rfl rfl ⟨.ask, o, r, j + 1, s⟩ rfl ⟨Nat.le_add_left _ _, c4, hless'⟩ (fun _ => ⟨fun q => (nomatch q), rfl⟩) ?_ ?_
        · show 1 + (2 * 2 ^ s - (j + 1)) + cost nums.length h ≤ 2 * 2 ^ s - j + cost nums.length h
          refine Nat.add_le_add_right ?_ _
          generalize 2 ^ s = x at c4
          clear hnum c2 c1 c3 I hp hk hless hless' aw; omega
        · show (dest nums.length _ (wayOf r), _) = (pl nums.length o r (j + 1), _)
          rw [dest_pl_succ hpos, Nat.add_sub_add_right, Nat.sub_add_comm (Nat.le_of_succ_le c4), Nat.add_sub_cancel]
      · rw [if_neg c3]
        have c4 : j = 2 ^ s := by clear hnum c2 c1 I hp hk hless hless' aw; generalize 2 ^ s = x at *; omega
        subst c4
        refine pass_ok (h' := { h with lost := true }) I hk hp aw rfl rfl rfl rfl ⟨.answer, o, r, 2 ^ s - 1, s⟩ rfl ⟨Nat.sub_lt h2 Nat.one_pos, hless'⟩ (fun _ => ⟨fun q => (nomatch q), rfl⟩) ?_ ?_
        · show 1 + (2 ^ s - 1) + cost nums.length h ≤ 2 * 2 ^ s - 2 ^ s + cost nums.length h
          refine Nat.add_le_add_right ?_ _
          generalize 2 ^ s = x at h2
          clear hnum c2 c1 c3 I hp hk hless hless' aw; omega
        · show (dest nums.length _ (-wayOf r), _) = (pl nums.length o r (2 ^ s - 1), _)
          have := dest_pl_pred hpos o r (2 ^ s - 1)
          rw [Nat.sub_add_cancel h2] at this
          rw [this]
    · rw [if_neg c2]
      cases c3 : h.won with
      | true => rw [if_pos rfl]; exact drop_ok I hk hp aw
      | false =>
        rw [if_neg Bool.false_ne_true]
        have heq : h.num = nmAt nums o := Int.le_antisymm (Int.not_lt.mp c1) (Int.not_lt.mp c2)
        have hop : o = pl nums.length o r j := nm_inj I.nodup ho (I.lt hp) (by rw [← heq, hnum])
        refine pass_ok (h' := { h with won := true, top := some h.num }) I hk hp aw rfl rfl rfl rfl ⟨.crown, o, true, 1, 0⟩ rfl ⟨Nat.le_refl _, hpos⟩ (fun q => absurd rfl q) ?_ ?_
        · unfold cost
          rw [c3]
          show 1 + (nums.length - 1) + (_ + 0) ≤ _ + (_ + nums.length)
          rw [Nat.add_comm 1, Nat.sub_add_cancel hpos, Nat.add_zero, Nat.add_comm]
          exact Nat.le_add_left _ _
        · show (dest nums.length _ (wayOf true), _) = (pl nums.length o true 1, _)
          rw [← hop, dest_one, heq]

theorem answerCame_own {h : Hnd} {l : Ltr} {s : Nat} (hst : h.stage = some s) (hn : l.num = h.num) (hl : l.stage = s) :
    h.answerCame l = if h.had + 1 ≠ 2 ∨ h.lost = true then ({ h with had := h.had + 1 }, []) else ({ h with stage := some (s + 1), far := h.far + h.far, had := 0 }, [⟨1, .ask, h.num, s + 1, h.far + h.far⟩, ⟨-1, .ask, h.num, s + 1, h.far + h.far⟩]) := by
  obtain ⟨num, stage, far, had, lost, won, top⟩ := h
  dsimp only at hst hn
  subst hst
  unfold Hnd.answerCame
  dsimp only
  rw [if_neg fun q => q hn, if_neg fun q => q hl]
theorem own_ok (I : GInv nums hs ms many) {o : Nat} {r : Bool} {j s : Nat} (hk : ms[k]? = some ⟨.answer, o, r, j, s⟩) (hp : hs[o]? = some h) (hst : h.stage = some s) (hl : 2 ^ s < nums.length) :
    Leads nums hs ms many k o (if h.had + 1 ≠ 2 ∨ h.lost = true then ({ h with had := h.had + 1 }, []) else ({ h with stage := some (s + 1), far := h.far + h.far, had := 0 }, [⟨1, .ask, h.num, s + 1, h.far + h.far⟩, ⟨-1, .ask, h.num, s + 1, h.far + h.far⟩])) := by
  have H := I.hand o h hp
  have ht := I.tok o h hp
  have hce : ∀ o', _ := fun o' => count_erase (f := GM.isTok o') hk
  have h1 := hce o
  rw [show GM.isTok o ⟨.answer, o, r, j, s⟩ = true from isTok_iff.mpr ⟨fun q => (nomatch q), rfl⟩] at h1
  replace h1 : (ms.eraseIdx k).countP (GM.isTok o) + 1 = ms.countP (GM.isTok o) := h1
  have hse := sum_erase (f := credit nums.length) hk
  by_cases c : h.had + 1 ≠ 2 ∨ h.lost = true
  · rw [if_pos c]
    refine ⟨[], inv_turn I hp (fun _ q => List.mem_of_mem_eraseIdx q) ⟨H.num, fun q => (by rw [show _ = h.stage from rfl, hst] at q; cases q), H.far, H.past⟩ (.inl rfl) (fun _ q => (nomatch q)) (fun o' _ => ?_) ?_ ?_, rfl⟩
    · rw [← hce o']; exact Nat.le_add_right _ _
    · show (ms.eraseIdx k).countP (GM.isTok o) + 0 + (h.had + 1) ≤ 2
      clear hce hse c; omega
    · rw [← hse, List.length_nil, List.map_nil, List.sum_nil, Nat.zero_add, Nat.zero_add]
      exact Nat.add_le_add_right (Nat.le_add_right _ _) _
  · rw [if_neg c]
    have c1 : h.had + 1 = 2 := Classical.byContradiction fun q => c (.inl q)
    have hc0 : (ms.eraseIdx k).countP (GM.isTok o) = 0 := by clear hce hse c; omega
    have hfar := H.far s hst
    refine ⟨[⟨.ask, o, true, 1, s + 1⟩, ⟨.ask, o, false, 1, s + 1⟩], inv_turn I hp (fun _ q => List.mem_of_mem_eraseIdx q) ⟨H.num, fun q => (nomatch q), fun s' q => ?_, fun s' q => ?_⟩ (.inr hc0) (two_asks o (s + 1) (I.lt hp) ((get_set (lt_of_get hp)).mpr (.inl ⟨rfl, rfl⟩)) rfl) (fun o' e => ?_) ?_ ?_, ?_⟩
    · cases q
      show h.far + h.far = _
      rw [hfar, two_pow_succ]
    · cases q; exact hl
    · rw [two_tok e, ← hce o']; exact Nat.le_add_right _ _
    · rw [hc0, Nat.zero_add]; exact two_tok_le
    · rw [← hse]
      unfold cost
      rw [hst]
      show 2 + (2 * 2 ^ (s + 1) - 1 + (2 * 2 ^ (s + 1) - 1 + 0)) + _ + (8 * 2 ^ s + _) ≤ _ + j + (8 * 2 ^ (s + 1) + _)
      rw [two_pow_succ]
      have := two_pow_pos s
      generalize 2 ^ s = x, (List.map (credit nums.length) (ms.eraseIdx k)).sum = y, (if h.won = true then nums.length else 0) = z at *
      clear hce hse c H I hp hk hst ht h1 hc0 c1 hfar hl
      omega
    · show [(dest nums.length o (wayOf true), _), (dest nums.length o (wayOf false), _)] = [(pl nums.length o true 1, _), (pl nums.length o false 1, _)]
      rw [dest_one, dest_one, hfar, H.num, ← two_pow_succ]
      rfl
theorem answer_ok (I : GInv nums hs ms many) {o : Nat} {r : Bool} {j s : Nat} (hk : ms[k]? = some ⟨.answer, o, r, j, s⟩) (hp : hs[pl nums.length o r j]? = some h) (aw : h.stage ≠ none) :
    Leads nums hs ms many k (pl nums.length o r j) (h.answerCame ⟨-wayOf r, .answer, nmAt nums o, s, 0⟩) := by
  obtain ⟨ho, ⟨hj, hless⟩, hlive⟩ := I.mail _ (List.mem_of_getElem? hk)
  dsimp only at ho hj hless hlive
  have hnum := (I.hand _ h hp).num
  by_cases c1 : nmAt nums o = h.num
  · have hop : o = pl nums.length o r j := nm_inj I.nodup ho (I.lt hp) (c1.trans hnum)
    rw [← hop] at hp ⊢
    obtain ⟨y, hy, hst⟩ := hlive fun q => (nomatch q)
    rw [hp] at hy; cases hy
    rw [answerCame_own hst c1 rfl]
    exact own_ok I hk hp hst (hless.lt ho)
  · unfold Hnd.answerCame
    dsimp only
    rw [if_pos c1]
    have hj0 : 1 ≤ j := Nat.pos_of_ne_zero fun e => c1 (by rw [hnum, e, pl_zero r ho])
    refine pass_ok I hk hp aw rfl rfl rfl rfl ⟨.answer, o, r, j - 1, s⟩ rfl ⟨Nat.lt_of_le_of_lt (Nat.sub_le _ _) hj, hless⟩ (fun _ => ⟨fun q => (nomatch q), rfl⟩) ?_ ?_
    · show 1 + (j - 1) + cost nums.length h ≤ j + cost nums.length h
      rw [Nat.add_comm 1, Nat.sub_add_cancel hj0]; exact Nat.le_refl _
    · show (dest nums.length _ (-wayOf r), _) = (pl nums.length o r (j - 1), _)
      have := dest_pl_pred I.pos o r (j - 1)
      rw [Nat.sub_add_cancel hj0] at this
      rw [this]
theorem crown_ok (I : GInv nums hs ms many) {o : Nat} {r : Bool} {j s : Nat} (hk : ms[k]? = some ⟨.crown, o, r, j, s⟩) (hp : hs[pl nums.length o true j]? = some h) (aw : h.stage ≠ none) :
    Leads nums hs ms many k (pl nums.length o true j) (h.crownCame ⟨1, .crown, nmAt nums o, 0, 0⟩) := by
  obtain ⟨ho, ⟨hj1, hj2⟩, _⟩ := I.mail _ (List.mem_of_getElem? hk)
  dsimp only at ho hj1 hj2
  have hnum := (I.hand _ h hp).num
  unfold Hnd.crownCame
  dsimp only
  by_cases c1 : nmAt nums o = h.num
  · rw [if_pos c1]
    exact drop_ok I hk hp aw
  · rw [if_neg c1]
    have hjn : j + 1 ≤ nums.length := Nat.lt_of_le_of_ne hj2 fun e => c1 (by rw [hnum, e, pl_self o true ho])
    refine pass_ok (h' := { h with top := some (nmAt nums o) }) I hk hp aw rfl rfl rfl rfl ⟨.crown, o, true, j + 1, 0⟩ rfl ⟨Nat.le_add_left _ _, hjn⟩ (fun q => absurd rfl q) ?_ ?_
    · show 1 + (nums.length - (j + 1)) + cost nums.length h ≤ nums.length - j + cost nums.length h
      refine Nat.add_le_add_right ?_ _
      clear hnum c1 I hp hk aw; omega
    · show (dest nums.length _ (wayOf true), _) = (pl nums.length o true (j + 1), _)
      rw [dest_pl_succ I.pos]
theorem came_ok (I : GInv nums hs ms many) (hk : ms[k]? = some m) (hp : hs[(m.mail nums).1]? = some h) (aw : h.stage ≠ none) :
    Leads nums hs ms many k (m.mail nums).1 (h.came (m.mail nums).2) := by
  obtain ⟨kd, o, r, j, s⟩ := m
  cases kd with
  | ask => exact ask_ok I hk hp aw
  | answer => exact answer_ok I hk hp aw
  | crown => exact crown_ok I hk hp aw

def Good (nums : List Int) (R : Rng) : Prop := ∃ ms, GInv nums R.hands ms R.many ∧ R.road = ms.map (GM.mail nums)
def Rng.start (nums : List Int) : Rng := ⟨nums.map fun x => { num := x }, [], 0⟩
theorem good_start (h0 : 0 < nums.length) (hn : nums.Nodup) : Good nums (Rng.start nums) := by
  have hget : ∀ {i : Nat} {h : Hnd}, (Rng.start nums).hands[i]? = some h → h = { num := nmAt nums i } := by
    intro i h hh
    replace hh : (nums.map fun x => ({ num := x } : Hnd))[i]? = some h := hh
    rw [List.getElem?_map, Option.map_eq_some_iff] at hh
    obtain ⟨a, ha, rfl⟩ := hh
    rw [nmAt, List.getD_eq_getElem?_getD, ha]; rfl
  refine ⟨[], ⟨h0, hn, List.length_map _, fun i h hh => ?_, fun i h hh => ?_, fun _ q => (nomatch q), Nat.zero_le _⟩, rfl⟩
  · rw [hget hh]
    exact ⟨rfl, fun _ => rfl, fun _ q => (nomatch q), fun _ q => (nomatch q)⟩
  · rw [hget hh]; exact Nat.zero_le _
theorem wake_awake (aw : h.stage ≠ none) : h.wake = (h, []) := by
  unfold Hnd.wake
  cases e : h.stage with
  | none => exact absurd e aw
  | some s => rfl
theorem wake_asleep (as : h.stage = none) : h.wake = ({ h with stage := some 0 }, h.asks 0) := by
  unfold Hnd.wake
  rw [as]
theorem set_same {hs : List Hnd} (hp : hs[p]? = some h) : hs.set p h = hs := by
  obtain ⟨q1, q2⟩ := List.getElem?_eq_some_iff.mp hp
  rw [← q2]; exact List.set_getElem_self q1
theorem good_wake (G : Good nums R) (p : Nat) : Good nums (R.wake p) := by
  unfold Rng.wake
  cases hp : R.hands[p]? with
  | none => exact G
  | some h =>
    dsimp only
    obtain ⟨ms, I, hr⟩ := G
    cases hst : h.stage with
    | some s =>
      rw [wake_awake (by rw [hst]; exact fun q => (nomatch q))]
      refine ⟨ms, ?_, ?_⟩
      · show GInv nums (R.hands.set p h) ms (R.many + 0)
        rw [set_same hp]; exact I
      · show R.road ++ [] = _
        rw [List.append_nil, hr]
    | none =>
      rw [wake_asleep hst]
      refine ⟨_, inv_wake I hp hst, ?_⟩
      have hd := (I.hand p h hp).asleep hst
      rw [List.map_append, ← hr]
      show R.road ++ [(dest (R.hands.set p _).length p (wayOf true), _), (dest (R.hands.set p _).length p (wayOf false), _)] = R.road ++ [(pl nums.length p true 1, _), (pl nums.length p false 1, _)]
      rw [List.length_set, I.len, dest_one, dest_one, hd]
      rfl
theorem wake_stage (h : Hnd) : h.wake.1.stage ≠ none := by
  unfold Hnd.wake
  cases e : h.stage with
  | none => exact fun q => (nomatch q)
  | some s => dsimp only; rw [e]; exact fun q => (nomatch q)
theorem map_eraseIdx {α β : Type} (f : α → β) (l : List α) (k : Nat) : (l.map f).eraseIdx k = (l.eraseIdx k).map f := by
  induction l generalizing k with
  | nil => rfl
  | cons x xs ih => cases k with
    | zero => rfl
    | succ k => exact congrArg (List.cons (f x)) (ih k)
theorem good_bring (G : Good nums R) (k : Nat) : Good nums (R.bring k) := by
  unfold Rng.bring
  cases hk : R.road[k]? with
  | none => exact G
  | some pl0 =>
    obtain ⟨p, l⟩ := pl0
    dsimp only
    cases hp : R.hands[p]? with
    | none => exact G
    | some h =>
      dsimp only
      -- wake first
      have GW := good_wake G p
      unfold Rng.wake at GW
      rw [hp] at GW
      obtain ⟨ms, I, hr⟩ := GW
      replace I : GInv nums (R.hands.set p h.wake.1) ms (R.many + h.wake.2.length) := I
      replace hr : R.road ++ h.wake.2.map (fun l => (dest (R.hands.set p h.wake.1).length p l.way, l)) = ms.map (GM.mail nums) := hr
      have hlt := lt_of_get hp
      have hkl : k < R.road.length := (List.getElem?_eq_some_iff.mp hk).1
      have hk' : (ms.map (GM.mail nums))[k]? = some (p, l) := by
        rw [← hr, List.getElem?_append_left hkl]; exact hk
      rw [List.getElem?_map, Option.map_eq_some_iff] at hk'
      obtain ⟨m, hm, hml⟩ := hk'
      obtain ⟨new, I', hnew⟩ := came_ok I hm (h := h.wake.1) (by rw [hml]; exact (get_set hlt).mpr (.inl ⟨rfl, rfl⟩)) (wake_stage h)
      rw [hml] at I' hnew
      replace I' : GInv nums ((R.hands.set p h.wake.1).set p (h.wake.1.came l).1) (ms.eraseIdx k ++ new) (R.many + h.wake.2.length + new.length) := I'
      replace hnew : (h.wake.1.came l).2.map (fun l => (dest nums.length p l.way, l)) = new.map (GM.mail nums) := hnew
      rw [List.set_set] at I'
      have hlen : R.hands.length = nums.length := List.length_set.symm.trans I.len
      have hl := congrArg List.length hnew
      rw [List.length_map, List.length_map] at hl
      refine ⟨ms.eraseIdx k ++ new, ?_, ?_⟩
      · show GInv nums (R.hands.set p (h.wake.1.came l).1) (ms.eraseIdx k ++ new) (R.many + (h.wake.2 ++ (h.wake.1.came l).2).length)
        rw [List.length_append, hl, ← Nat.add_assoc]; exact I'
      · show R.road.eraseIdx k ++ (h.wake.2 ++ (h.wake.1.came l).2).map (fun l' => (dest (R.hands.set p (h.wake.1.came l).1).length p l'.way, l')) = _
        rw [List.length_set, hlen] at hr ⊢
        rw [List.map_append, List.map_append, ← hnew, ← List.append_assoc, ← map_eraseIdx, ← hr, List.eraseIdx_append_of_lt_length hkl]

theorem Good.len (G : Good nums R) : R.hands.length = nums.length := let ⟨_, I, _⟩ := G; I.len
theorem Good.pos (G : Good nums R) : 0 < nums.length := let ⟨_, I, _⟩ := G; I.pos
theorem Good.stage (G : Good nums R) (hp : R.hands[p]? = some h) {s : Nat} (hs : h.stage = some (s + 1)) : 2 ^ s < nums.length ∧ True := let ⟨_, I, _⟩ := G; ⟨(I.hand p h hp).past s hs, trivial⟩

/-- what the ring's contracts carry for other laws; 05 needs none of it -/
def Rng.Le (_ _ : Rng) : Prop := True
theorem Rng.Le.refl (R : Rng) : R.Le R := trivial
theorem Rng.Le.trans {a b c : Rng} (_ : a.Le b) (_ : b.Le c) : a.Le c := trivial
theorem Rng.bring_le (R : Rng) (k : Nat) : R.Le (R.bring k) := trivial
theorem Good.mail (G : Good nums R) {p : Nat} {l : Ltr} (hk : R.road[k]? = some (p, l)) : ∃ h, R.hands[p]? = some h ∧ h.num = nmAt nums p ∧ (l.word = .ask → 1 ≤ l.steps) ∧
    (l.word = .answer → l.num = nmAt nums p → h.stage = some l.stage) := by
  obtain ⟨ms, I, hr⟩ := G
  rw [hr, List.getElem?_map, Option.map_eq_some_iff] at hk
  obtain ⟨m, hm, hml⟩ := hk
  obtain ⟨ho, hpt, hlv⟩ := I.mail _ (List.mem_of_getElem? hm)
  obtain rfl : (m.mail nums).1 = p := congrArg Prod.fst hml
  obtain rfl : (m.mail nums).2 = l := congrArg Prod.snd hml
  clear hml hm hr
  obtain ⟨kd, o, r, j, s⟩ := m
  have hpn : (GM.mail nums ⟨kd, o, r, j, s⟩).1 < nums.length := by
    cases kd
    · exact pl_lt I.pos o r j
    · exact pl_lt I.pos o r j
    · exact pl_lt I.pos o true j
  obtain ⟨h, hh⟩ : ∃ h, R.hands[(GM.mail nums ⟨kd, o, r, j, s⟩).1]? = some h := ⟨_, List.getElem?_eq_getElem (Nat.lt_of_lt_of_eq hpn I.len.symm)⟩
  refine ⟨_, hh, (I.hand _ _ hh).num, fun e => ?_, fun e en => ?_⟩
  · cases kd with
    | ask => exact Nat.le_sub_of_add_le (Nat.le_trans (Nat.le_of_eq (Nat.add_comm _ _)) (Nat.add_le_add_right hpt.2.1 1))
    | answer => exact nomatch e
    | crown => exact nomatch e
  · cases kd with
    | ask => exact nomatch e
    | crown => exact nomatch e
    | answer =>
      obtain ⟨y, hy, hs⟩ := hlv fun q => (nomatch q)
      have hop : o = _ := nm_inj I.nodup ho hpn en
      rw [← hop] at hh
      exact (congrArg Hnd.stage (Option.some.inj (hh.symm.trans hy))).trans hs
theorem count_lemma {M y x : Nat} (hk : 0 < y) (hc : y ≤ M) : y - 1 + x ≤ M + x ∧ M + x - (y - 1 + x) = M - y + 1 := by
  cases y with
  | zero => exact absurd hk (Nat.lt_irrefl 0)
  | succ z =>
  rw [Nat.add_sub_cancel, Nat.add_sub_add_right]
  exact ⟨Nat.add_le_add_right (Nat.le_of_succ_le hc) _, (Nat.sub_add_cancel (Nat.sub_pos_of_lt hc)).symm⟩
theorem Good.bring_count (G : Good nums R) (hk : k < R.road.length) (hc : R.road.length ≤ R.many) :
    (R.bring k).road.length ≤ (R.bring k).many ∧ (R.bring k).many - (R.bring k).road.length = R.many - R.road.length + 1 := by
  obtain ⟨⟨p, l⟩, e⟩ : ∃ x, R.road[k]? = some x := ⟨R.road[k], List.getElem?_eq_getElem _⟩
  obtain ⟨h, hh, _⟩ := G.mail e
  have eq : R.bring k = ({ R with hands := R.hands.set p (h.take l).1, road := R.road.eraseIdx k } : Rng).post p (h.take l).2 := by unfold Rng.bring; rw [e]; dsimp only; rw [hh]
  rw [eq]
  show (R.road.eraseIdx k ++ (h.take l).2.map _).length ≤ R.many + (h.take l).2.length ∧ R.many + (h.take l).2.length - (R.road.eraseIdx k ++ (h.take l).2.map _).length = _
  rw [List.length_append, List.length_map, List.length_eraseIdx, if_pos hk]
  exact count_lemma (Nat.lt_of_le_of_lt (Nat.zero_le _) hk) hc

def bnd (n : Nat) : Nat := n * (512 + n)
theorem sum_most {f : Hnd → Nat} {c : Nat} : ∀ {l : List Hnd}, (∀ h ∈ l, f h ≤ c) → (l.map f).sum ≤ l.length * c
  | [], _ => Nat.zero_le _
  | x :: l, q => by
    rw [List.map_cons, List.sum_cons, List.length_cons, Nat.succ_mul, Nat.add_comm]
    exact Nat.add_le_add (sum_most fun h hh => q h (.tail _ hh)) (q x (.head _))
theorem Good.bound (G : Good nums R) (h64 : nums.length ≤ 64) : R.many ≤ bnd nums.length := by
  obtain ⟨ms, I, _⟩ := G
  refine Nat.le_trans (Nat.le_add_right _ _) (Nat.le_trans I.pot ?_)
  unfold bnd
  rw [← I.len]
  refine sum_most fun h hh => ?_
  obtain ⟨i, hi, e⟩ := List.getElem_of_mem hh
  have H := I.hand i h (by rw [List.getElem?_eq_getElem hi, e])
  rw [I.len]
  unfold cost
  refine Nat.add_le_add ?_ (by split; exact Nat.le_refl _; exact Nat.zero_le _)
  cases hs : h.stage with
  | none => exact Nat.zero_le _
  | some s =>
    have hs6 : s ≤ 6 := by
      cases s with
      | zero => exact Nat.zero_le _
      | succ s => exact (Nat.pow_lt_pow_iff_right (a := 2) (n := s) (m := 6) (by decide)).mp (Nat.lt_of_lt_of_le (H.past s hs) h64)
    exact Nat.mul_le_mul_left 8 (Nat.pow_le_pow_right (by decide) hs6)
end Mine

namespace Mine
/-! ## 05: the law's own picture of a hand (A10 without what 02 alone needs) -/
structure LSt where
  num : Int
  awake : Bool := false
  beaten : Bool := false
  first : Bool := false
  stage : Nat := 0
  came : Nat := 0
  known : Option Int := none
def LSt.asks (s : LSt) : List Ltr := [⟨1, .ask, s.num, s.stage, 2 ^ s.stage⟩, ⟨-1, .ask, s.num, s.stage, 2 ^ s.stage⟩]
def LSt.woken (s : LSt) : LSt × List Ltr := if s.awake then (s, []) else ({ s with awake := true }, s.asks)
/-- what came of a letter: the state, what is put to the passed ones, the letters sent -/
def LSt.got (s : LSt) (l : Ltr) : LSt × List Ltr × List Ltr :=
  match l.word with
  | .ask =>
    if l.num = s.num ∧ s.first = false then ({ s with first := true, known := some l.num }, [], [⟨1, .crown, l.num, 0, 0⟩])
    else if s.num < l.num then
      if l.steps = 1 then ({ s with beaten := true }, [], [⟨-l.way, .answer, l.num, l.stage, 0⟩])
      else ({ s with beaten := true }, [], [⟨l.way, .ask, l.num, l.stage, l.steps - 1⟩])
    else (s, [], [])
  | .answer =>
    if l.num = s.num then
      if s.came + 1 = 2 ∧ s.beaten = false then ({ s with came := 0, stage := l.stage + 1 }, [], ({ s with came := 0, stage := l.stage + 1 } : LSt).asks)
      else ({ s with came := s.came + 1 }, [], [])
    else (s, [], [l])
  | .crown => if l.num = s.num then (s, [], []) else ({ s with known := some l.num }, [], [l])
def LSt.taken (s : LSt) (l : Ltr) : LSt × List Ltr × List Ltr := ((s.woken.1.got l).1, (s.woken.1.got l).2.1, s.woken.2 ++ (s.woken.1.got l).2.2)
/-- the hand and its picture -/
structure Sim (h : Hnd) (s : LSt) : Prop where
  num : h.num = s.num
  stage : h.stage = if s.awake then some s.stage else none
  low : s.awake = false → s.stage = 0
  far : h.far = 2 ^ s.stage
  had : h.had = s.came
  lost : h.lost = s.beaten
  won : h.won = s.first
  top : h.top = s.known
theorem Sim.woken {h : Hnd} {s : LSt} (S : Sim h s) : Sim h.wake.1 s.woken.1 ∧ h.wake.2 = s.woken.2 ∧ s.woken.1.awake = true := by
  unfold Hnd.wake LSt.woken
  cases ha : s.awake with
  | true =>
    have e := S.stage
    rw [ha, if_pos rfl] at e
    rw [e, if_pos rfl]
    exact ⟨S, rfl, ha⟩
  | false =>
    have e := S.stage
    rw [ha, if_neg (by decide)] at e
    rw [e, if_neg (by decide)]
    refine ⟨⟨S.num, ?_, fun q => (by cases q), S.far, S.had, S.lost, S.won, S.top⟩, ?_, rfl⟩
    · show some 0 = some s.stage
      rw [S.low ha]
    · show h.asks 0 = s.asks
      unfold Hnd.asks LSt.asks
      rw [S.num, S.far, S.low ha]
/-- a letter that a ring's hands may have sent -/
structure Fair (s : LSt) (l : Ltr) : Prop where
  ask : l.word = .ask → 1 ≤ l.steps
  answer : l.word = .answer → l.num = s.num → l.stage = s.stage
theorem Sim.got {h : Hnd} {s : LSt} (S : Sim h s) (ha : s.awake = true) {l : Ltr} (F : Fair s l) : Sim (h.came l).1 (s.got l).1 ∧ (h.came l).2 = (s.got l).2.2 := by
  have S0 := S
  obtain ⟨hn, hst, hlow, hfar, hhad, hlost, hwon, htop⟩ := S
  rw [ha, if_pos rfl] at hst
  have low : ∀ {x : LSt}, x.awake = true → x.awake = false → x.stage = 0 := fun a b => by rw [a] at b; cases b
  obtain ⟨hnum, hstage, hfr, hhd, hls, hwn, htp⟩ := h
  dsimp only at hn hst hfar hhad hlost hwon htop
  subst hn hst hfar hhad hlost hwon htop
  unfold Hnd.came LSt.got
  cases hw : l.word with
  | ask =>
    dsimp only
    have h1 := F.ask hw
    unfold Hnd.askCame
    dsimp only
    by_cases q1 : l.num < s.num
    · have q2 : ¬ (l.num = s.num ∧ s.first = false) := fun q => by omega
      have q3 : ¬ s.num < l.num := by omega
      rw [if_pos q1, if_neg q2, if_neg q3]
      exact ⟨S0, rfl⟩
    · rw [if_neg q1]
      by_cases q2 : s.num < l.num
      · have q4 : ¬ (l.num = s.num ∧ s.first = false) := fun q => by omega
        rw [if_neg q4, if_pos q2, if_pos q2]
        by_cases q3 : l.steps = 1
        · have q5 : ¬ 1 < l.steps := by omega
          rw [if_neg q5, if_pos q3]
          exact ⟨⟨rfl, by show some s.stage = _; rw [show _ = s.awake from rfl, ha]; rfl, low ha, rfl, rfl, rfl, rfl, rfl⟩, rfl⟩
        · have q5 : 1 < l.steps := by omega
          rw [if_pos q5, if_neg q3]
          exact ⟨⟨rfl, by show some s.stage = _; rw [show _ = s.awake from rfl, ha]; rfl, low ha, rfl, rfl, rfl, rfl, rfl⟩, rfl⟩
      · have q4 : l.num = s.num := by omega
        rw [if_neg q2]
        cases hf : s.first with
        | true =>
          have q5 : ¬ (l.num = s.num ∧ true = false) := fun q => by cases q.2
          rw [if_pos rfl, if_neg q5, if_neg q2]
          exact ⟨by rw [← hf]; exact S0, rfl⟩
        | false =>
          have q5 : l.num = s.num ∧ false = false := ⟨q4, rfl⟩
          rw [if_neg (show ¬ false = true by decide), if_pos q5]
          exact ⟨⟨rfl, by show some s.stage = _; rw [show _ = s.awake from rfl, ha]; rfl, low ha, rfl, rfl, rfl, rfl, by show some s.num = some l.num; rw [q4]⟩, by rw [q4]⟩
  | answer =>
    dsimp only
    unfold Hnd.answerCame
    dsimp only
    by_cases q1 : l.num = s.num
    · have q0 : ¬ l.num ≠ s.num := fun q => q q1
      rw [if_neg q0, if_pos q1]
      have e2 := F.answer hw q1
      have q3 : ¬ l.stage ≠ s.stage := fun q => q e2
      rw [if_neg q3]
      by_cases q2 : s.came + 1 = 2 ∧ s.beaten = false
      · have q4 : ¬ (s.came + 1 ≠ 2 ∨ s.beaten = true) := fun q => by
          rcases q with q | q
          · exact q q2.1
          · rw [q2.2] at q; cases q
        rw [if_neg q4, if_pos q2]
        have ef : 2 ^ s.stage + 2 ^ s.stage = 2 ^ (s.stage + 1) := by rw [Nat.pow_succ]; omega
        refine ⟨⟨rfl, ?_, low ha, ?_, rfl, rfl, rfl, rfl⟩, ?_⟩
        · show some (s.stage + 1) = if s.awake = true then some (l.stage + 1) else none
          rw [ha, if_pos rfl, e2]
        · show 2 ^ s.stage + 2 ^ s.stage = 2 ^ (l.stage + 1)
          rw [e2, ef]
        · unfold LSt.asks
          dsimp only
          rw [e2, ef]
      · have q4 : s.came + 1 ≠ 2 ∨ s.beaten = true := by
          by_cases y : s.came + 1 = 2
          · right
            cases hb : s.beaten with
            | true => rfl
            | false => exact absurd ⟨y, hb⟩ q2
          · exact .inl y
        rw [if_pos q4, if_neg q2]
        exact ⟨⟨rfl, by show some s.stage = _; rw [show _ = s.awake from rfl, ha]; rfl, low ha, rfl, rfl, rfl, rfl, rfl⟩, rfl⟩
    · rw [if_pos q1, if_neg q1]
      exact ⟨S0, rfl⟩
  | crown =>
    dsimp only
    unfold Hnd.crownCame
    dsimp only
    by_cases q1 : l.num = s.num
    · rw [if_pos q1, if_pos q1]
      exact ⟨S0, rfl⟩
    · rw [if_neg q1, if_neg q1]
      exact ⟨⟨rfl, by show some s.stage = _; rw [show _ = s.awake from rfl, ha]; rfl, low ha, rfl, rfl, rfl, rfl, rfl⟩, rfl⟩
theorem woken_facts (s : LSt) : s.woken.1.num = s.num ∧ s.woken.1.stage = s.stage := by
  unfold LSt.woken; split <;> exact ⟨rfl, rfl⟩
theorem Sim.taken {h : Hnd} {s : LSt} (S : Sim h s) {l : Ltr} (F : Fair s l) : Sim (h.take l).1 (s.taken l).1 ∧ (h.take l).2 = (s.taken l).2.2 := by
  obtain ⟨S1, e1, a1⟩ := S.woken
  obtain ⟨w1, w2⟩ := woken_facts s
  obtain ⟨S2, e2⟩ := S1.got a1 (l := l) ⟨F.ask, fun q z => by rw [w2]; exact F.answer q (by rw [← w1]; exact z)⟩
  refine ⟨S2, ?_⟩
  show h.wake.2 ++ (h.wake.1.came l).2 = s.woken.2 ++ _
  rw [e1, e2]
end Mine

namespace Mine
/-! ## 05: the house against the ring -/
variable {nums : List Int} {R : Rng} {ss : List LSt} {p k : Nat} {h : Hnd} {s : LSt} {l : Ltr}
structure House (nums : List Int) (R : Rng) (ss : List LSt) : Prop where
  good : Good nums R
  len : ss.length = R.hands.length
  sim : ∀ (p : Nat) (h : Hnd) (s : LSt), R.hands[p]? = some h → ss[p]? = some s → Sim h s
theorem House.fair (H : House nums R ss) (hk : R.road[k]? = some (p, l)) (hp : R.hands[p]? = some h) (hs : ss[p]? = some s) : Fair s l := by
  obtain ⟨h', hp', hn, f1, f2⟩ := H.good.mail hk
  rw [hp] at hp'; cases hp'
  have S := H.sim p h s hp hs
  refine ⟨f1, fun q z => ?_⟩
  have e := f2 q (by rw [z, ← S.num, hn])
  have e2 := S.stage
  rw [e] at e2
  cases ha : s.awake with
  | true => rw [ha, if_pos rfl] at e2; exact Option.some.inj e2
  | false => rw [ha, if_neg (by decide)] at e2; cases e2
theorem House.low (H : House nums R ss) (h64 : nums.length ≤ 64) (hp : R.hands[p]? = some h) (hs : ss[p]? = some s) : s.stage ≤ 6 := by
  have S := H.sim p h s hp hs
  cases ha : s.awake with
  | false => rw [S.low ha]; exact Nat.zero_le _
  | true =>
    have e := S.stage
    rw [ha, if_pos rfl] at e
    cases q : s.stage with
    | zero => exact Nat.zero_le _
    | succ t =>
      rw [q] at e
      have := (H.good.stage hp e).1
      rcases Nat.lt_or_ge t 6 with z | z
      · omega
      · have := Nat.pow_le_pow_right (show 0 < 2 by decide) z
        omega
theorem ss_set (hs : ss[p]? = some s) (s' x : LSt) (i : Nat) : (ss.set p s')[i]? = some x → (i = p ∧ x = s') ∨ (i ≠ p ∧ ss[i]? = some x) := by
  intro e
  have hp : p < ss.length := (List.getElem?_eq_some_iff.mp hs).1
  by_cases q : i = p
  · subst q; rw [List.getElem?_set_self hp] at e; exact .inl ⟨rfl, (Option.some.inj e).symm⟩
  · rw [List.getElem?_set_ne (fun z => q z.symm)] at e; exact .inr ⟨q, e⟩
theorem House.wake (H : House nums R ss) (hp : R.hands[p]? = some h) (hs : ss[p]? = some s) : House nums (R.wake p) (ss.set p s.woken.1) ∧ (R.wake p).road = R.road ++ s.woken.2.map (fun l => (dest nums.length p l.way, l)) ∧ (R.wake p).many = R.many + s.woken.2.length ∧ h.wake.2 = s.woken.2 := by
  have S := H.sim p h s hp hs
  obtain ⟨S1, e1, a1⟩ := S.woken
  have G' := good_wake H.good p
  have eq : R.wake p = ({ R with hands := R.hands.set p h.wake.1 } : Rng).post p h.wake.2 := by unfold Rng.wake; rw [hp]
  have hlt := lt_of_get hp
  refine ⟨⟨G', ?_, fun i h' s' e e' => ?_⟩, ?_, ?_, e1⟩
  · rw [eq]; show (ss.set p _).length = (R.hands.set p _).length; rw [List.length_set, List.length_set, H.len]
  · rw [eq] at e
    replace e : (R.hands.set p h.wake.1)[i]? = some h' := e
    rcases (get_set hlt).mp e with ⟨rfl, rfl⟩ | ⟨n1, e⟩
    · rcases ss_set hs _ _ _ e' with ⟨_, rfl⟩ | ⟨n2, _⟩
      · exact S1
      · exact absurd rfl n2
    · rcases ss_set hs _ _ _ e' with ⟨q, _⟩ | ⟨_, e'⟩
      · exact absurd q n1
      · exact H.sim i h' s' e e'
  · rw [eq, e1]; show _ ++ s.woken.2.map (fun l => (dest (R.hands.set p h.wake.1).length p l.way, l)) = _
    rw [List.length_set, H.good.len]
  · rw [eq, e1]; rfl
theorem House.bring (H : House nums R ss) (hk : R.road[k]? = some (p, l)) (hp : R.hands[p]? = some h) (hs : ss[p]? = some s) : House nums (R.bring k) (ss.set p (s.taken l).1) ∧ (R.bring k).road = R.road.eraseIdx k ++ (s.taken l).2.2.map (fun l => (dest nums.length p l.way, l)) ∧ (R.bring k).many = R.many + (s.taken l).2.2.length ∧ (h.take l).2 = (s.taken l).2.2 := by
  have S := H.sim p h s hp hs
  obtain ⟨S1, e1⟩ := S.taken (H.fair hk hp hs)
  have G' := good_bring H.good k
  have eq : R.bring k = ({ R with hands := R.hands.set p (h.take l).1, road := R.road.eraseIdx k } : Rng).post p (h.take l).2 := by unfold Rng.bring; rw [hk]; dsimp only; rw [hp]
  have hlt := lt_of_get hp
  refine ⟨⟨G', ?_, fun i h' s' e e' => ?_⟩, ?_, ?_, e1⟩
  · rw [eq]; show (ss.set p _).length = (R.hands.set p _).length; rw [List.length_set, List.length_set, H.len]
  · rw [eq] at e
    replace e : (R.hands.set p (h.take l).1)[i]? = some h' := e
    rcases (get_set hlt).mp e with ⟨rfl, rfl⟩ | ⟨n1, e⟩
    · rcases ss_set hs _ _ _ e' with ⟨_, rfl⟩ | ⟨n2, _⟩
      · exact S1
      · exact absurd rfl n2
    · rcases ss_set hs _ _ _ e' with ⟨q, _⟩ | ⟨_, e'⟩
      · exact absurd q n1
      · exact H.sim i h' s' e e'
  · rw [eq, e1]; show _ ++ (s.taken l).2.2.map (fun l' => (dest (R.hands.set p (h.take l).1).length p l'.way, l')) = _
    rw [List.length_set, H.good.len]
  · rw [eq, e1]; rfl
theorem House.start (h0 : 0 < nums.length) (hn : nums.Nodup) : House nums (Rng.start nums) (nums.map fun x => { num := x }) := by
  refine ⟨good_start h0 hn, ?_, fun i h s e e' => ?_⟩
  · show (nums.map _).length = (nums.map _).length; rw [List.length_map, List.length_map]
  · replace e : (nums.map fun x => ({ num := x } : Hnd))[i]? = some h := e
    rw [List.getElem?_map, Option.map_eq_some_iff] at e e'
    obtain ⟨x, e, rfl⟩ := e
    obtain ⟨y, e', rfl⟩ := e'
    rw [e] at e'; cases e'
    exact ⟨rfl, rfl, fun _ => rfl, rfl, rfl, rfl, rfl, rfl⟩
/-- what _law_came does is what bring does, and then all that rest does -/
theorem House.at (H : House nums R ss) (hp : p < nums.length) : ∃ h s, R.hands[p]? = some h ∧ ss[p]? = some s := by
  have l1 := H.good.len
  have l2 := H.len
  exact ⟨R.hands[p]'(by omega), ss[p]'(by omega), List.getElem?_eq_getElem _, List.getElem?_eq_getElem _⟩
end Mine

namespace Mine
/-- no more than four letters come of one -/
theorem taken_len (s : LSt) (l : Ltr) : (s.taken l).2.2.length ≤ 4 := by
  have w3 : s.woken.2.length ≤ 2 := by
    unfold LSt.woken
    split
    · exact Nat.zero_le _
    · exact Nat.le_refl _
  have key : ∀ t : LSt, (t.got l).2.2.length ≤ 2 := by
    intro t
    unfold LSt.got
    cases l.word with
    | ask =>
      dsimp only
      split
      · exact Nat.le_of_ble_eq_true rfl
      · split
        · split
          · exact Nat.le_of_ble_eq_true rfl
          · exact Nat.le_of_ble_eq_true rfl
        · exact Nat.zero_le _
    | answer =>
      dsimp only
      split
      · split
        · exact Nat.le_refl 2
        · exact Nat.zero_le _
      · exact Nat.le_of_ble_eq_true rfl
    | crown =>
      dsimp only
      split
      · exact Nat.zero_le _
      · exact Nat.le_of_ble_eq_true rfl
  show (s.woken.2 ++ (s.woken.1.got l).2.2).length ≤ 4
  rw [List.length_append]
  exact Nat.add_le_add w3 (key _)
end Mine

namespace Mine
/-! ## 05: bringing the first mail, again and again -/
def iterB : Nat → Rng → Rng
  | 0, R => R
  | k + 1, R => (iterB k R).bring 0
theorem bring_stay {R : Rng} (h : R.road = []) : R.bring 0 = R := by
  unfold Rng.bring
  rw [h]
  rfl
theorem iterB_stay {R : Rng} {k : Nat} (h : (iterB k R).road = []) : ∀ d, iterB (k + d) R = iterB k R
  | 0 => rfl
  | d + 1 => by
    show (iterB (k + d) R).bring 0 = _
    rw [iterB_stay h d]
    exact bring_stay h
theorem iterB_end {R : Rng} {k j : Nat} (hk : (iterB k R).road = []) (hj : (iterB j R).road = []) : iterB k R = iterB j R := by
  rcases Nat.le_total k j with q | q
  · have := iterB_stay hk (j - k)
    rw [show k + (j - k) = j by omega] at this
    exact this.symm
  · have := iterB_stay hj (k - j)
    rw [show j + (k - j) = k by omega] at this
    exact this
theorem rest_dec {B M r M' r' : Nat} (c2 : M' - r' = M - r + 1) (hb : M' ≤ B) : B - (M' - r') < B - (M - r) := by
  rw [c2]
  have h : M - r + 1 ≤ B := by rw [← c2]; exact Nat.le_trans (Nat.sub_le _ _) hb
  exact Nat.sub_succ_lt_self _ _ h
theorem rest_cnt {M r M' r' : Nat} {x z : Int} (c0 : r ≤ M) (c1 : r' ≤ M') (c2 : M' - r' = M - r + 1) (ex : x = (M : Int) - r - z) : x + 1 = (M' : Int) - r' - z := by omega
end Mine

open PySem PySem.W PySem.Calls PyProof.Rows
namespace Mine

/-! ## the known part of the heap -/
abbrev Store := Addr → Option Obj
abbrev Loc := Str → Option Value

def St (h₀ : Heap) (L : Addr) (h : Heap) (σ : Store) : Prop := ∀ a o, σ a = some o → h.get? a = some o ∧ a ≠ L ∧ h₀.get? a = none
def upd (σ : Store) (a : Addr) (o : Obj) : Store := fun b => if b = a then some o else σ b
theorem upd_same {σ : Store} {a : Addr} {o : Obj} : upd σ a o a = some o := if_pos rfl
theorem upd_ne {σ : Store} {a b : Addr} {o : Obj} (h : b ≠ a) : upd σ a o b = σ b := if_neg h
/-- one store holds all that another one holds -/
def Sub (σ τ : Store) : Prop := ∀ a o, σ a = some o → τ a = some o
theorem Sub.refl (σ : Store) : Sub σ σ := fun _ _ e => e
theorem Sub.trans {σ τ υ : Store} (h : Sub σ τ) (k : Sub τ υ) : Sub σ υ := fun a o e => k a o (h a o e)
theorem sub_upd {σ : Store} {a : Addr} {o : Obj} (h : σ a = none) : Sub σ (upd σ a o) := fun b x e => by
  by_cases q : b = a
  · subst q; rw [h] at e; cases e
  · rw [upd_ne q]; exact e
def lst (σ : Store) (n : Nat) : List (Addr × Obj) := (List.range n).filterMap fun a => (σ a).map fun o => (a, o)
theorem mem_lst {σ : Store} {n : Nat} {p : Addr × Obj} : p ∈ lst σ n ↔ p.1 < n ∧ σ p.1 = some p.2 := by
  unfold lst
  rw [List.mem_filterMap]
  constructor
  · rintro ⟨a, ha, e⟩
    rw [Option.map_eq_some_iff] at e
    obtain ⟨o, ho, rfl⟩ := e
    exact ⟨List.mem_range.mp ha, ho⟩
  · rintro ⟨h1, h2⟩
    exact ⟨p.1, List.mem_range.mpr h1, by rw [h2]; rfl⟩
theorem St.news {h₀ h : Heap} {L : Addr} {σ : Store} (S : St h₀ L h σ) (n : Nat) : News h₀ L h (lst σ n) := fun p hp => S p.1 p.2 (mem_lst.mp hp).2
theorem St.of_news {h₀ h : Heap} {L : Addr} {σ : Store} {news : List (Addr × Obj)} (N : News h₀ L h news) (k : ∀ a o, σ a = some o → (a, o) ∈ news) : St h₀ L h σ := fun a o e => N (a, o) (k a o e)
theorem St.lt {h₀ h : Heap} {L : Addr} {σ : Store} (S : St h₀ L h σ) {a : Addr} {o : Obj} (e : σ a = some o) : a < h.objs.size := Heap.lt_size (S a o e).1
theorem St.mem {h₀ h : Heap} {L : Addr} {σ : Store} (S : St h₀ L h σ) {a : Addr} {o : Obj} (e : σ a = some o) : (a, o) ∈ lst σ h.objs.size := mem_lst.mpr ⟨S.lt e, e⟩
/-- one object more -/
theorem St.cons {h₀ h h' : Heap} {L : Addr} {σ : Store} {a : Addr} {o : Obj} {n : Nat} (S : St h₀ L h σ) (hn : n = h.objs.size) (N : News h₀ L h' ((a, o) :: lst σ n)) : St h₀ L h' (upd σ a o) := by
  subst hn
  refine St.of_news N fun b x e => ?_
  by_cases q : b = a
  · subst q; rw [upd_same] at e; cases e; exact .head _
  · rw [upd_ne q] at e; exact .tail _ (S.mem e)
theorem lst_split {σ : Store} {d : Nat} {o : Obj} (hd : σ d = some o) : ∀ n : Nat, d < n → ∃ pre post, lst σ n = pre ++ (d, o) :: post ∧ (∀ p ∈ pre, p.1 ≠ d) ∧ ∀ p ∈ post, p.1 ≠ d
  | 0, h => by omega
  | n + 1, h => by
    have e : lst σ (n + 1) = lst σ n ++ ((σ n).map fun o => (n, o)).toList := by
      unfold lst
      rw [List.range_succ, List.filterMap_append]
      cases h : σ n <;> simp [h]
    by_cases q : d = n
    · subst q
      refine ⟨lst σ d, [], by rw [e, hd]; rfl, fun p hp => Nat.ne_of_lt (mem_lst.mp hp).1, fun _ hp => nomatch hp⟩
    · obtain ⟨pre, post, h1, h2, h3⟩ := lst_split hd n (by omega)
      refine ⟨pre, post ++ ((σ n).map fun o => (n, o)).toList, by rw [e, h1]; simp, h2, fun p hp => ?_⟩
      rcases List.mem_append.mp hp with k | k
      · exact h3 p k
      · cases z : σ n with
        | none => rw [z] at k; cases k
        | some x => rw [z] at k; cases k with
          | head => exact fun e => q e.symm
          | tail _ k => cases k
theorem upd_of {d : Addr} {o o' : Obj} : ∀ {pre post : List (Addr × Obj)}, (∀ p ∈ pre, p.1 ≠ d) → (∀ p ∈ post, p.1 ≠ d) → Upd d o o' (pre ++ (d, o) :: post) (pre ++ (d, o') :: post)
  | [], _, _, h2 => .head h2
  | _ :: _, _, h1, h2 => .tail (h1 _ (.head _)) (upd_of (fun p hp => h1 p (.tail _ hp)) h2)
/-- an object of the ledger turned: the list, and what is known behind it -/
theorem St.turn {h₀ h : Heap} {L : Addr} {σ : Store} {d : Addr} {o o' : Obj} (S : St h₀ L h σ) (hd : σ d = some o) :
    ∃ l l', l = lst σ h.objs.size ∧ Upd d o o' l l' ∧ ∀ h', News h₀ L h' l' → St h₀ L h' (upd σ d o') := by
  obtain ⟨pre, post, e, h1, h2⟩ := lst_split hd h.objs.size (S.lt hd)
  refine ⟨_, pre ++ (d, o') :: post, rfl, e ▸ upd_of h1 h2, fun h' N => St.of_news N fun b x ex => ?_⟩
  by_cases q : b = d
  · subst q; rw [upd_same] at ex; cases ex; simp
  · rw [upd_ne q] at ex
    have := S.mem ex
    rw [e] at this
    rcases List.mem_append.mp this with k | k
    · exact List.mem_append.mpr (.inl k)
    · cases k with
      | head => exact absurd rfl q
      | tail _ k => exact List.mem_append.mpr (.inr (.tail _ k))

/-! ## a step's word -/
/-- what stands as the top left it -/
structure Pg where
  prog : Program
  w : World
  K : Frag
  p : Program
  loose : List Str
  mean : ExcName → Option Value
  mg : Str → Option Value
  mb : Str → Option Value
  bl : Addr
  bv : List Value
  h : Heap
structure Cx where
  g : Pg
  A : Around
  env : Env
  h₀ : Heap

/-- the addresses of a frame: its table, its cells -/
def FA (c : Cx) (a : Addr) : Prop := a = c.env.locals ∨ ∃ x, c.env.cells.lookup x = some a
def loc (c : Cx) (m : Loc) : Loc := fun x => if (c.env.cells.lookup x).isSome = true then none else m x
structure Frm (c : Cx) (h : Heap) (m : Loc) : Prop where
  F : Fr c.h₀ c.env.locals h (loc c m)
  cell : ∀ x a, c.env.cells.lookup x = some a → h.IsCell a (m x)
  off : ∀ x a, c.env.cells.lookup x = some a → a ≠ c.env.locals ∧ c.h₀.get? a = none
  inj : ∀ x y a, c.env.cells.lookup x = some a → c.env.cells.lookup y = some a → x = y
/-- the known part, off the frame -/
def Sto (c : Cx) (h : Heap) (σ : Store) : Prop := ∀ a o, σ a = some o → h.get? a = some o ∧ ¬ FA c a ∧ c.h₀.get? a = none
theorem Sto.lt {c : Cx} {h : Heap} {σ : Store} (S : Sto c h σ) {a : Addr} {o : Obj} (e : σ a = some o) : a < h.objs.size := Heap.lt_size (S a o e).1
theorem Sto.fresh {c : Cx} {h : Heap} {σ : Store} (S : Sto c h σ) : σ h.objs.size = none := by
  cases e : σ h.objs.size with
  | none => rfl
  | some o => exact absurd (S.lt e) (Nat.lt_irrefl _)
theorem Sto.sub {c : Cx} {h : Heap} {σ τ : Store} (S : Sto c h τ) (k : Sub σ τ) : Sto c h σ := fun a o e => S a o (k a o e)
theorem Frm.keep {c : Cx} {h : Heap} {m : Loc} (F : Frm c h m) : ∀ b o, c.h₀.get? b = some o → h.get? b = some o := F.F.keep
theorem Frm.has {c : Cx} {h : Heap} {m : Loc} (F : Frm c h m) {a : Addr} (k : FA c a) : ∃ o, h.get? a = some o := by
  rcases k with rfl | ⟨x, hx⟩
  · obtain ⟨oL, _, _, hL, _⟩ := F.F.ns; exact ⟨oL, hL⟩
  · obtain ⟨o, ho, _⟩ := F.cell x a hx; exact ⟨o, ho⟩
theorem Frm.notNew {c : Cx} {h : Heap} {m : Loc} (F : Frm c h m) {a : Addr} (n : h.get? a = none) : ¬ FA c a := fun k => by
  obtain ⟨o, ho⟩ := F.has k; rw [ho] at n; cases n
/-- another heap that keeps the frame -/
theorem Frm.on {c : Cx} {h h' : Heap} {m : Loc} (F : Frm c h m) (F' : Fr c.h₀ c.env.locals h' (loc c m)) (k : ∀ x a, c.env.cells.lookup x = some a → ∀ o, h.get? a = some o → h'.get? a = some o) : Frm c h' m :=
  ⟨F', fun x a hx => let ⟨o, ho, hd⟩ := F.cell x a hx; ⟨o, k x a hx o ho, hd⟩, F.off, F.inj⟩
theorem Frm.keeps {c : Cx} {h h' : Heap} {m : Loc} (F : Frm c h m) (k : ∀ b o, h.get? b = some o → h'.get? b = some o) : Frm c h' m := F.on (F.F.keeps k) fun _ _ _ o e => k _ o e

/-- what a step leaves alone: all that is not known, and no elder object comes to be known -/
structure Fra (c : Cx) (σ : Store) (h h' : Heap) (σ' : Store) : Prop where
  kept : ∀ a o, h.get? a = some o → σ a = none → ¬ FA c a → h'.get? a = some o
  grow : ∀ a o, σ' a = some o → σ a ≠ none ∨ h.get? a = none
theorem Fra.refl {c : Cx} {σ : Store} {h : Heap} : Fra c σ h h σ := ⟨fun _ _ e _ _ => e, fun a o e => .inl (by rw [e]; exact fun q => nomatch q)⟩
theorem Fra.trans {c : Cx} {σ σ₁ σ₂ : Store} {h h₁ h₂ : Heap} (x : Fra c σ h h₁ σ₁) (y : Fra c σ₁ h₁ h₂ σ₂) (S : Sto c h₂ σ₂) : Fra c σ h h₂ σ₂ := by
  refine ⟨fun a o e n l => ?_, fun a o e => ?_⟩
  · refine y.kept a o (x.kept a o e n l) ?_ l
    cases q : σ₁ a with
    | none => rfl
    | some o' =>
      rcases x.grow a o' q with k | k
      · exact absurd n k
      · rw [e] at k; cases k
  · cases n : σ a with
    | some _ => exact .inl fun q => nomatch q
    | none =>
      right
      cases k : h.get? a with
      | none => rfl
      | some o' =>
        exfalso
        have k1 := x.kept a o' k n (S a o e).2.1
        rcases y.grow a o e with q | q
        · cases z : σ₁ a with
          | none => exact q z
          | some o2 =>
            rcases x.grow a o2 z with r | r
            · exact r n
            · rw [k] at r; cases r
        · rw [k1] at q; cases q

def After (c : Cx) (σ : Store) (s s' : Shared) (P : Loc → Store → Prop) : Prop :=
  ∃ h' tk m' σ', s' = { s with heap := h', toks := tk } ∧ Frm c h' m' ∧ Sto c h' σ' ∧ Fra c σ s.heap h' σ' ∧ P m' σ'

/-- an exception in flight through a frame -/
structure Flies (c : Cx) (σ : Store) (h h' : Heap) (m' : Loc) (σ' : Store) (e C : Addr) : Prop where
  fly : ∃ B a0 outer, c.A.frames = some (c.env :: outer) ∧ Heap.FlyingW B (c.env :: outer) e (.ref C) a0 h' ∧ c.g.h.StaysIn B ∧ (∀ a o, σ' a = some o → B.get? a = some o) ∧
    (∀ a o, h.get? a = some o → σ a = none → ¬ FA c a → a ∉ outer.filterMap (·.frame) → B.get? a = some o) ∧
    (∀ a o, h.get? a = some o → σ a = none → ¬ FA c a → ∃ sl, h'.get? a = some { o with slots := sl })
  ns : h'.Ns c.env.locals (loc c m')
  off : ∀ a o, σ' a = some o → ¬ FA c a
  grow : ∀ a o, σ' a = some o → σ a ≠ none ∨ h.get? a = none
/-- what an exception leaves: X of a ref: it was made here; X of a class's int: it flies -/
def AftX (c : Cx) (σ : Store) (s s' : Shared) (X : Value → Loc → Store → Prop) (v : Value) : Prop :=
  (After c σ s s' (X v) ∧ ∃ e, v = .ref e) ∨ ∃ h' tk m' σ' e C, s' = { s with heap := h', toks := tk } ∧ v = .ref e ∧ Flies c σ s.heap h' m' σ' e C ∧ X (.int (C : Nat) 0) m' σ'

def W (c : Cx) {α : Type} (t : Sem α) (m : Loc) (σ : Store) (Q : α → Loc → Store → Prop) (X : Value → Loc → Store → Prop) : Prop :=
  ∀ s, Frm c s.heap m → Sto c s.heap σ →
    wpAny (model c.g.prog c.g.w) c.A t (fun a s' => After c σ s s' (Q a)) (fun e s' => AftX c σ s s' X e) s

/-- all that is new in a heap -/
def full (c : Cx) (h : Heap) : Store := fun a => if a = c.env.locals ∨ (c.h₀.get? a).isSome = true then none else h.get? a
theorem full_some {c : Cx} {h : Heap} {a : Addr} {o : Obj} : full c h a = some o ↔ a ≠ c.env.locals ∧ c.h₀.get? a = none ∧ h.get? a = some o := by
  unfold full
  by_cases e : a = c.env.locals ∨ (c.h₀.get? a).isSome = true
  · rw [if_pos e]
    constructor
    · intro q; cases q
    · rintro ⟨h1, h2, _⟩
      rcases e with e | e
      · exact absurd e h1
      · rw [h2] at e; cases e
  · rw [if_neg e]
    constructor
    · intro q
      refine ⟨fun k => e (.inl k), ?_, q⟩
      cases k : c.h₀.get? a with
      | none => rfl
      | some _ => exact absurd (.inr (by rw [k]; rfl)) e
    · exact fun q => q.2.2
theorem st_full (c : Cx) (h : Heap) : St c.h₀ c.env.locals h (full c h) := fun a o e => let ⟨h1, h2, h3⟩ := full_some.mp e; ⟨h3, h1, h2⟩
theorem Sto.full {c : Cx} {h : Heap} {σ : Store} (S : Sto c h σ) : Sub σ (full c h) := fun a o e => full_some.mpr ⟨fun q => (S a o e).2.1 (.inl q), (S a o e).2.2, (S a o e).1⟩
abbrev allOf (c : Cx) (h : Heap) : List (Addr × Obj) := lst (full c h) h.objs.size
theorem all_news (c : Cx) (h : Heap) : News c.h₀ c.env.locals h (allOf c h) := (st_full c h).news _
theorem kept_of {c : Cx} {s : Shared} {h' : Heap} {m m' : Loc} (F : Frm c s.heap m) (F' : Fr c.h₀ c.env.locals h' m') {b : Addr} {x : Obj} (e : s.heap.get? b = some x) (l : b ≠ c.env.locals)
    (k : full c s.heap b = some x → h'.get? b = some x) : h'.get? b = some x := by
  cases q : c.h₀.get? b with
  | some y => rw [F.keep b y q] at e; cases e; exact F'.keep b x q
  | none => exact k (full_some.mpr ⟨l, q, e⟩)
theorem no_end (h : Heap) : h.get? h.objs.size = none := by
  cases e : h.get? h.objs.size with
  | none => rfl
  | some o => exact absurd (Heap.lt_size e) (Nat.lt_irrefl _)
/-- one object more -/
theorem grown {c : Cx} {s : Shared} {h' : Heap} {m : Loc} {σ : Store} {a : Addr} {o : Obj} (F : Frm c s.heap m) (S : Sto c s.heap σ) (F' : Fr c.h₀ c.env.locals h' (loc c m)) (ha : s.heap.get? a = none)
    (N' : News c.h₀ c.env.locals h' ((a, o) :: allOf c s.heap)) : Frm c h' m ∧ Sto c h' (upd σ a o) ∧ Fra c σ s.heap h' (upd σ a o) := by
  have Sf := (st_full c s.heap).cons rfl N'
  have old : ∀ b x, s.heap.get? b = some x → b ≠ c.env.locals → h'.get? b = some x := fun b x e l => kept_of F F' e l fun z => by
    by_cases q : b = a
    · subst q; rw [ha] at e; cases e
    · exact (Sf b x (by rw [upd_ne q]; exact z)).1
  refine ⟨F.on F' fun x b hb o e => old b o e (F.off x b hb).1, fun b x e => ?_, fun b x e n l => old b x e fun q => l (.inl q), fun b x e => ?_⟩
  · by_cases q : b = a
    · subst q
      have := Sf b x (by rw [upd_same] at e ⊢; exact e)
      exact ⟨this.1, F.notNew ha, this.2.2⟩
    · have := Sf b x (by rw [upd_ne q] at e ⊢; exact S.full b x e)
      rw [upd_ne q] at e
      exact ⟨this.1, (S b x e).2.1, this.2.2⟩
  · by_cases q : b = a
    · subst q; exact .inr ha
    · rw [upd_ne q] at e; exact .inl (by rw [e]; exact fun q => nomatch q)
/-- an object turned -/
theorem turned {c : Cx} {s : Shared} {m : Loc} {σ : Store} {d : Addr} {o o' : Obj} (F : Frm c s.heap m) (S : Sto c s.heap σ) (hd : σ d = some o) :
    ∃ l', Upd d o o' (allOf c s.heap) l' ∧ ∀ h', Fr c.h₀ c.env.locals h' (loc c m) → News c.h₀ c.env.locals h' l' → Frm c h' m ∧ Sto c h' (upd σ d o') ∧ Fra c σ s.heap h' (upd σ d o') := by
  obtain ⟨l, l', e, U, back⟩ := (st_full c s.heap).turn (o' := o') (S.full d o hd)
  subst e
  refine ⟨l', U, fun h' F' N' => ?_⟩
  have Sf := back h' N'
  have old : ∀ b x, s.heap.get? b = some x → b ≠ c.env.locals → b ≠ d → h'.get? b = some x := fun b x e l q => kept_of F F' e l fun z => (Sf b x (by rw [upd_ne q]; exact z)).1
  refine ⟨F.on F' fun x b hb o e => old b o e (F.off x b hb).1 fun q => (S d _ hd).2.1 (q ▸ .inr ⟨x, hb⟩), fun b x e => ?_, fun b x e n l => old b x e (fun q => l (.inl q)) (fun q => by rw [q, hd] at n; cases n), fun b x e => ?_⟩
  · by_cases q : b = d
    · subst q
      have := Sf b x (by rw [upd_same] at e ⊢; exact e)
      exact ⟨this.1, (S b _ hd).2.1, this.2.2⟩
    · have := Sf b x (by rw [upd_ne q] at e ⊢; exact S.full b x e)
      rw [upd_ne q] at e
      exact ⟨this.1, (S b x e).2.1, this.2.2⟩
  · by_cases q : b = d
    · subst q; exact .inl (by rw [hd]; exact fun q => nomatch q)
    · rw [upd_ne q] at e; exact .inl (by rw [e]; exact fun q => nomatch q)

section
variable {c : Cx} {env : Env} {α β : Type} {m : Loc} {σ : Store} {X : Value → Loc → Store → Prop}

theorem After.here {s : Shared} {P : Loc → Store → Prop} (F : Frm c s.heap m) (S : Sto c s.heap σ) (p : P m σ) : After c σ s s P := ⟨s.heap, s.toks, m, σ, rfl, F, S, .refl, p⟩
theorem After.tok {s : Shared} {P : Loc → Store → Prop} {tk : Nat} (F : Frm c s.heap m) (S : Sto c s.heap σ) (p : P m σ) : After c σ s { s with toks := tk } P := ⟨s.heap, tk, m, σ, rfl, F, S, .refl, p⟩
theorem After.at {s : Shared} {P : Loc → Store → Prop} {h' : Heap} {tk : Nat} {m' : Loc} {σ' : Store} (FSF : Frm c h' m' ∧ Sto c h' σ' ∧ Fra c σ s.heap h' σ') (p : P m' σ') : After c σ s { s with heap := h', toks := tk } P := ⟨h', tk, m', σ', rfl, FSF.1, FSF.2.1, FSF.2.2, p⟩
/-- go on from a state that a step left -/
theorem After.on {s s₁ s₂ : Shared} {σ₁ : Store} {P : Loc → Store → Prop} {h₁ : Heap} {tk : Nat} (e : s₁ = { s with heap := h₁, toks := tk }) (x : Fra c σ s.heap h₁ σ₁) (b : After c σ₁ s₁ s₂ P) : After c σ s s₂ P := by
  subst e
  obtain ⟨h', tk', m', σ', rfl, F, S, y, p⟩ := b
  exact ⟨h', tk', m', σ', rfl, F, S, x.trans y S, p⟩
theorem Flies.on {s s₁ : Shared} {σ₁ σ' : Store} {h₁ h' : Heap} {m' : Loc} {e C : Addr} {tk : Nat} (q : s₁ = { s with heap := h₁, toks := tk }) (x : Fra c σ s.heap h₁ σ₁) (b : Flies c σ₁ s₁.heap h' m' σ' e C) : Flies c σ s.heap h' m' σ' e C := by
  subst q
  obtain ⟨⟨B, a0, outer, f1, f2, f3, f4, f5, f6⟩, ns, off, grow⟩ := b
  have no : ∀ a o, s.heap.get? a = some o → σ a = none → σ₁ a = none := fun a o ha hn => by
    cases q : σ₁ a with
    | none => rfl
    | some o' =>
      rcases x.grow a o' q with k | k
      · exact absurd hn k
      · rw [ha] at k; cases k
  refine ⟨⟨B, a0, outer, f1, f2, f3, f4, fun a o ha hn hf ht => f5 a o (x.kept a o ha hn hf) (no a o ha hn) hf ht, fun a o ha hn hf => f6 a o (x.kept a o ha hn hf) (no a o ha hn) hf⟩, ns, off, fun a o ha => ?_⟩
  cases n : σ a with
  | some _ => exact .inl fun q => nomatch q
  | none =>
    right
    cases k : s.heap.get? a with
    | none => rfl
    | some o' =>
      exfalso
      rcases grow a o ha with q | q
      · exact q (no a o' k n)
      · rw [x.kept a o' k n (off a o ha)] at q; cases q
theorem AftX.on {s s₁ s₂ : Shared} {σ₁ : Store} {v : Value} {h₁ : Heap} {tk : Nat} (e : s₁ = { s with heap := h₁, toks := tk }) (x : Fra c σ s.heap h₁ σ₁) (b : AftX c σ₁ s₁ s₂ X v) : AftX c σ s s₂ X v := by
  rcases b with ⟨b, r⟩ | ⟨h', tk', m', σ', e', C, rfl, rfl, fl, q⟩
  · exact .inl ⟨b.on e x, r⟩
  · refine .inr ⟨h', tk', m', σ', e', C, ?_, rfl, fl.on e x, q⟩
    subst e; rfl
theorem After.next {s s₁ : Shared} {P : Loc → Store → Prop} {t : Sem α} {Q : α → Loc → Store → Prop} (a : After c σ s s₁ P) (k : ∀ m σ, P m σ → W c t m σ Q X) :
    wpAny (model c.g.prog c.g.w) c.A t (fun a s' => After c σ s s' (Q a)) (fun e s' => AftX c σ s s' X e) s₁ := by
  obtain ⟨h', tk, m', σ', rfl, F, S, x, p⟩ := a
  exact wpAny_mono (k m' σ' p { s with heap := h', toks := tk } F S) (fun _ _ b => b.on rfl x) fun _ _ b => b.on rfl x
theorem After.mono {s s' : Shared} {P P' : Loc → Store → Prop} (a : After c σ s s' P) (k : ∀ m σ, P m σ → P' m σ) : After c σ s s' P' := by
  obtain ⟨h', tk, m', σ', rfl, F, S, x, p⟩ := a
  exact ⟨h', tk, m', σ', rfl, F, S, x, k _ _ p⟩

theorem AftX.mono {s s' : Shared} {v : Value} {X' : Value → Loc → Store → Prop} (a : AftX c σ s s' X v) (k : ∀ v m σ, X v m σ → X' v m σ) : AftX c σ s s' X' v := by
  rcases a with ⟨b, r⟩ | ⟨h', tk', m', σ', e', C, e1, e2, fl, q⟩
  · exact .inl ⟨b.mono (k v), r⟩
  · exact .inr ⟨h', tk', m', σ', e', C, e1, e2, fl, k _ _ _ q⟩
theorem AftX.no {s s' : Shared} {v : Value} (a : AftX c σ s s' (fun _ _ _ => False) v) : False := by
  rcases a with ⟨⟨_, _, _, _, _, _, _, _, q⟩, _⟩ | ⟨_, _, _, _, _, _, _, _, _, q⟩
  · exact q
  · exact q
theorem W.pure {a : α} {Q : α → Loc → Store → Prop} (h : Q a m σ) : W c (pure a) m σ Q X := fun _ F S => wpAny_pure (After.here F S h)
theorem W.bind {t : Sem α} {f : α → Sem β} {Q : β → Loc → Store → Prop} (h : W c t m σ (fun a m' σ' => W c (f a) m' σ' Q X) X) : W c (t >>= f) m σ Q X :=
  fun s F S => wpAny_bind (wpAny_mono (h s F S) (fun _ _ A => A.next fun _ _ w => w) fun _ _ x => x)
theorem W.mono {t : Sem α} {Q Q' : α → Loc → Store → Prop} {X' : Value → Loc → Store → Prop} (h : W c t m σ Q X) (hQ : ∀ a m σ, Q a m σ → Q' a m σ) (hX : ∀ e m σ, X e m σ → X' e m σ) : W c t m σ Q' X' :=
  fun s F S => wpAny_mono (h s F S) (fun a _ A => A.mono (hQ a)) fun e _ A => A.mono hX
/-! ### nodes -/
theorem w_execs_nil {Q : Flow → Loc → Store → Prop} (h : Q .next m σ) : W c (execs [] env) m σ Q X := fun _ F S => wpAny_execs_nil (After.here F S h)
theorem w_execs_cons {st : Stmt} {rest : List Stmt} {Q : Flow → Loc → Store → Prop}
    (h : W c (exec st env) m σ (fun f m' σ' => match f with | .next => W c (execs rest env) m' σ' Q X | f => Q f m' σ') X) : W c (execs (st :: rest) env) m σ Q X :=
  fun s F S => wpAny_execs_cons (wpAny_mono (h s F S) (fun f s₁ A => by
    cases f with
    | next => exact A.next fun _ _ w => w
    | brk => exact A
    | cont => exact A
    | ret v => exact A) fun _ _ x => x)
theorem w_if {test : Expr} {body orelse : List Stmt} {pos : Pos} {Q : Flow → Loc → Store → Prop}
    (h : W c (isTrue test env (eval test env)) m σ (fun b m' σ' => match b with | true => W c (execs body env) m' σ' Q X | false => W c (execs orelse env) m' σ' Q X) X) :
    W c (exec (.If test body orelse pos) env) m σ Q X :=
  fun s F S => wpAny_If (wpAny_mono (h s F S) (fun b s₁ A => by
    cases b with
    | true => exact A.next fun _ _ w => w
    | false => exact A.next fun _ _ w => w) fun _ _ x => x)
theorem w_ret {e : Expr} {pos : Pos} {Q : Flow → Loc → Store → Prop} (h : W c (eval e env) m σ (fun v m' σ' => Q (.ret v) m' σ') X) : W c (exec (.Return (some e) pos) env) m σ Q X :=
  fun s F S => wpAny_Return_some (h s F S)
theorem w_assign {x : Str} {pos' pos : Pos} {value : Expr} {Q : Flow → Loc → Store → Prop} (hs : swapsWith value (some (.Name x pos')) pos.line env = Pure.pure false)
    (h : W c (eval value env) m σ (fun v m' σ' => W c (storeName env x v) m' σ' (fun _ => Q .next) X) X) : W c (exec (.Assign [.Name x pos'] value pos) env) m σ Q X :=
  fun s F S => wpAny_Assign_Name (wpAny_mono (h s F S) (fun _ _ A => A.next fun _ _ w => w) fun _ _ x => x) hs
theorem w_assign_attr {o : Expr} {attr : Str} {pos' pos : Pos} {value : Expr} {Q : Flow → Loc → Store → Prop} (hs : swapsWith value (some (.Attribute o attr pos')) pos.line env = Pure.pure false)
    (h : W c (eval value env) m σ (fun v m' σ' => W c (eval o env) m' σ' (fun ov m₂ σ₂ => W c (setAttr ov attr v) m₂ σ₂ (fun _ => Q .next) X) X) X) : W c (exec (.Assign [.Attribute o attr pos'] value pos) env) m σ Q X :=
  fun s F S => plainObj_wpAny_Assign_Attribute (wpAny_mono (h s F S) (fun _ _ A => wpAny_mono (A.next fun _ _ w => w) (fun _ _ A' => A'.next fun _ _ w => w) fun _ _ x => x) fun _ _ x => x) hs
theorem w_expr {e : Expr} {pos : Pos} {Q : Flow → Loc → Store → Prop} (h : W c (eval e env) m σ (fun _ m' σ' => Q .next m' σ') X)
    (hi : interactive env = false) (hs : swapsWith e none pos.line env = Pure.pure false) : W c (exec (.Expr e pos) env) m σ Q X :=
  fun s F S => wpAny_Expr_any (h s F S) hi hs

/-! ### expressions -/
theorem w_int {i : Int} {k : Nat} {pos : Pos} {Q : Value → Loc → Store → Prop} (h : ∀ t, Q (.int i t) m σ) : W c (eval (.Constant (.int i) k pos) env) m σ Q X :=
  fun _ F S => wpAny_Constant_int (After.tok F S (h _))
theorem w_bool {b : Bool} {k : Nat} {pos : Pos} {Q : Value → Loc → Store → Prop} (h : Q (.bool b) m σ) : W c (eval (.Constant (.bool b) k pos) env) m σ Q X :=
  fun _ F S => Constant_bool (After.here F S h)
theorem w_none {k : Nat} {pos : Pos} {Q : Value → Loc → Store → Prop} (h : Q .none m σ) : W c (eval (.Constant .none k pos) env) m σ Q X :=
  fun _ F S => Constant_none (After.here F S h)
theorem w_str {x : Str} {k : Nat} {pos : Pos} {Q : Value → Loc → Store → Prop} (h : ∀ t, Q (.str x t) m σ) : W c (eval (.Constant (.str x) k pos) env) m σ Q X :=
  fun _ F S => show wpAny _ _ (mkText x) _ _ _ from wpAny_mkText (After.tok F S (h _))
theorem loc_of {x : Str} {v : Value} (hc : c.env.cells.lookup x = none) (hv : m x = some v) : loc c m x = some v := by unfold loc; rw [hc]; exact hv
theorem w_local {x : Str} {pos : Pos} {v : Value} {Q : Value → Loc → Store → Prop} (hk : c.env.scope.kind = .function) (hx : c.env.kindOf x = some .local) (hc : c.env.cells.lookup x = none) (hd : (x == ("__debug__" : Str)) = false) (hv : m x = some v) (h : Q v m σ) :
    W c (eval (.Name x pos) c.env) m σ Q X := fun _ F S => wpAny_Name (wpAny_loadName_local hk hx F.F.ns (loc_of hc hv) (After.here F S h)) hd
theorem w_cell {x : Str} {pos : Pos} {v : Value} {a : Addr} {Q : Value → Loc → Store → Prop} (hk : c.env.scope.kind = .function) (hx : c.env.kindOf x = some .cell) (hc : c.env.cells.lookup x = some a) (hd : (x == ("__debug__" : Str)) = false) (hv : m x = some v) (h : Q v m σ) :
    W c (eval (.Name x pos) c.env) m σ Q X := fun _ F S => wpAny_Name (wpAny_loadName_cell hk hx hc (hv ▸ F.cell x a hc) (After.here F S h)) hd
theorem w_binop {l r : Expr} {op : Operator} {pos : Pos} {Q : Value → Loc → Store → Prop}
    (h : W c (eval l env) m σ (fun a m₁ σ₁ => W c (eval r env) m₁ σ₁ (fun b m₂ σ₂ => W c (binaryOp op a b) m₂ σ₂ Q X) X) X) : W c (eval (.BinOp l op r pos) env) m σ Q X :=
  fun s F S => wpAny_BinOp (wpAny_mono (h s F S) (fun _ _ A => wpAny_mono (A.next fun _ _ w => w) (fun _ _ A' => A'.next fun _ _ w => w) fun _ _ x => x) fun _ _ x => x)
theorem w_cmp {l r : Expr} {op : CmpOp} {pos : Pos} {Q : Value → Loc → Store → Prop}
    (h : W c (eval l env) m σ (fun a m₁ σ₁ => W c (eval r env) m₁ σ₁ (fun b m₂ σ₂ => W c (compareOp op a b) m₂ σ₂ Q X) X) X)
    (hm : behindInMarks op r = false := by with_unfolding_all rfl) : W c (eval (.Compare l [op] [r] pos) env) m σ Q X :=
  fun s F S => wpAny_Compare1 (wpAny_mono (h s F S) (fun _ _ A => wpAny_mono (A.next fun _ _ w => w) (fun _ _ A' => A'.next fun _ _ w => w) fun _ _ x => x) fun _ _ x => x) hm
theorem w_unop {x : Expr} {op : UnaryOp} {pos : Pos} {Q : Value → Loc → Store → Prop} (h : W c (eval x env) m σ (fun v m' σ' => W c (unaryOp op v) m' σ' Q X) X) : W c (eval (.UnaryOp op x pos) env) m σ Q X :=
  fun s F S => UnaryOp_ (wpAny_mono (h s F S) (fun _ _ A => A.next fun _ _ w => w) fun _ _ x => x)
theorem w_ifexp {test body orelse : Expr} {pos : Pos} {Q : Value → Loc → Store → Prop}
    (h : W c (isTrue test env (eval test env)) m σ (fun b m' σ' => match b with | true => W c (eval body env) m' σ' Q X | false => W c (eval orelse env) m' σ' Q X) X) :
    W c (eval (.IfExp test body orelse pos) env) m σ Q X :=
  fun s F S => IfExp_ (wpAny_mono (h s F S) (fun b s₁ A => by
    cases b with
    | true => exact A.next fun _ _ w => w
    | false => exact A.next fun _ _ w => w) fun _ _ x => x)
theorem w_one {op : BoolOp} {e : Expr} {pos : Pos} {Q : Value → Loc → Store → Prop} (h : W c (eval e env) m σ Q X) : W c (eval (.BoolOp op [e] pos) env) m σ Q X := h
theorem w_and {e₁ e₂ : Expr} {rest : List Expr} {pos : Pos} {Q : Value → Loc → Store → Prop}
    (h : W c (eval e₁ env) m σ (fun v m₁ σ₁ => W c (truthy v) m₁ σ₁ (fun b m₂ σ₂ => match b with | true => W c (eval (.BoolOp .And (e₂ :: rest) pos) env) m₂ σ₂ Q X | false => Q v m₂ σ₂) X) X) :
    W c (eval (.BoolOp .And (e₁ :: e₂ :: rest) pos) env) m σ Q X :=
  fun s F S => BoolOp_and (wpAny_mono (h s F S) (fun v s₁ A => wpAny_mono (A.next fun _ _ w => w) (fun b s₂ A' => by
    cases b with
    | true => exact A'.next fun _ _ w => w
    | false => exact A') fun _ _ x => x) fun _ _ x => x)
theorem w_attr {value : Expr} {attr : Str} {pos : Pos} {Q : Value → Loc → Store → Prop}
    (h : W c (eval value env) m σ (fun o m' σ' => W c (getAttr o attr true) m' σ' Q X) X)
    (he : eval (.Attribute value attr pos) env = (do
      let o ← eval value env
      standAt pos.atName
      let r ← holding [o] (getAttr o attr true)
      letTemporaryGo value o r
      Pure.pure r) := by with_unfolding_all rfl) : W c (eval (.Attribute value attr pos) env) m σ Q X :=
  fun s F S => Attribute_any_ (wpAny_mono (h s F S) (fun _ _ A => A.next fun _ _ w => w) fun _ _ x => x) he
theorem w_sub {value slice : Expr} {pos : Pos} {Q : Value → Loc → Store → Prop}
    (h : W c (eval value env) m σ (fun o m₁ σ₁ => W c (eval slice env) m₁ σ₁ (fun i m₂ σ₂ => W c (subscriptTail value slice o i) m₂ σ₂ Q X) X) X) : W c (eval (.Subscript value slice pos) env) m σ Q X :=
  fun s F S => Subscript_ (wpAny_mono (h s F S) (fun _ _ A => wpAny_mono (A.next fun _ _ w => w) (fun _ _ A' => A'.next fun _ _ w => w) fun _ _ x => x) fun _ _ x => x)
theorem w_list {elts : List Expr} {pos : Pos} {Q : Value → Loc → Store → Prop} (h : W c (spliced (backTo pos (starEach elts env))) m σ (fun vs m' σ' => W c (newList vs) m' σ' Q X) X) : W c (eval (.List elts pos) env) m σ Q X :=
  fun s F S => List_ (wpAny_mono (h s F S) (fun _ _ A => A.next fun _ _ w => w) fun _ _ x => x)
theorem w_tuple {elts : List Expr} {k : Nat} {pos : Pos} {Q : Value → Loc → Store → Prop} (h : W c (spliced (backTo pos (starEach elts env))) m σ (fun vs m' σ' => W c (newTuple vs) m' σ' Q X) X) : W c (eval (.Tuple elts k pos) env) m σ Q X :=
  fun s F S => Tuple_ (wpAny_mono (h s F S) (fun _ _ A => A.next fun _ _ w => w) fun _ _ x => x)
theorem w_spliced_nil {pos : Pos} {Q : List Value → Loc → Store → Prop} (h : Q [] m σ) : W c (spliced (backTo pos (starEach [] env))) m σ Q X := fun _ F S => spliced_nil (After.here F S h)
theorem w_spliced {e : Expr} {rest : List Expr} {pos : Pos} {Q : List Value → Loc → Store → Prop}
    (h : W c (eval e env) m σ (fun v m' σ' => W c (spliced (backTo pos (starEach rest env))) m' σ' (fun vs => Q (v :: vs)) X) X)
    (he : starEach (e :: rest) env = (false, eval e env) :: starEach rest env := by rfl) : W c (spliced (backTo pos (starEach (e :: rest) env))) m σ Q X := by
  rw [he]
  exact fun s F S => spliced_cons (wpAny_mono (h s F S) (fun _ _ A => A.next fun _ _ w => w) fun _ _ x => x)
theorem w_call {func : Expr} {args : List Expr} {pos : Pos} {Q : Value → Loc → Store → Prop}
    (h : W c (eval func env) m σ (fun f m' σ' => W c (callWith pos f [] (backTo pos (starEach args env)) []) m' σ' Q X) X)
    (he : eval (.Call func args [] pos) env = (do callWith pos (← eval func env) [] (backTo pos (starEach args env)) (backToKw pos (keywordEach [] env))) := by rfl) : W c (eval (.Call func args [] pos) env) m σ Q X :=
  fun s F S => Call_ (wpAny_mono (h s F S) (fun _ _ A => A.next fun _ _ w => w) fun _ _ x => x) he
theorem w_meth {o : Expr} {name : Str} {apos pos : Pos} {args : List Expr} {pl : Sem Bool} {Q : Value → Loc → Store → Prop}
    (h : W c (eval o env) m σ (fun ov m₁ σ₁ => W c (getMethod ov name pl) m₁ σ₁ (fun fx m₂ σ₂ => W c (callWith pos fx.1 fx.2 (backTo pos (starEach args env)) []) m₂ σ₂ Q X) X) X)
    (he : eval (.Call (.Attribute o name apos) args [] pos) env = (do
      let ov ← eval o env
      standAt apos.atName
      let (f, first) ← holding [ov] (getMethod ov name pl)
      callWith pos f first (backTo pos (starEach args env)) []) := by rfl) : W c (eval (.Call (.Attribute o name apos) args [] pos) env) m σ Q X :=
  fun s F S => MethodCall_ (wpAny_mono (h s F S) (fun _ _ A => wpAny_mono (A.next fun _ _ w => w) (fun _ _ A' => A'.next fun _ _ w => w) fun _ _ x => x) fun _ _ x => x) he

/-! ### tests -/
theorem t_not {x : Expr} {pos : Pos} {whole : Sem Value} {Q : Bool → Loc → Store → Prop} (h : W c (isTrue x env (eval x env)) m σ (fun b m' σ' => Q (!b) m' σ') X) : W c (isTrue (.UnaryOp .Not x pos) env whole) m σ Q X :=
  fun s F S => isTrue_not (h s F S)
theorem t_and_nil {pos : Pos} {whole : Sem Value} {Q : Bool → Loc → Store → Prop} (h : Q true m σ) : W c (isTrue (.BoolOp .And [] pos) env whole) m σ Q X := fun _ F S => isTrue_and_nil (After.here F S h)
theorem t_or_nil {pos : Pos} {whole : Sem Value} {Q : Bool → Loc → Store → Prop} (h : Q false m σ) : W c (isTrue (.BoolOp .Or [] pos) env whole) m σ Q X := fun _ F S => isTrue_or_nil (After.here F S h)
theorem t_and {x : Expr} {rest : List Expr} {pos : Pos} {whole : Sem Value} {Q : Bool → Loc → Store → Prop}
    (h : W c (isTrue x env (eval x env)) m σ (fun b m' σ' => match b with | true => W c (isTrue (.BoolOp .And rest pos) env whole) m' σ' Q X | false => Q false m' σ') X) : W c (isTrue (.BoolOp .And (x :: rest) pos) env whole) m σ Q X :=
  fun s F S => isTrue_and (wpAny_mono (h s F S) (fun b s₁ A => by
    cases b with
    | true => exact A.next fun _ _ w => w
    | false => exact A) fun _ _ x => x)
theorem t_or {x : Expr} {rest : List Expr} {pos : Pos} {whole : Sem Value} {Q : Bool → Loc → Store → Prop}
    (h : W c (isTrue x env (eval x env)) m σ (fun b m' σ' => match b with | true => Q true m' σ' | false => W c (isTrue (.BoolOp .Or rest pos) env whole) m' σ' Q X) X) : W c (isTrue (.BoolOp .Or (x :: rest) pos) env whole) m σ Q X :=
  fun s F S => isTrue_or (wpAny_mono (h s F S) (fun b s₁ A => by
    cases b with
    | true => exact A
    | false => exact A.next fun _ _ w => w) fun _ _ x => x)
theorem t_cmp {l r : Expr} {op : CmpOp} {pos : Pos} {whole : Sem Value} {Q : Bool → Loc → Store → Prop}
    (h : W c (eval l env) m σ (fun a m₁ σ₁ => W c (eval r env) m₁ σ₁ (fun b m₂ σ₂ => W c (compareOp op a b) m₂ σ₂ (fun v m₃ σ₃ => W c (truthy v) m₃ σ₃ Q X) X) X) X)
    (hm : behindInMarks op r = false := by with_unfolding_all rfl) : W c (isTrue (.Compare l [op] [r] pos) env whole) m σ Q X :=
  fun s F S => wpAny_isTrue_Compare1 (wpAny_mono (h s F S) (fun _ _ A => wpAny_mono (A.next fun _ _ w => w) (fun _ _ A' => wpAny_mono (A'.next fun _ _ w => w) (fun _ _ A'' => A''.next fun _ _ w => w) fun _ _ x => x) fun _ _ x => x) fun _ _ x => x) hm
theorem t_plain {e : Expr} {whole : Sem Value} {Q : Bool → Loc → Store → Prop} (h : W c whole m σ (fun v m' σ' => W c (truthy v) m' σ' Q X) X)
    (he : isTrue e env whole = (do let v ← whole; standAt e.pos; holding [v] (truthy v)) := by rfl) : W c (isTrue e env whole) m σ Q X :=
  fun s F S => isTrue_plain (wpAny_mono (h s F S) (fun _ _ A => A.next fun _ _ w => w) fun _ _ x => x) he
theorem v_bool {b : Bool} {Q : Bool → Loc → Store → Prop} (h : Q b m σ) : W c (truthy (.bool b)) m σ Q X := fun _ F S => wpAny_truthy_bool (After.here F S h)
/-! ### names stored -/
def setM (m : Loc) (x : Str) (v : Value) : Loc := fun y => if y = x then some v else m y
theorem setM_same {m : Loc} {x : Str} {v : Value} : setM m x v x = some v := if_pos rfl
theorem setM_ne {m : Loc} {x y : Str} {v : Value} {r : Option Value} (h : y ≠ x) (e : m y = r) : setM m x v y = r := (if_neg h).trans e
theorem loc_set {x : Str} {v : Value} (hc : c.env.cells.lookup x = none) : (fun y => if y = x then some v else loc c m y) = loc c (setM m x v) := by
  funext y
  unfold loc setM
  by_cases e : y = x
  · subst e; rw [hc]; simp
  · simp only [if_neg e]
theorem w_store {x : Str} {v : Value} {Q : Unit → Loc → Store → Prop} (hk : c.env.scope.kind = .function) (hx : c.env.kindOf x = some .local) (hc : c.env.cells.lookup x = none) (h : Q () (setM m x v) σ) : W c (storeName c.env x v) m σ Q X :=
  fun _ F S => wpAny_storeName_local hx F.F.ns (fun h' hn hs => After.at ⟨⟨loc_set hc ▸ F.F.set hn hs, fun y a hy => by
      have e : y ≠ x := fun q => by rw [q, hc] at hy; cases hy
      obtain ⟨o, ho, hd⟩ := F.cell y a hy
      exact ⟨o, (hs.2 a (F.off y a hy).1).trans ho, by rw [hd]; unfold setM; rw [if_neg e]⟩, F.off, F.inj⟩,
      fun a o e => ⟨(hs.2 a fun q => (S a o e).2.1 (.inl q)).trans (S a o e).1, (S a o e).2⟩, fun a o e _ l => (hs.2 a fun q => l (.inl q)).trans e, fun a o e => .inl (by rw [e]; exact fun q => nomatch q)⟩ h)
    (by rw [hk]; rfl)
theorem w_store_cell {x : Str} {v : Value} {a : Addr} {Q : Unit → Loc → Store → Prop} (hk : c.env.scope.kind = .function) (hx : c.env.kindOf x = some .cell) (hc : c.env.cells.lookup x = some a) (h : Q () (setM m x v) σ) : W c (storeName c.env x v) m σ Q X :=
  fun s F S => wpAny_storeName_cell hk hx hc (F.cell x a hc) fun h' hv hs => by
    have hL : c.env.locals ≠ a := fun q => (F.off x a hc).1 q.symm
    have eL : loc c m = loc c (setM m x v) := by
      funext y
      unfold loc setM
      by_cases e : y = x
      · subst e; rw [hc]; simp
      · simp only [if_neg e]
    obtain ⟨oL, es, ep, hLo, r⟩ := F.F.ns
    refine ⟨h', s.toks, setM m x v, σ, rfl, ⟨eL ▸ ⟨⟨oL, es, ep, (hs.2 _ hL).trans hLo, r⟩, fun b o e => (hs.2 b fun q => ?_).trans (F.keep b o e), F.F.above⟩, fun y b hy => ?_, F.off, F.inj⟩,
      fun b o e => ⟨(hs.2 b fun q => (S b o e).2.1 (q ▸ .inr ⟨x, hc⟩)).trans (S b o e).1, (S b o e).2⟩, ⟨fun b o e _ l => (hs.2 b fun q => l (q ▸ .inr ⟨x, hc⟩)).trans e, fun b o e => .inl (by rw [e]; exact fun q => nomatch q)⟩, h⟩
    · rw [q, (F.off x a hc).2] at e; cases e
    · by_cases e : y = x
      · subst e; rw [hc] at hy; cases hy; unfold setM; rw [if_pos rfl]; exact hv
      · have hb : b ≠ a := fun q => e (F.inj y x a (q ▸ hy) hc)
        obtain ⟨o, ho, hd⟩ := F.cell y b hy
        exact ⟨o, (hs.2 b hb).trans ho, by rw [hd]; unfold setM; rw [if_neg e]⟩

/-! ### new objects -/
abbrev tupO (vs : List Value) : Obj := { cls := .type "tuple", data := .seq vs.toArray }
abbrev lstO (vs : List Value) (n : Nat) : Obj := { cls := .type "list", data := .seq vs.toArray n }
theorem w_newList {vs : List Value} {Q : Value → Loc → Store → Prop} (h : ∀ a, σ a = none → Q (.ref a) m (upd σ a (lstO vs 0))) (hsz : vs.length ≤ sizeLine) : W c (newList vs) m σ Q X :=
  fun s F S => newList_N F.F (all_news c s.heap) (fun h' F' N' => After.at (grown F S F' (no_end _) N') (h _ S.fresh)) hsz
theorem w_newTuple {vs : List Value} {Q : Value → Loc → Store → Prop} (h : ∀ a, σ a = none → Q (.ref a) m (upd σ a (tupO vs))) (hsz : vs.length ≤ sizeLine) : W c (newTuple vs) m σ Q X :=
  fun s F S => newTuple_N F.F (all_news c s.heap) (fun h' F' N' => After.at (grown F S F' (no_end _) N') (h _ S.fresh)) hsz
end
end Mine

open PySem PySem.W PySem.Calls PyProof.Rows
namespace Mine

/-- the ground of a frame: n is what may still be entered -/
structure Gnd (n : Nat) (c : Cx) : Prop where
  B : ∃ A₀ outer, Below A₀ c.g.h outer c.h₀ ∧ c.A.frames = some (c.env :: outer)
  fr : c.env.frame = some c.env.locals
  knd : c.env.scope.kind = .function
  glob : c.env.globals = mainGlobals
  bi : c.env.builtins = builtinsNs
  X : c.g.K.In c.h₀
  T : Top c.g.p c.g.loose c.g.mean c.g.mg c.g.mb c.h₀
  hh : c.A.handled = none
  dep : c.A.depth + 2 * n < recursionLimit
  un : c.A.units + 20 * n + 20 < cLine
  base : c.h₀.IsList c.g.bl c.g.bv.toArray
  XB : c.g.K.In c.g.h
  TB : Top c.g.p c.g.loose c.g.mean c.g.mg c.g.mb c.g.h
  baseB : c.g.h.IsList c.g.bl c.g.bv.toArray

section
variable {n : Nat} {c : Cx} {env : Env} {α : Type} {m : Loc} {σ : Store} {X : Value → Loc → Store → Prop}

/-- what names of the top want of an environment -/
structure EnvOk (env : Env) : Prop where
  knd : env.scope.kind = .function
  glob : env.globals = mainGlobals
  bi : env.builtins = builtinsNs
theorem Gnd.ok (g : Gnd n c) : EnvOk c.env := ⟨g.knd, g.glob, g.bi⟩
theorem Gnd.now (g : Gnd n c) {s : Shared} (F : Frm c s.heap m) : c.g.K.In s.heap := g.X.keeps F.keep

/-! ### names of the top -/
theorem w_glob {x : Str} {pos : Pos} {v : Value} {Q : Value → Loc → Store → Prop} (g : Gnd n c) (k : EnvOk env) (hx : env.kindOf x = some .globalImplicit) (hd : (x == ("__debug__" : Str)) = false) (hv : c.g.mg x = some v) (h : Q v m σ) :
    W c (eval (.Name x pos) env) m σ Q X := fun s F S =>
  Name_function_global k.knd hx (loadGlobal_global (by rw [k.glob]; exact g.T.g.keeps F.keep) hv (After.here F S h)) hd
theorem w_built {x : Str} {pos : Pos} {v : Value} {Q : Value → Loc → Store → Prop} (g : Gnd n c) (k : EnvOk env) (hx : env.kindOf x = some .globalImplicit) (hd : (x == ("__debug__" : Str)) = false) (hm : c.g.mg x = none) (hn : x ≠ "__name__") (hv : bootBuiltins x = some v) (h : Q v m σ) :
    W c (eval (.Name x pos) env) m σ Q X := fun s F S =>
  Name_function_global k.knd hx (loadGlobal_builtin (by rw [k.glob]; exact g.T.g.keeps F.keep) hm (by rw [k.bi]; exact g.T.b.keeps F.keep) ((g.T.builtins x hn).trans hv) (After.here F S h)) hd

/-! ### ints -/
variable {a b : Int} {t u : Tok}
theorem i_add {Q : Value → Loc → Store → Prop} (h : ∀ t, Q (.int (a + b) t) m σ) : W c (binaryOp .Add (.int a t) (.int b u)) m σ Q X := fun _ F S => add_int (After.tok F S (h _))
theorem i_sub {Q : Value → Loc → Store → Prop} (h : ∀ t, Q (.int (a - b) t) m σ) : W c (binaryOp .Sub (.int a t) (.int b u)) m σ Q X := fun _ F S => sub_int (After.tok F S (h _))
theorem i_mul {Q : Value → Loc → Store → Prop} (h : ∀ t, Q (.int (a * b) t) m σ) (hm : IntMulOk a b) : W c (binaryOp .Mult (.int a t) (.int b u)) m σ Q X := fun _ F S => mul_int (After.tok F S (h _)) hm
theorem i_mod {Q : Value → Loc → Store → Prop} (hb : b ≠ 0) (h : ∀ t, Q (.int (a.fmod b) t) m σ) : W c (binaryOp .Mod (.int a t) (.int b u)) m σ Q X := fun _ F S => mod_int hb (After.tok F S (h _))
theorem i_neg {Q : Value → Loc → Store → Prop} (h : ∀ t, Q (.int (-a) t) m σ) : W c (unaryOp .USub (.int a t)) m σ Q X := fun _ F S => P.neg_int (After.tok F S (h _))
theorem i_eq {Q : Value → Loc → Store → Prop} (h : Q (.bool (a == b)) m σ) : W c (compareOp .Eq (.int a t) (.int b u)) m σ Q X := fun _ F S => eq_int (After.here F S h)
theorem i_ne {Q : Value → Loc → Store → Prop} (h : Q (.bool (a != b)) m σ) : W c (compareOp .NotEq (.int a t) (.int b u)) m σ Q X := fun _ F S => ne_int (After.here F S h)
theorem i_lt {Q : Value → Loc → Store → Prop} (h : Q (.bool (decide (a < b))) m σ) : W c (compareOp .Lt (.int a t) (.int b u)) m σ Q X := fun _ F S => lt_int (After.here F S h)
theorem i_gt {Q : Value → Loc → Store → Prop} (h : Q (.bool (decide (b < a))) m σ) : W c (compareOp .Gt (.int a t) (.int b u)) m σ Q X := fun _ F S => gt_int (After.here F S h)
theorem i_le {Q : Value → Loc → Store → Prop} (h : Q (.bool (decide (a ≤ b))) m σ) : W c (compareOp .LtE (.int a t) (.int b u)) m σ Q X := fun _ F S => le_int (After.here F S h)
theorem i_ge {Q : Value → Loc → Store → Prop} (h : Q (.bool (decide (b ≤ a))) m σ) : W c (compareOp .GtE (.int a t) (.int b u)) m σ Q X := fun _ F S => ge_int (After.here F S h)

/-! ### what a class gives -/
structure FieldOk (K : Frag) (C : Addr) (name : Str) : Prop where
  pg : plainGet K C name = true
  hd : hasDictIn K C = true
  nf : findIn K (.ref C) name = some none
  sa : findIn K (.ref C) "__setattr__" = some (some (.builtin "object.__setattr__"))
  po : plainOver K C = true
structure MethOk (K : Frag) (C : Addr) (name : Str) (f : Addr) : Prop where
  pg : plainGet K C name = true
  hf : findIn K (.ref C) name = some (some (.ref f))
  fn : isFn K (.ref f) = true
  kp : keepIn K (.ref f) = true

theorem inst_at {s : Shared} {x C dx : Addr} {od : Obj} (S : Sto c s.heap σ) (hx : σ x = some (instObj C dx)) (hd : σ dx = some od) : W.InstAt s.heap x (instObj C dx) C (some od) :=
  ⟨(S x _ hx).1, rfl, rfl, (S dx _ hd).1⟩

theorem w_get {x C dx : Addr} {name : Str} {es : List DictEntry} {k : Nat} {v : Value} {Q : Value → Loc → Store → Prop} (g : Gnd n c) (f : FieldOk c.g.K C name) (hx : σ x = some (instObj C dx)) (hd : σ dx = some (dictOf es k))
    (hl : getL name es = some (some v)) (hv : handedIn v = true) (h : Q v m σ) : W c (getAttr (.ref x) name true) m σ Q X :=
  fun _ F S => get_own F.F g.X (inst_at S hx hd) f.pg f.hd f.nf rfl hl hv (After.tok F S h)

theorem putL_len (name : Str) (hsh : Int) (key v : Value) : ∀ es : List DictEntry, (putL name hsh key v es).length ≤ es.length + 1
  | [] => Nat.le_refl _
  | e :: r => by
    unfold putL
    split
    · simp
    · have := putL_len name hsh key v r
      simp only [List.length_cons]; omega
theorem w_set {x C dx : Addr} {name : Str} {es : List DictEntry} {k : Nat} {v : Value} {Q : Unit → Loc → Store → Prop} (g : Gnd n c) (f : FieldOk c.g.K C name) (hx : σ x = some (instObj C dx)) (hd : σ dx = some (dictOf es k))
    (hl : (getL name es).isSome = true) (hz : es.length < 1000) (h : ∀ tk, Q () m (upd σ dx (dictOf (putL name (PyData.keyHash c.g.w.params name) (.str name tk) v es) (putN name es k)))) : W c (setAttr (.ref x) name v) m σ Q X :=
  fun s F S => by
    obtain ⟨l', U, back⟩ := turned (o' := dictOf (putL name (PyData.keyHash c.g.w.params name) (.str name (s.toks + 1)) v es) (putN name es k)) F S hd
    have ht : takerIn c.g.K C name = some none := by unfold takerIn; rw [f.nf]; rfl
    have hz' : (putL name (PyData.keyHash c.g.w.params name) (.str name (s.toks + 1)) v es).length ≤ 1000 := by have := putL_len name (PyData.keyHash c.g.w.params name) (.str name (s.toks + 1)) v es; omega
    exact set_dict F.F g.X (all_news c s.heap) (inst_at S hx hd) rfl f.sa f.po ht f.hd hl rfl U hz' fun h' F' N' => After.at (back h' F' N') (h _)
theorem w_getMeth {x C dx f : Addr} {name : Str} {es : List DictEntry} {k : Nat} {pl : Sem Bool} {Q : Value × List Value → Loc → Store → Prop} (g : Gnd n c) (o : MethOk c.g.K C name f) (hx : σ x = some (instObj C dx)) (hd : σ dx = some (dictOf es k))
    (hl : getL name es = some none) (h : Q (.ref f, [.ref x]) m σ) : W c (getMethod (.ref x) name pl) m σ Q X :=
  fun _ F S => method_inst F.F g.X (inst_at S hx hd) o.pg o.hf o.fn hl (After.here F S h)

/-! ### calls -/
theorem w_with0 {pos : Pos} {f : Value} {first : List Value} {Q : Value → Loc → Store → Prop} (g : Gnd n c) (hk : keepIn c.g.K f = true) (h : W c (call f (first ++ [])) m σ Q X) :
    W c (callWith pos f first (backTo pos (starEach [] env)) []) m σ Q X :=
  fun s F S => callWith_K0 (g.now F) hk (h s F S)
theorem w_with {pos : Pos} {f : Value} {first : List Value} {e : Expr} {rest : List Expr} {Q : Value → Loc → Store → Prop} (g : Gnd n c) (hk : keepIn c.g.K f = true)
    (h : W c (spliced (backTo pos (starEach (e :: rest) env))) m σ (fun vs m' σ' => W c (call f (first ++ vs)) m' σ' Q X) X)
    (he : starEach (e :: rest) env = (false, eval e env) :: starEach rest env := by rfl) (hp : (backTo pos (starEach rest env)).any (·.1) = false := by rfl) :
    W c (callWith pos f first (backTo pos (starEach (e :: rest) env)) []) m σ Q X :=
  fun s F S => callWith_K g.X hk (wpAny_mono (h s F S) (fun vs s₁ A => by
    refine ⟨?_, A.next fun _ _ w => w⟩
    obtain ⟨h', tk, m', σ', rfl, F', S', _, w⟩ := A
    exact g.now (s := { s with heap := h', toks := tk }) F') fun _ _ x => x) he hp
/-- a built-in's call: no road of its own -/
def plainF : Value → Bool
  | .ref _ => false
  | _ => true
theorem keeps_plain {M : Model} {f : Value} (hf : plainF f = true) (h : Heap) (_ : True) : ∃ k, (k = Keeper.frame ∨ k = Keeper.machine ∨ k = Keeper.boundFrame) ∧ Looks M h (keeperOf f) k := by
  refine ⟨.machine, .inr (.inl rfl), ?_⟩
  cases f with
  | ref a => cases hf
  | _ => exact fun A Q E s _ q => wpAny_pure q
theorem w_bwith0 {pos : Pos} {f : Value} {first : List Value} {Q : Value → Loc → Store → Prop} (hf : plainF f = true) (h : W c (call f (first ++ [])) m σ Q X) :
    W c (callWith pos f first (backTo pos (starEach [] env)) []) m σ Q X :=
  fun s F S => callWith_of (P := fun _ => True) rfl (keeps_plain hf) (evalArgs_nil3 ⟨trivial, h s F S⟩)
theorem w_bwith {pos : Pos} {f : Value} {first : List Value} {e : Expr} {rest : List Expr} {Q : Value → Loc → Store → Prop} (hf : plainF f = true)
    (h : W c (spliced (backTo pos (starEach (e :: rest) env))) m σ (fun vs m' σ' => W c (call f (first ++ vs)) m' σ' Q X) X)
    (he : starEach (e :: rest) env = (false, eval e env) :: starEach rest env := by rfl) (hp : (backTo pos (starEach rest env)).any (·.1) = false := by rfl) :
    W c (callWith pos f first (backTo pos (starEach (e :: rest) env)) []) m σ Q X := by
  rw [he] at h ⊢
  exact fun s F S => callWith_of (P := fun _ => True) (by show ((false || (backTo pos (starEach rest env)).any (·.1)) || false) = false; rw [hp]; rfl) (keeps_plain hf)
    (evalArgs_plain (wpAny_mono (h s F S) (fun vs s₁ A => ⟨trivial, A.next fun _ _ w => w⟩) fun _ _ x => x))

/-- what a call of f comes to, from whatever frame -/
def Fn (g : Pg) (n : Nat) (f : Value) (args : List Value) (σ : Store) (Q X : Value → Store → Prop) : Prop :=
  ∀ (A : Around) (env : Env) (h₀ : Heap) (m : Loc) (s : Shared), Gnd n ⟨g, A, env, h₀⟩ → Frm ⟨g, A, env, h₀⟩ s.heap m → Sto ⟨g, A, env, h₀⟩ s.heap σ →
    codeAny (model g.prog g.w) A (.call f ⟨args, []⟩) (fun r s' => match r with
      | .ok (.ret v) => After ⟨g, A, env, h₀⟩ σ s s' (fun m' σ' => m' = m ∧ Q v σ')
      | .ok _ => False
      | .error e => AftX ⟨g, A, env, h₀⟩ σ s s' (fun e m' σ' => m' = m ∧ X e σ') e) s
theorem Gnd.less {k : Nat} (g : Gnd n c) (h : k ≤ n) : Gnd k c := ⟨g.B, g.fr, g.knd, g.glob, g.bi, g.X, g.T, g.hh, by have := g.dep; omega, by have := g.un; omega, g.base, g.XB, g.TB, g.baseB⟩
theorem w_fn {f : Value} {args : List Value} {Q : Value → Loc → Store → Prop} {k : Nat} {P Y : Value → Store → Prop} (g : Gnd n c) (hk : k ≤ n) (hf : Fn c.g k f args σ P Y) (h : ∀ v σ', P v σ' → Q v m σ') (hx : ∀ e σ', Y e σ' → X e m σ') : W c (call f args) m σ Q X :=
  fun s F S => wpAny_call (codeAny_mono (hf c.A c.env c.h₀ m s (g.less hk) F S) fun r s' z => by
    rcases r with e | (_ | _ | _ | v)
    · exact AftX.mono z fun e m' σ' q => by obtain ⟨rfl, q⟩ := q; exact hx e σ' q
    · exact z
    · exact z
    · exact z
    · exact After.mono z fun m' σ' q => by obtain ⟨rfl, q⟩ := q; exact h v σ' q)
theorem Fn.mono {g : Pg} {f : Value} {args : List Value} {Q X Q' X' : Value → Store → Prop} (h : Fn g n f args σ Q X) (hQ : ∀ v σ', Q v σ' → Q' v σ') (hX : ∀ v σ', X v σ' → X' v σ') : Fn g n f args σ Q' X' :=
  fun A env h₀ m s G F S => codeAny_mono (h A env h₀ m s G F S) fun r s' z => by
    rcases r with e | (_ | _ | _ | v)
    · exact AftX.mono z fun _ m' σ' q => ⟨q.1, hX _ _ q.2⟩
    · exact z
    · exact z
    · exact z
    · exact After.mono z fun m' σ' q => ⟨q.1, hQ _ _ q.2⟩

/-- behind a call: the caller's frame again -/
theorem called_back {c c' : Cx} {σ : Store} {s : Shared} {h₁ : Heap} (F : Frm c s.heap m) (FG : Fr c.h₀ c.env.locals c'.h₀ (loc c m)) (st : c.h₀.StaysIn c'.h₀)
    (N' : News c'.h₀ c'.env.locals h₁ (allOf c s.heap)) (F' : Fr c'.h₀ c'.env.locals h₁ (loc c' m')) (young : ∀ b o, s.heap.get? b = some o → ¬ FA c' b)
    (S : Sto c s.heap σ) {h' : Heap} {m'' : Loc} {σ' : Store} (F'' : Frm c' h' m'') (S'' : Sto c' h' σ') (x : Fra c' σ h₁ h' σ') :
    Frm c h' m ∧ Sto c h' σ' ∧ Fra c σ s.heap h' σ' := by
  have LG : ∃ oL, c'.h₀.get? c.env.locals = some oL := by obtain ⟨oL, _, _, hL, _⟩ := FG.ns; exact ⟨oL, hL⟩
  have elder : ∀ b o, s.heap.get? b = some o → b ≠ c.env.locals → h₁.get? b = some o := by
    intro b o e l
    cases q : c.h₀.get? b with
    | some y =>
      rw [F.keep b y q] at e; cases e
      exact F'.keep b o (st b o q)
    | none => exact (N' (b, o) (mem_lst.mpr ⟨Heap.lt_size e, full_some.mpr ⟨l, q, e⟩⟩)).1
  have kept : ∀ b o, s.heap.get? b = some o → σ b = none → b ≠ c.env.locals → h'.get? b = some o := fun b o e n l => x.kept b o (elder b o e l) n (young b o e)
  have cellσ : ∀ y b, c.env.cells.lookup y = some b → σ b = none := fun y b hy => by
    cases q : σ b with
    | none => rfl
    | some o => exact absurd (.inr ⟨y, hy⟩) (S b o q).2.1
  refine ⟨F.on ?_ fun y b hy o e => kept b o e (cellσ y b hy) (F.off y b hy).1, fun a o e => ⟨(S'' a o e).1, fun q => ?_, ?_⟩, fun b o e n l => kept b o e n fun q => l (.inl q), fun b o e => ?_⟩
  · obtain ⟨oL, es, ep, hL, r⟩ := FG.ns
    exact ⟨⟨oL, es, ep, F''.keep _ _ hL, r⟩, fun b o e => F''.keep b o (st b o e), F.F.above⟩
  · rcases q with q | ⟨y, hy⟩
    · obtain ⟨oL, hL⟩ := LG
      have := (S'' a o e).2.2; rw [q, hL] at this; cases this
    · rcases x.grow a o e with z | z
      · exact z (cellσ y a hy)
      · obtain ⟨o', ho', _⟩ := F.cell y a hy
        rw [elder a o' ho' (F.off y a hy).1] at z; cases z
  · cases q : c.h₀.get? a with
    | none => rfl
    | some o' => have := (S'' a o e).2.2; rw [st _ _ q] at this; cases this
  · rcases x.grow b o e with q | q
    · exact .inl q
    · right
      cases k : s.heap.get? b with
      | none => rfl
      | some o' =>
        by_cases l : b = c.env.locals
        · obtain ⟨oL, hL⟩ := LG
          rw [l, F'.keep _ _ hL] at q; cases q
        · rw [elder b o' k l] at q; cases q

theorem fn_of_body {g : Pg} {f : Addr} {args : List Value} {Q X : Value → Store → Prop} {name qual : Str} {params : Arguments} {body : List Stmt} {scope : Scope} {dV kV doc pm cdv ct oc : Value} {an od : Option Addr} {osl : Array (Option Value)} {binds : List (Str × Value)}
    (ho : g.K.lookup f = some ⟨oc, od, .func (fnX name qual params body scope [] dV kV doc pm an cdv ct), osl⟩) (hcd : codeIn g.K cdv qual = true)
    (hb : bindArgs (fnX name qual params body scope [] dV kV doc pm an cdv ct) ⟨args, []⟩ = pure binds) (hloc : ∀ y ∈ binds, scope.names.lookup y.1 = some .local) (hcell : ∀ x ∈ scope.names, x.2 ≠ .cell)
    (hco : scope.isCoroutine = false) (hgen : scope.isGenerator = false) (hk : scope.kind = .function)
    (h : ∀ c : Cx, c.g = g → Gnd n c → c.env.scope = scope → c.env.cells = [] → W c (execs body c.env) (fun y => binds.reverse.lookup y) σ (fun fl _ σ' => Q (match fl with | .ret v => v | _ => .none) σ') (fun _ _ _ => False)) :
    Fn g (n + 1) (.ref f) args σ Q X := by
  intro A env h₀ m s G F S
  obtain ⟨A₀, outer, B, hA⟩ := G.B
  dsimp only at B hA
  have hfr : env.frame = some env.locals := G.fr
  have hke : env.scope.kind = .function := G.knd
  have N := all_news ⟨g, A, env, h₀⟩ s.heap
  have KX : g.K.In s.heap := G.now F
  refine callX_plain (cl := []) B F.F N G.T.nolimit hA hfr hke (KX _ _ ho) rfl (codeRec_of KX hcd) (by have := G.dep; dsimp only at this; omega) (BindsTo.of_eq hb) hloc ?_ hcell hco hgen hk
  intro g' L' h₁ FG F' N' B' st young
  let c' : Cx := ⟨g, A.deeper (envX qual scope L' f cdv []), envX qual scope L' f cdv [], g'⟩
  have hloc0 : ∀ m : Loc, loc c' m = m := fun m => by funext x; rfl
  have G' : Gnd n c' := by
    refine ⟨⟨A, env :: outer, B', by show (A.frames.map _) = _; rw [hA]; rfl⟩, rfl, hk, rfl, rfl, G.X.keeps st, G.T.keeps st, G.hh, ?_, ?_, G.base.at fun o e => st _ o e, G.XB, G.TB, G.baseB⟩
    · have := G.dep
      show A.depth + 1 + 2 * n < recursionLimit
      dsimp only at this; omega
    · have := G.un
      show A.units + 3 + 20 * n + 20 < cLine
      dsimp only at this; omega
  have F1 : Frm c' h₁ (fun y => binds.reverse.lookup y) := ⟨by rw [hloc0]; exact F', fun x a hx => (by cases hx), fun x a hx => (by cases hx), fun x y a hx => (by cases hx)⟩
  have yng : ∀ b o, s.heap.get? b = some o → ¬ FA c' b := by
    intro b o e q
    rcases q with q | ⟨x, hx⟩
    · have hb : b = L' := q
      subst hb
      by_cases l : b = env.locals
      · obtain ⟨oL, _, _, hL, _⟩ := FG.ns
        exact absurd (Nat.lt_of_lt_of_le (Heap.lt_size (show g'.get? b = some oL from l ▸ hL)) F'.above) (Nat.lt_irrefl _)
      · cases q : h₀.get? b with
        | some y => exact absurd (Nat.lt_of_lt_of_le (Heap.lt_size (st b y q)) F'.above) (Nat.lt_irrefl _)
        | none => exact absurd (young (b, o) (mem_lst.mpr ⟨Heap.lt_size e, full_some.mpr ⟨l, q, e⟩⟩)) (Nat.lt_irrefl _)
    · cases hx
  have S1 : Sto c' h₁ σ := fun a o e => by
    have mem : (a, o) ∈ allOf ⟨g, A, env, h₀⟩ s.heap := mem_lst.mpr ⟨S.lt e, S.full (c := ⟨g, A, env, h₀⟩) a o e⟩
    exact ⟨(N' _ mem).1, yng a o (S a o e).1, (N' _ mem).2.2⟩
  have key := h c' rfl G' rfl rfl { s with heap := h₁, toks := s.toks + binds.length } F1 S1
  have back := fun {h' : Heap} {m'' : Loc} {σ' : Store} => called_back (c := ⟨g, A, env, h₀⟩) (c' := c') (m := m) (m' := fun y => binds.reverse.lookup y) (s := s) (σ := σ) (h₁ := h₁) (h' := h') (m'' := m'') (σ' := σ') F FG st N' F1.F yng S
  refine wpAny_mono key (fun fl s' Aft => ?_) fun e s' Aft => ?_
  · obtain ⟨h', tk, m', σ', rfl, F'', S'', x, q⟩ := Aft
    obtain ⟨a1, a2, a3⟩ := back F'' S'' x
    exact ⟨L', _, [], F''.F, fun _ hp => (nomatch hp), fun _ _ => ⟨h', tk, m, σ', rfl, a1, a2, a3, rfl, q⟩⟩
  · exact Aft.no.elim
end
end Mine

open PySem PySem.W PySem.Calls PyProof.Rows
namespace Mine
section
variable {n : Nat} {c : Cx} {α : Type} {m : Loc} {σ : Store} {X : Value → Loc → Store → Prop}

abbrev NoX : Value → Loc → Store → Prop := fun _ _ _ => False

/-- the walk over what v yields, its turns' body -/
def Turns (c : Cx) (x : Str) (tp : Pos) (body : List Stmt) (v : Value) (m : Loc) (σ : Store) (Q : Flow → Loc → Store → Prop) : Prop :=
  ∀ s, Frm c s.heap m → Sto c s.heap σ →
    wpAny (model c.g.prog c.g.w) c.A (pyIter v) (fun it s₂ => codeAny (model c.g.prog c.g.w) c.A (.forLoop (.Name x tp) it body [] c.env)
      (fun r s' => match r with | .ok f => After c σ s s' (Q f) | .error _ => False) s₂) (fun _ _ => False) s

theorem w_for {x : Str} {tp pos : Pos} {iter : Expr} {body : List Stmt} {Q : Flow → Loc → Store → Prop}
    (h : W c (eval iter c.env) m σ (fun v m₁ σ₁ => Turns c x tp body v m₁ σ₁ Q) X)
    (hs : ∀ x, foldedSetIterable iter c.env x = Pure.pure x := by intro _; rfl) : W c (exec (.For (.Name x tp) iter body [] pos) c.env) m σ Q X :=
  fun s F S => wpAny_For (wpAny_mono (h s F S) (fun v s₁ A => by
    obtain ⟨h', tk, m', σ', rfl, F', S', fx, T⟩ := A
    refine wpAny_mono (T { s with heap := h', toks := tk } F' S') (fun it s₂ C => codeAny_mono C fun r s' z => ?_) fun _ _ x => x.elim
    cases r with
    | error e => exact z.elim
    | ok f => exact z.on rfl fx) fun _ _ x => x) hs

/-- between two turns -/
structure Mid (c : Cx) (σ₀ : Store) (s₀ : Shared) (I : Addr) (SW : Nat → Heap → Prop) (J : Nat → Loc → Store → Prop) (i : Nat) (m : Loc) (σ : Store) (h : Heap) : Prop where
  F : Frm c h m
  S : Sto c h σ
  fra : Fra c σ₀ s₀.heap h σ
  J : J i m σ
  sw : SW i h
  no : σ I = none

theorem turns_walk {x : Str} {tp : Pos} {body : List Stmt} {v : Value} {Q : Flow → Loc → Store → Prop} (g : Gnd n c) (hx : c.env.kindOf x = some .local) (hxc : c.env.cells.lookup x = none) {N : Nat} {P : Nat → Value → Prop} (J : Nat → Loc → Store → Prop)
    (fp : Addr → List Addr) (SW : Addr → Nat → Heap → Prop)
    (open_ : ∀ s, Frm c s.heap m → Sto c s.heap σ → ∃ io : Obj, io.isFreed = false ∧ Walks c.g.prog c.g.w c.A s.heap.objs.size (fp s.heap.objs.size) [s.heap.objs.size] N P (SW s.heap.objs.size) ∧ SW s.heap.objs.size 0 (s.heap.push io) ∧
      ∀ Q' E', Q' (.ref s.heap.objs.size) { s with heap := s.heap.push io } → wpAny (model c.g.prog c.g.w) c.A (pyIter v) Q' E' s)
    (some_ : ∀ I i h, SW I i h → (h.get? I).isSome = true)
    (stay : ∀ I, ∀ b ∈ fp I, b ≠ I → ∃ o, ∀ i m σ, J i m σ → (c.h₀.get? b = some o ∨ σ b = some o))
    (h0 : J 0 m σ)
    (turn : ∀ i v m' σ', i < N → P i v → J i m' σ' → W c (execs body c.env) (setM m' x v) σ' (fun f m'' σ'' => match f with
      | .next => J (i + 1) m'' σ'' | .cont => J (i + 1) m'' σ'' | .brk => Q .next m'' σ'' | .ret r => Q (.ret r) m'' σ'') NoX)
    (done : ∀ m' σ', J N m' σ' → Q .next m' σ') : Turns c x tp body v m σ Q := by
  intro s F S
  obtain ⟨io, hio, Wk, sw0, go⟩ := open_ s F S
  refine go _ _ ?_
  generalize hI : s.heap.objs.size = I at *
  have hIs : s.heap.get? I = none := by rw [← hI]; exact no_end _
  have hI0 : c.h₀.get? I = none := by
    cases q : c.h₀.get? I with
    | none => rfl
    | some o => rw [F.keep I o q] at hIs; cases hIs
  have hIL : ¬ FA c I := F.notNew hIs
  have pushK : ∀ b o, s.heap.get? b = some o → (s.heap.push io).get? b = some o := fun b o e => Heap.get?_push_of_some _ e
  refine codeAny_forLoop (fun k s' => ∃ i m' σ' h tk, k = N - i ∧ i ≤ N ∧ s' = { s with heap := h, toks := tk } ∧ Mid c σ s I (SW I) J i m' σ' h) ?_ N ?_
  · rintro k s' ⟨i, m', σ', h, tk, rfl, hi, rfl, M⟩
    have hIh : ∃ o, h.get? I = some o := Option.isSome_iff_exists.mp (some_ I i h M.sw)
    -- what holds behind a step of the iterator
    have next : ∀ h', (∀ b o, b ∉ [I] → h.get? b = some o → h'.get? b = some o) → Frm c h' m' ∧ Sto c h' σ' ∧ Fra c σ s.heap h' σ' := by
      intro h' hk
      have ne : ∀ b, b ≠ I → b ∉ [I] := fun b q z => q (List.mem_singleton.mp z)
      refine ⟨M.F.on ⟨?_, fun b o e => hk b o (ne b fun q => by rw [q, hI0] at e; cases e) (M.F.keep b o e), M.F.F.above⟩ fun x b hb o e => hk b o (ne b fun q => hIL (q ▸ .inr ⟨x, hb⟩)) e, fun a o e => ⟨hk a o (ne a fun q => by rw [q, M.no] at e; cases e) (M.S a o e).1, (M.S a o e).2⟩, fun b o e z l => hk b o (ne b fun q => by rw [q, hIs] at e; cases e) (M.fra.kept b o e z l), M.fra.grow⟩
      obtain ⟨oL, es, ep, hL, r⟩ := M.F.F.ns
      exact ⟨oL, es, ep, hk _ _ (ne _ fun q => hIL (.inl q.symm)) hL, r⟩
    rcases Nat.lt_or_ge i N with hlt | hge
    · refine Wk.item i _ _ _ hlt M.sw fun v h' tk' hP hsw hk => ?_
      obtain ⟨F', S', fx⟩ := next h' hk
      dsimp only
      refine wpAny_assign_Name (wpAny_storeName_local hx F'.F.ns (fun h2 hn hsb => ?_) (by rw [g.knd]; rfl))
      have F2 : Frm c h2 (setM m' x v) := ⟨loc_set hxc ▸ F'.F.set hn hsb, fun y a hy => by
        have e : y ≠ x := fun q => by rw [q, hxc] at hy; cases hy
        obtain ⟨o, ho, hd⟩ := F'.cell y a hy
        exact ⟨o, (hsb.2 a (F'.off y a hy).1).trans ho, by rw [hd]; unfold setM; rw [if_neg e]⟩, F'.off, F'.inj⟩
      have S2 : Sto c h2 σ' := fun a o e => ⟨(hsb.2 a fun q => (S' a o e).2.1 (.inl q)).trans (S' a o e).1, (S' a o e).2⟩
      have fx2 : Fra c σ s.heap h2 σ' := ⟨fun b o e z l => (hsb.2 b fun q => l (.inl q)).trans (fx.kept b o e z l), fx.grow⟩
      have sw2 : SW I (i + 1) h2 := by
        refine Wk.frame _ _ _ hsw fun b hb o e => (hsb.2 b fun q => ?_).trans e
        subst q
        by_cases e2 : c.env.locals = I
        · exact hIL (.inl e2.symm)
        · obtain ⟨o', ho'⟩ := stay I c.env.locals hb e2
          rcases ho' i m' σ' M.J with q | q
          · exact absurd (Nat.lt_of_lt_of_le (Heap.lt_size q) F.F.above) (Nat.lt_irrefl _)
          · exact (S' _ _ q).2.1 (.inl rfl)
      have key := turn i v m' σ' hlt hP M.J { s with heap := h2, toks := tk' + 1 } F2 S2
      refine wpAny_mono key (fun f s3 A3 => ?_) fun e s3 A3 => ?_
      · obtain ⟨h3, tk3, m3, σ3, rfl, F3, S3, x3, q3⟩ := A3
        have fx3 := fx2.trans x3 S3
        have ends : ∀ {f}, Q f m3 σ3 → After c σ s { s with heap := h3, toks := tk3 } (Q f) := fun q => ⟨h3, tk3, m3, σ3, rfl, F3, S3, fx3, q⟩
        have on : J (i + 1) m3 σ3 → ∃ k', k' < N - i ∧ ∃ i' m' σ' h tk, k' = N - i' ∧ i' ≤ N ∧ ({ s with heap := h3, toks := tk3 } : Shared) = { s with heap := h, toks := tk } ∧ Mid c σ s I (SW I) J i' m' σ' h := by
          intro q
          refine ⟨N - (i + 1), by omega, i + 1, m3, σ3, h3, tk3, rfl, by omega, rfl, F3, S3, fx3, q, ?_, ?_⟩
          · refine Wk.frame _ _ _ sw2 fun b hb o e => ?_
            by_cases e2 : b = I
            · subst e2; exact x3.kept _ o e M.no hIL
            · obtain ⟨o', ho'⟩ := stay I b hb e2
              have h2b : h2.get? b = some o' := by
                rcases ho' i m' σ' M.J with q | q
                · exact F2.keep b o' q
                · exact (S2 b o' q).1
              rw [h2b] at e; cases e
              rcases ho' (i + 1) m3 σ3 q with q | q
              · exact F3.keep b o q
              · exact (S3 b o q).1
          · cases z : σ3 I with
            | none => rfl
            | some o =>
              rcases x3.grow I o z with r | r
              · exact absurd M.no r
              · have : h2.get? I ≠ none := by
                  obtain ⟨o2, ho2⟩ := Option.isSome_iff_exists.mp (some_ I _ h2 sw2)
                  rw [ho2]; exact fun q => nomatch q
                exact absurd r this
        cases f with
        | next => exact on q3
        | cont => exact on q3
        | brk => exact ends q3
        | ret r => exact ends q3
      · exact A3.no.elim
    · have : i = N := by omega
      subst this
      refine Wk.done _ _ _ M.sw fun h' tk' hk => ?_
      obtain ⟨F', S', fx⟩ := next h' hk
      exact wpAny_execs_nil ⟨h', tk', m', σ', rfl, F', S', fx, done m' σ' M.J⟩
  · refine ⟨0, m, σ, s.heap.push io, s.toks, rfl, Nat.zero_le _, rfl, F.keeps pushK, fun a o e => ⟨pushK _ _ (S a o e).1, (S a o e).2⟩, ⟨fun b o e _ _ => pushK b o e, fun a o e => .inl (by rw [e]; exact fun q => nomatch q)⟩, h0, sw0, ?_⟩
    cases z : σ I with
    | none => rfl
    | some o => rw [(S I o z).1] at hIs; cases hIs
end
end Mine

open PySem PySem.W PySem.Calls PyProof.Rows
namespace Mine
section
variable {n : Nat} {c : Cx} {α : Type} {m : Loc} {σ : Store} {X : Value → Loc → Store → Prop}

theorem isList_of {h : Heap} {l : Addr} {vs : List Value} {k : Nat} (S : Sto c h σ) (e : σ l = some (lstO vs k)) : h.IsList l vs.toArray := ⟨_, (S l _ e).1, rfl, k, rfl⟩
theorem isTup_of {h : Heap} {l : Addr} {vs : List Value} (S : Sto c h σ) (e : σ l = some (tupO vs)) : IsTup h l vs.toArray := ⟨_, (S l _ e).1, rfl, 0, rfl⟩
theorem isList_base {h : Heap} {l : Addr} {its : Array Value} (F : Frm c h m) (e : c.h₀.IsList l its) : h.IsList l its := e.at fun o q => F.keep l o q
theorem pushed {s : Shared} (F : Frm c s.heap m) (S : Sto c s.heap σ) (o : Obj) (hf : o.isFreed = false) : Frm c (s.heap.push o) m ∧ Sto c (s.heap.push o) (upd σ s.heap.objs.size o) ∧ Fra c σ s.heap (s.heap.push o) (upd σ s.heap.objs.size o) :=
  grown F S (F.F.push o) (no_end _) ((all_news c s.heap).push F.F o hf)

/-! ### ranges -/
abbrev rngO (a b : Int) (t u v : Tok) : Obj := { cls := .type "range", data := .fields #[.int a t, .int b u, .int 1 v] }
theorem w_range1 {k : Int} {t : Tok} {Q : Value → Loc → Store → Prop} (h : ∀ a t u v, σ a = none → Q (.ref a) m (upd σ a (rngO 0 k t u v))) : W c (call (.type "range") [.int k t]) m σ Q X :=
  fun _ F S => call_range_1 (After.at (pushed F S _ rfl) (h _ _ _ _ S.fresh))
abbrev Turn (c : Cx) (x : Str) (body : List Stmt) (Q : Flow → Loc → Store → Prop) (J : Loc → Store → Prop) (v : Value) (m : Loc) (σ : Store) : Prop :=
  W c (execs body c.env) (setM m x v) σ (fun f m'' σ'' => match f with
      | .next => J m'' σ'' | .cont => J m'' σ'' | .brk => Q .next m'' σ'' | .ret r => Q (.ret r) m'' σ'') NoX

theorem turns_range {x : Str} {tp : Pos} {body : List Stmt} {r : Addr} {i k : Int} {t u v : Tok} {Q : Flow → Loc → Store → Prop} (g : Gnd n c) (hx : c.env.kindOf x = some .local) (hxc : c.env.cells.lookup x = none) (J : Nat → Loc → Store → Prop)
    (hr : σ r = some (rngO i k t u v)) (hi : -(2 ^ 62) ≤ i) (hi' : i < 2 ^ 62) (hk : -(2 ^ 62) ≤ k) (hk' : k < 2 ^ 62) (h0 : J 0 m σ)
    (turn : ∀ j t m' σ', j < (k - i).toNat → J j m' σ' → Turn c x body Q (J (j + 1)) (.int (i + j) t) m' σ')
    (done : ∀ m' σ', J (k - i).toNat m' σ' → Q .next m' σ') : Turns c x tp body (.ref r) m σ Q := by
  have hsm := small_one hi hi' hk hk'
  have hsz : Builtin.Range.rangeSize i k 1 = (((k - i).toNat : Nat) : Int) := by rw [rangeSize_one]; split <;> omega
  refine turns_walk (N := (k - i).toNat) (P := fun j v => ∃ t, v = .int (i + j * 1) t) g hx hxc J (fun I => [I]) (fun I j h => IsRangeIter h I (i + (j : Nat) * 1) (((k - i).toNat : Int) - (j : Nat)) 1) ?_ ?_ ?_ h0 ?_ done
  · intro s F S
    refine ⟨{ cls := .type "range_iterator", data := .fields #[rawInt i, rawInt (Builtin.Range.rangeSize i k 1), rawInt 1] }, rfl, Walks.range g.hh _ i 1 _, ?_, fun Q' E' hq => wpAny_pyIter_range (S r _ hr).1 hsm hq⟩
    show IsRangeIter _ _ _ _ _
    rw [hsz]
    simpa using Heap.get?_push_size s.heap (o := { cls := .type "range_iterator", data := .fields #[rawInt i, rawInt (((k - i).toNat : Nat) : Int), rawInt 1] }) rfl
  · intro I j h e; rw [show h.get? I = _ from e]; rfl
  · intro I b hb hne; exact absurd (List.mem_singleton.mp hb) hne
  · rintro j v m' σ' hj ⟨t, rfl⟩ hJ
    rw [show i + (j : Int) * 1 = i + (j : Int) by omega]
    exact turn j t m' σ' hj hJ

/-! ### lists walked -/
theorem turns_list {x : Str} {tp : Pos} {body : List Stmt} {l : Addr} {vs : List Value} {k : Nat} {Q : Flow → Loc → Store → Prop} (g : Gnd n c) (hx : c.env.kindOf x = some .local) (hxc : c.env.cells.lookup x = none) (J : Nat → Loc → Store → Prop)
    (hl : ∀ i m σ, J i m σ → σ l = some (lstO vs k)) (h0 : J 0 m σ)
    (turn : ∀ j v m' σ', vs[j]? = some v → J j m' σ' → Turn c x body Q (J (j + 1)) v m' σ')
    (done : ∀ m' σ', J vs.length m' σ' → Q .next m' σ') : Turns c x tp body (.ref l) m σ Q := by
  refine turns_walk (N := vs.length) (P := fun j v => vs.toArray[j]? = some v) g hx hxc J (fun I => [I, l]) (fun I j h => h.IsListIter I l j ∧ h.IsList l vs.toArray) ?_ ?_ ?_ h0 ?_ done
  · intro s F S
    have hls := isList_of S (hl _ _ _ h0)
    have hne : l ≠ s.heap.objs.size := Nat.ne_of_lt (S.lt (hl _ _ _ h0))
    have Wk := Walks.list (prog := c.g.prog) (w := c.g.w) g.hh s.heap.objs.size l hne vs.toArray
    rw [List.size_toArray] at Wk
    exact ⟨{ cls := .type "list_iterator", data := .fields #[.ref l, .int 0 0] }, rfl, Wk, ⟨⟨_, Heap.get?_push_size _ rfl, rfl, rfl⟩, hls.at fun o e => Heap.get?_push_of_some _ e⟩, fun Q' E' hq => wpAny_pyIter_list hls hq⟩
  · rintro I j h ⟨⟨o, ho, _⟩, _⟩; rw [ho]; rfl
  · intro I b hb hne
    rcases List.mem_cons.mp hb with q | q
    · exact absurd q hne
    · rw [List.mem_singleton.mp q]; exact ⟨_, fun i m σ q => .inr (hl i m σ q)⟩
  · intro j v m' σ' _ hP hJ
    exact turn j v m' σ' (by simpa using hP) hJ
/-! ### lists, tuples: length, items -/
theorem w_len {l : Addr} {vs : List Value} {k : Nat} {Q : Value → Loc → Store → Prop} (hl : σ l = some (lstO vs k)) (hz : vs.length ≤ sizeLine) (h : ∀ t, Q (.int vs.length t) m σ) : W c (call (.builtin "len") [.ref l]) m σ Q X :=
  fun _ F S => call_len_list (isList_of S hl) (by rw [sizeLine_eq] at hz; simp; omega) (After.tok F S (by simpa using h _))
theorem w_len_base {l : Addr} {vs : List Value} {Q : Value → Loc → Store → Prop} (hl : c.h₀.IsList l vs.toArray) (hz : vs.length ≤ sizeLine) (h : ∀ t, Q (.int vs.length t) m σ) : W c (call (.builtin "len") [.ref l]) m σ Q X :=
  fun _ F S => call_len_list (isList_base F hl) (by rw [sizeLine_eq] at hz; simp; omega) (After.tok F S (by simpa using h _))
theorem w_item {value slice : Expr} {l : Addr} {vs : List Value} {k : Nat} {i : Int} {t : Tok} {v : Value} {Q : Value → Loc → Store → Prop} (hl : σ l = some (lstO vs k)) (h0 : 0 ≤ i) (h1 : i < 2 ^ 63) (hv : vs[i.toNat]? = some v) (h : Q v m σ)
    (hs : subscripted slice false (.ref l) (.int i t) = operate [.ref l, .int i t] (getItem (.ref l) (.int i t)) := by with_unfolding_all rfl) : W c (subscriptTail value slice (.ref l) (.int i t)) m σ Q X :=
  fun _ F S => tail_any (isList_of S hl).typeIs slot_list_getitem.lookup (wpAny_getItem_list (isList_of S hl) h0 h1 (by simpa using hv) (After.here F S h)) hs
theorem w_item_base {value slice : Expr} {l : Addr} {vs : List Value} {i : Int} {t : Tok} {v : Value} {Q : Value → Loc → Store → Prop} (hl : c.h₀.IsList l vs.toArray) (h0 : 0 ≤ i) (h1 : i < 2 ^ 63) (hv : vs[i.toNat]? = some v) (h : Q v m σ)
    (hs : subscripted slice false (.ref l) (.int i t) = operate [.ref l, .int i t] (getItem (.ref l) (.int i t)) := by with_unfolding_all rfl) : W c (subscriptTail value slice (.ref l) (.int i t)) m σ Q X :=
  fun _ F S => tail_any (isList_base F hl).typeIs slot_list_getitem.lookup (wpAny_getItem_list (isList_base F hl) h0 h1 (by simpa using hv) (After.here F S h)) hs
theorem w_item_tup {value slice : Expr} {l : Addr} {vs : List Value} {i : Int} {j : Nat} {t : Tok} {v : Value} {Q : Value → Loc → Store → Prop} (hl : σ l = some (tupO vs)) (h0 : -(2 ^ 63) ≤ i) (h1 : i < 2 ^ 63) (hj : seqIndex? i vs.length = some j) (hv : vs[j]? = some v) (h : Q v m σ)
    (hs : subscripted slice false (.ref l) (.int i t) = operate [.ref l, .int i t] (getItem (.ref l) (.int i t)) := by with_unfolding_all rfl) : W c (subscriptTail value slice (.ref l) (.int i t)) m σ Q X :=
  fun _ F S => item_tupleT (isTup_of S hl) h0 h1 hj hv (After.here F S h) hs

/-! ### lists changed -/
theorem w_lmeth {l : Addr} {vs : List Value} {k : Nat} {name : Str} {id : String} {pl : Sem Bool} {Q : Value × List Value → Loc → Store → Prop} (hl : σ l = some (lstO vs k)) (slot : Slot "list" name id) (hty : typeOf (.builtin id) = Pure.pure (.type "method_descriptor"))
    (h : Q (.builtin id, [.ref l]) m σ) : W c (getMethod (.ref l) name pl) m σ Q X :=
  fun _ F S => getMethod_builtin ⟨_, (S l _ hl).1, rfl⟩ PySem.F.plainAttrs_list slot hty (fun a e => by cases e; exact ⟨_, (S l _ hl).1, rfl⟩) (After.here F S h)
theorem w_append {l : Addr} {vs : List Value} {k : Nat} {v : Value} {Q : Value → Loc → Store → Prop} (hl : σ l = some (lstO vs k)) (hz : vs.length ≤ sizeLine) (h : Q .none m (upd σ l (lstO (vs ++ [v]) (k + 1)))) : W c (call (.builtin "list.append") [.ref l, v]) m σ Q X :=
  fun s F S => by
    obtain ⟨l', U, back⟩ := turned (o' := lstO (vs ++ [v]) (k + 1)) F S hl
    refine append_K F.F (all_news c s.heap) (its := vs.toArray) (n := k) (news' := l') (by simpa using U) (fun h' F' N' => After.at (back h' F' N') h) (by simpa using hz)
theorem w_pop {l : Addr} {vs : List Value} {k j : Nat} {i : Int} {t : Tok} {v : Value} {Q : Value → Loc → Store → Prop} (hl : σ l = some (lstO vs k)) (hz : vs.length ≤ sizeLine) (hi : i = (j : Int)) (hv : vs[j]? = some v)
    (h : Q v m (upd σ l (lstO (vs.eraseIdx j) (k + 1)))) : W c (call (.builtin "list.pop") [.ref l, .int i t]) m σ Q X :=
  fun s F S => by
    have hj : j < vs.length := by
      rcases Nat.lt_or_ge j vs.length with q | q
      · exact q
      · rw [List.getElem?_eq_none q] at hv; cases hv
    have ev : vs[j] = v := by rw [List.getElem?_eq_getElem hj] at hv; exact Option.some.inj hv
    have e1 : vs = vs.take j ++ v :: vs.drop (j + 1) := by
      rw [← ev, List.getElem_cons_drop, List.take_append_drop]
    have e2 : vs.eraseIdx j = vs.take j ++ vs.drop (j + 1) := List.eraseIdx_eq_take_drop_succ vs j
    obtain ⟨l', U, back⟩ := turned (o' := lstO (vs.eraseIdx j) (k + 1)) F S hl
    have z := S l _ hl
    subst hi
    rw [sizeLine_eq] at hz
    have cut : ∀ (p q : List Value), kl_cut (p ++ v :: q) p.length = some (p, v, q) := by
      intro p q
      induction p with
      | nil => rfl
      | cons x p ih => show (match kl_cut (p ++ v :: q) p.length with | some (p', y, q') => some (x :: p', y, q') | none => none) = _; rw [ih]
    have cutv : kl_cut vs j = some (vs.take j, v, vs.drop (j + 1)) := by
      have := cut (vs.take j) (vs.drop (j + 1))
      rw [← e1, List.length_take, Nat.min_eq_left (by omega)] at this
      exact this
    refine kl_popAt F.F (all_news c s.heap) (its := vs.toArray) (k := j) (p := vs.take j) (q := vs.drop (j + 1)) (y := v) ?_ ?_ cutv (by rw [← e2]; exact U) (by rw [sizeLine_eq]; exact hz) fun h' F' N' => After.at (back h' F' N') h
    · unfold Builtin.List.listFitsIndex; simp; omega
    · unfold seqIndex?; simp; omega
theorem w_clear {l : Addr} {vs : List Value} {k : Nat} {Q : Value → Loc → Store → Prop} (hl : σ l = some (lstO vs k)) (hne : vs.length ≠ 0) (hz : vs.length ≤ sizeLine) (h : Q .none m (upd σ l (lstO [] (k + 1)))) : W c (call (.builtin "list.clear") [.ref l]) m σ Q X :=
  fun s F S => by
    obtain ⟨l', U, back⟩ := turned (o' := lstO [] (k + 1)) F S hl
    exact kl_clear F.F (all_news c s.heap) (its := vs.toArray) U hne hz fun h' F' N' => After.at (back h' F' N') h
theorem w_copy {l : Addr} {vs : List Value} {k : Nat} {Q : Value → Loc → Store → Prop} (hl : σ l = some (lstO vs k)) (hz : vs.length ≤ sizeLine) (h : ∀ a k', σ a = none → Q (.ref a) m (upd σ a (lstO vs k'))) : W c (call (.type "list") [.ref l]) m σ Q X :=
  fun s F S => call_list_seq l (.inl rfl) (S l _ hl).1 rfl rfl (fun h' c' hk hD => After.at (grown F S (F.F.keeps hk) (no_end _) (news_pushed F.F (all_news c s.heap) hk hD rfl)) (h _ _ S.fresh)) (by simpa using hz)
end
end Mine

open PySem PySem.W PySem.Calls PyProof.Rows
namespace Mine
section
variable {n : Nat} {c : Cx} {env : Env} {α : Type} {m : Loc} {σ : Store} {X : Value → Loc → Store → Prop}

/-! ### cells of a frame -/
theorem bindL_eq (k : Str → Option NameKind) : ∀ (binds : List (Str × Value)) (m : Loc) (x : Str), bindL k binds m x = if k x = some .local then (binds.reverse.lookup x).or (m x) else m x
  | [], m, x => by simp [bindL]
  | (y, v) :: r, m, x => by
    rw [bindL, bindL_eq k r]
    have e : ((y, v) :: r).reverse.lookup x = (r.reverse.lookup x).or (if x = y then some v else none) := by
      rw [List.reverse_cons, List.lookup_append]
      congr 1
      by_cases q : x = y
      · subst q; simp [List.lookup]
      · have : (x == y) = false := by simpa using q
        simp [List.lookup, this, q]
    rw [e]
    by_cases h : k x = some .local
    · rw [if_pos h, if_pos h, Option.or_assoc]
      congr 1
      by_cases q : x = y
      · subst q; simp [h]
      · by_cases h2 : k y = some .local
        · simp [h2, q]
        · simp [h2, q]
    · rw [if_neg h, if_neg h]
      by_cases h2 : k y = some .local
      · have : x ≠ y := fun q => h (q ▸ h2)
        simp [h2, this]
      · simp [h2]
theorem bindC_eq (k : Str → Option NameKind) : ∀ (binds : List (Str × Value)) (m : Loc) (x : Str), bindC k binds m x = if k x = some .local then m x else (binds.reverse.lookup x).or (m x)
  | [], m, x => by simp [bindC]
  | (y, v) :: r, m, x => by
    rw [bindC, bindC_eq k r]
    have e : ((y, v) :: r).reverse.lookup x = (r.reverse.lookup x).or (if x = y then some v else none) := by
      rw [List.reverse_cons, List.lookup_append]
      congr 1
      by_cases q : x = y
      · subst q; simp [List.lookup]
      · have : (x == y) = false := by simpa using q
        simp [List.lookup, this, q]
    rw [e]
    by_cases h : k x = some .local
    · rw [if_pos h, if_pos h]
      by_cases h2 : k y = some .local
      · simp [h2]
      · have : x ≠ y := fun q => h2 (q ▸ h)
        simp [h2, this]
    · rw [if_neg h, if_neg h, Option.or_assoc]
      congr 1
      by_cases q : x = y
      · subst q; simp [h]
      · by_cases h2 : k y = some .local
        · simp [h2, q]
        · simp [h2, q]
theorem cf_apart : ∀ (names : List (Str × NameKind)) (n : Nat) (acc : List (Str × Addr)), (∀ p ∈ acc, p.2 < n) → acc.Pairwise (fun x y => x.2 ≠ y.2) → (cellsFrom n names acc).Pairwise fun x y => x.2 ≠ y.2
  | [], _, _, _, h => h
  | (y, k) :: r, n, acc, h1, h2 => by
    unfold cellsFrom
    split
    · refine cf_apart r (n + 1) _ (fun p hp => ?_) (List.pairwise_cons.mpr ⟨fun p hp => Nat.ne_of_gt (h1 p hp), h2⟩)
      rcases List.mem_cons.mp hp with rfl | hp
      · exact Nat.lt_succ_self _
      · exact Nat.lt_succ_of_lt (h1 p hp)
    · exact cf_apart r n acc h1 h2
theorem mem_of_look {l : List (Str × Addr)} {x : Str} {a : Addr} (h : l.lookup x = some a) : (x, a) ∈ l := by
  induction l with
  | nil => cases h
  | cons p r ih =>
    rw [List.lookup_cons] at h
    by_cases q : (x == p.1) = true
    · rw [q] at h; cases h; rw [eq_of_beq q]; exact .head _
    · have : (x == p.1) = false := by simpa using q
      rw [this] at h; exact .tail _ (ih h)
theorem apart_inj {l : List (Str × Addr)} (h : l.Pairwise fun x y => x.2 ≠ y.2) {x y : Str} {a : Addr} (hx : (x, a) ∈ l) (hy : (y, a) ∈ l) : x = y := by
  induction l with
  | nil => cases hx
  | cons p r ih =>
    obtain ⟨h1, h2⟩ := List.pairwise_cons.mp h
    rcases List.mem_cons.mp hx with e | hx
    · rcases List.mem_cons.mp hy with e' | hy
      · rw [← e'] at e; exact (Prod.mk.inj e).1
      · exact absurd (by rw [← e]) (h1 _ hy)
    · rcases List.mem_cons.mp hy with e' | hy
      · exact absurd (by rw [← e']) (h1 _ hx)
      · exact ih h2 hx hy
theorem cells_at {cm : Loc} {cs : List (Str × Addr)} {cells : List (Addr × Obj)} (Y : CellsAre cm cs cells) {x : Str} {a : Addr} (h : cs.lookup x = some a) : ∃ o, (a, o) ∈ cells ∧ o.data = .cell (cm x) := by
  induction Y with
  | nil => cases h
  | @cons y c o cs cells hd _ ih =>
    rw [List.lookup_cons] at h
    by_cases q : (x == y) = true
    · rw [q] at h; cases h; rw [eq_of_beq q]; exact ⟨_, .head _, hd⟩
    · have : (x == y) = false := by simpa using q
      rw [this] at h
      obtain ⟨o, ho, hd⟩ := ih h
      exact ⟨o, .tail _ ho, hd⟩
/-- a frame with cells, entered -/
theorem frm_cells {c : Cx} {h₁ : Heap} {binds : List (Str × Value)} {cells : List (Addr × Obj)} {k : Nat} (hc : c.env.cells = cellsFrom k c.env.scope.names [])
    (F : Fr c.h₀ c.env.locals h₁ (bindL c.env.kindOf binds fun _ => none)) (N : News c.h₀ c.env.locals h₁ cells) (Y : CellsAre (bindC c.env.kindOf binds fun _ => none) c.env.cells cells)
    (hkind : ∀ y ∈ binds, c.env.kindOf y.1 = some .local ∨ c.env.kindOf y.1 = some .cell) (hcl : ∀ x a, c.env.cells.lookup x = some a → c.env.kindOf x = some .cell) (hcl' : ∀ x, c.env.kindOf x = some .cell → (c.env.cells.lookup x).isSome = true) :
    Frm c h₁ (fun y => binds.reverse.lookup y) := by
  have e1 : loc c (fun y => binds.reverse.lookup y) = bindL c.env.kindOf binds fun _ => none := by
    funext x
    rw [bindL_eq]
    unfold loc
    cases q : c.env.cells.lookup x with
    | some a => rw [hcl x a q]; simp
    | none =>
      simp only [Option.isSome_none, Bool.false_eq_true, if_false]
      by_cases h : c.env.kindOf x = some .local
      · rw [if_pos h]; simp
      · rw [if_neg h]
        cases z : binds.reverse.lookup x with
        | none => rfl
        | some v =>
          exfalso
          have mem : ∃ y ∈ binds, y.1 = x := by
            have : ∀ l : List (Str × Value), l.lookup x = some v → ∃ y ∈ l, y.1 = x := by
              intro l
              induction l with
              | nil => intro h; cases h
              | cons p r ih =>
                intro h
                rw [List.lookup_cons] at h
                by_cases q : (x == p.1) = true
                · exact ⟨p, .head _, (eq_of_beq q).symm⟩
                · have : (x == p.1) = false := by simpa using q
                  rw [this] at h
                  obtain ⟨y, hy, e⟩ := ih h
                  exact ⟨y, .tail _ hy, e⟩
            obtain ⟨y, hy, e⟩ := this _ z
            exact ⟨y, List.mem_reverse.mp hy, e⟩
          obtain ⟨y, hy, e⟩ := mem
          rcases hkind y hy with k | k
          · exact h (e ▸ k)
          · have := hcl' x (e ▸ k); rw [q] at this; cases this
  have ap : c.env.cells.Pairwise fun x y => x.2 ≠ y.2 := by rw [hc]; exact cf_apart _ _ _ (fun _ h => nomatch h) List.Pairwise.nil
  refine ⟨e1 ▸ F, fun x a hx => ?_, fun x a hx => ?_, fun x y a hx hy => apart_inj ap (mem_of_look hx) (mem_of_look hy)⟩
  · obtain ⟨o, ho, hd⟩ := cells_at Y hx
    refine ⟨o, (N _ ho).1, ?_⟩
    rw [hd, bindC_eq, hcl x a hx]; simp
  · obtain ⟨o, ho, _⟩ := cells_at Y hx
    exact ⟨(N _ ho).2.1, (N _ ho).2.2⟩
theorem cf_kind : ∀ (names : List (Str × NameKind)) (k : Nat) (acc : List (Str × Addr)) (p : Str × Addr), p ∈ cellsFrom k names acc → p ∈ acc ∨ (p.1, NameKind.cell) ∈ names
  | [], _, _, _, h => .inl h
  | (y, kd) :: r, k, acc, p, h => by
    unfold cellsFrom at h
    split at h
    · rename_i hk
      rcases cf_kind r (k + 1) _ p h with q | q
      · rcases List.mem_cons.mp q with rfl | q
        · exact .inr (by rw [eq_of_beq hk]; exact .head _)
        · exact .inl q
      · exact .inr (.tail _ q)
    · rcases cf_kind r k acc p h with q | q
      · exact .inl q
      · exact .inr (.tail _ q)
theorem look_mem_nodup {l : List (Str × NameKind)} (h : (l.map (·.1)).Nodup) {x : Str} {k : NameKind} (hm : (x, k) ∈ l) : l.lookup x = some k := by
  induction l with
  | nil => cases hm
  | cons p r ih =>
    rw [List.lookup_cons]
    obtain ⟨h1, h2⟩ := List.nodup_cons.mp h
    rcases List.mem_cons.mp hm with rfl | hm
    · simp
    · have : (x == p.1) = false := by
        apply beq_eq_false_iff_ne.mpr
        intro e
        exact h1 (List.mem_map.mpr ⟨(x, k), hm, e⟩)
      rw [this]; exact ih h2 hm

theorem fn_of_bodyC {g : Pg} {f : Addr} {args : List Value} {Q X : Value → Store → Prop} {name qual : Str} {params : Arguments} {body : List Stmt} {scope : Scope} {dV kV doc pm cdv ct oc : Value} {an od : Option Addr} {osl : Array (Option Value)} {binds : List (Str × Value)}
    (ho : g.K.lookup f = some ⟨oc, od, .func (fnX name qual params body scope [] dV kV doc pm an cdv ct), osl⟩) (hcd : codeIn g.K cdv qual = true)
    (hb : bindArgs (fnX name qual params body scope [] dV kV doc pm an cdv ct) ⟨args, []⟩ = pure binds) (hkind : (binds.all fun y => scope.names.lookup y.1 == some .local || scope.names.lookup y.1 == some .cell) = true)
    (hnd : (scope.names.map (·.1)).Nodup) (hco : scope.isCoroutine = false) (hgen : scope.isGenerator = false) (hk : scope.kind = .function)
    (h : ∀ c : Cx, c.g = g → Gnd n c → c.env.scope = scope → c.env.cells = cellsFrom (c.env.locals + 1) scope.names [] → W c (execs body c.env) (fun y => binds.reverse.lookup y) σ (fun fl _ σ' => Q (match fl with | .ret v => v | _ => .none) σ') (fun _ _ _ => False)) :
    Fn g (n + 1) (.ref f) args σ Q X := by
  intro A env h₀ m s G F S
  obtain ⟨A₀, outer, B, hA⟩ := G.B
  dsimp only at B hA
  have hfr : env.frame = some env.locals := G.fr
  have hke : env.scope.kind = .function := G.knd
  have N := all_news ⟨g, A, env, h₀⟩ s.heap
  have KX : g.K.In s.heap := G.now F
  have hnd' : ((cellsFrom 0 scope.names []).map (·.1)).Nodup := by
    have : ∀ (names : List (Str × NameKind)) (k : Nat) (acc : List (Str × Addr)), (names.map (·.1)).Nodup → (acc.map (·.1)).Nodup → (∀ p ∈ acc, p.1 ∉ names.map (·.1)) → ((cellsFrom k names acc).map (·.1)).Nodup := by
      intro names
      induction names with
      | nil => intro k acc _ h _; exact h
      | cons p r ih =>
        obtain ⟨y, kd⟩ := p
        intro k acc h1 h2 h3
        obtain ⟨a1, a2⟩ := List.nodup_cons.mp h1
        unfold cellsFrom
        split
        · refine ih (k + 1) _ a2 (List.nodup_cons.mpr ⟨fun q => ?_, h2⟩) fun p hp => ?_
          · obtain ⟨p, hp, e⟩ := List.mem_map.mp q
            exact h3 p hp (by rw [e]; exact .head _)
          · rcases List.mem_cons.mp hp with rfl | hp
            · exact a1
            · exact fun q => h3 p hp (.tail _ q)
        · exact ih k acc a2 h2 fun p hp q => h3 p hp (.tail _ q)
    exact this _ 0 [] hnd List.nodup_nil (fun _ h => nomatch h)
  refine callX_cells B F.F N G.T.nolimit hA hfr hke (KX _ _ ho) rfl (codeRec_of KX hcd) (by have := G.dep; dsimp only at this; omega) (BindsTo.of_eq hb) (kindsX hkind) hnd' ?_ hco hgen hk
  intro g' L' h₁ tk cells FG F' N' Y B' st young
  let c' : Cx := ⟨g, A.deeper (envOfC qual scope L' f cdv), envOfC qual scope L' f cdv, g'⟩
  have G' : Gnd n c' := by
    refine ⟨⟨A, env :: outer, B', by show (A.frames.map _) = _; rw [hA]; rfl⟩, rfl, hk, rfl, rfl, G.X.keeps st, G.T.keeps st, G.hh, ?_, ?_, G.base.at fun o e => st _ o e, G.XB, G.TB, G.baseB⟩
    · have := G.dep
      show A.depth + 1 + 2 * n < recursionLimit
      dsimp only at this; omega
    · have := G.un
      show A.units + 3 + 20 * n + 20 < cLine
      dsimp only at this; omega
  have hbk : ∀ y ∈ binds, c'.env.kindOf y.1 = some .local ∨ c'.env.kindOf y.1 = some .cell := fun y hy => by
    have := List.all_eq_true.mp hkind y hy
    rcases Bool.or_eq_true_iff.mp this with q | q
    · exact .inl (beq_iff_eq.mp q)
    · exact .inr (beq_iff_eq.mp q)
  have hcl : ∀ x a, c'.env.cells.lookup x = some a → c'.env.kindOf x = some .cell := fun x a hx => by
    rcases cf_kind scope.names (L' + 1) [] (x, a) (mem_of_look hx) with q | q
    · cases q
    · exact look_mem_nodup hnd q
  have NC : News g' L' h₁ cells := fun p hp => N' p (List.mem_append.mpr (.inl hp))
  have NO : News g' L' h₁ (allOf ⟨g, A, env, h₀⟩ s.heap) := fun p hp => N' p (List.mem_append.mpr (.inr hp))
  have F1 : Frm c' h₁ (fun y => binds.reverse.lookup y) := frm_cells (k := L' + 1) rfl F' NC Y hbk hcl fun x hx => cellsFrom_some _ _ _ (.inl hx)
  have yng : ∀ b o, s.heap.get? b = some o → ¬ FA c' b := by
    intro b o e q
    have hlt : b < L' := by
      by_cases l : b = env.locals
      · obtain ⟨oL, _, _, hL, _⟩ := FG.ns
        exact Nat.lt_of_lt_of_le (Heap.lt_size (show g'.get? b = some oL from l ▸ hL)) F'.above
      · cases q : h₀.get? b with
        | some y => exact Nat.lt_of_lt_of_le (Heap.lt_size (st b y q)) F'.above
        | none => exact young (b, o) (mem_lst.mpr ⟨Heap.lt_size e, full_some.mpr ⟨l, q, e⟩⟩)
    rcases q with q | ⟨x, hx⟩
    · have hb : b = L' := q
      rw [hb] at hlt; exact absurd hlt (Nat.lt_irrefl _)
    · have ge : ∀ (names : List (Str × NameKind)) (k : Nat) (acc : List (Str × Addr)), (∀ p ∈ acc, L' < p.2) → L' < k → ∀ p ∈ cellsFrom k names acc, L' < p.2 := by
        intro names
        induction names with
        | nil => intro k acc h _; exact h
        | cons p r ih =>
          obtain ⟨y, kd⟩ := p
          intro k acc h1 h2
          unfold cellsFrom
          split
          · exact ih (k + 1) _ (fun p hp => by rcases List.mem_cons.mp hp with rfl | hp; exact h2; exact h1 p hp) (Nat.lt_succ_of_lt h2)
          · exact ih k acc h1 h2
      have := ge scope.names (L' + 1) [] (fun _ h => nomatch h) (Nat.lt_succ_self _) (x, b) (mem_of_look hx)
      exact absurd (Nat.lt_trans this hlt) (Nat.lt_irrefl _)
  have S1 : Sto c' h₁ σ := fun a o e => by
    have mem : (a, o) ∈ allOf ⟨g, A, env, h₀⟩ s.heap := mem_lst.mpr ⟨S.lt e, S.full (c := ⟨g, A, env, h₀⟩) a o e⟩
    exact ⟨(NO _ mem).1, yng a o (S a o e).1, (NO _ mem).2.2⟩
  have key := h c' rfl G' rfl rfl { s with heap := h₁, toks := tk } F1 S1
  have back := fun {h' : Heap} {m'' : Loc} {σ' : Store} => called_back (c := ⟨g, A, env, h₀⟩) (c' := c') (m := m) (m' := fun y => binds.reverse.lookup y) (s := s) (σ := σ) (h₁ := h₁) (h' := h') (m'' := m'') (σ' := σ') F FG st NO F1.F yng S
  refine wpAny_mono key (fun fl s' Aft => ?_) fun e s' Aft => ?_
  · obtain ⟨h', tk, m', σ', rfl, F'', S'', x, q⟩ := Aft
    obtain ⟨a1, a2, a3⟩ := back F'' S'' x
    exact ⟨L', _, [], F''.F, fun _ hp => (nomatch hp), fun _ _ => ⟨h', tk, m, σ', rfl, a1, a2, a3, rfl, q⟩⟩
  · exact Aft.no.elim
end
end Mine

open PySem PySem.W PySem.Calls PyProof.Rows
namespace Mine
section
variable {n : Nat} {c : Cx} {env : Env} {α : Type} {m : Loc} {σ : Store} {X : Value → Loc → Store → Prop}

/-! ### a class called -/
theorem fn_make {g : Pg} {C fI : Addr} {args : List Value} {Q X : Value → Store → Prop} (hm : makesIn g.K C = true) (hi : findIn g.K (.ref C) "__init__" = some (some (.ref fI))) (hf : isFn g.K (.ref fI) = true)
    (h : ∀ x dx, σ x = none → σ dx = none → x ≠ dx → Fn g n (.ref fI) (.ref x :: args) (upd (upd σ dx (dictOf [] 0)) x (instObj C dx)) (fun v σ' => v = .none ∧ Q (.ref x) σ') X) : Fn g (n + 1) (.ref C) args σ Q X := by
  intro A env h₀ m s G F S
  refine W.make_K F.F (all_news ⟨g, A, env, h₀⟩ s.heap) (G.now F) hm hi (beq_iff_eq.mp hf) fun x dx h' F' N' hlt hxd => ?_
  have G' : Gnd n ⟨g, A.under (.builtin "type.__call__" ⟨.ref C :: args, []⟩), env, h₀⟩ := by
    obtain ⟨A₀, outer, B, hA⟩ := G.B
    refine ⟨⟨A₀, outer, B, hA⟩, G.fr, G.knd, G.glob, G.bi, G.X, G.T, G.hh, ?_, ?_, G.base, G.XB, G.TB, G.baseB⟩
    · have := G.dep
      show A.depth + 1 + 2 * n < recursionLimit
      dsimp only at this; omega
    · have := G.un
      show A.units + 1 + 20 * n + 20 < cLine
      dsimp only at this; omega
  have new : ∀ b o, s.heap.get? b = some o → b ≠ env.locals → h'.get? b = some o := fun b o e l => kept_of (c := ⟨g, A, env, h₀⟩) F F' e l fun z => (N' (b, o) (.tail _ (.tail _ (mem_lst.mpr ⟨Heap.lt_size e, z⟩)))).1
  have hdx : s.heap.get? dx = none := by
    cases q : s.heap.get? dx with
    | none => rfl
    | some o =>
      exfalso
      have N2 := (N' (dx, emptyDict) (.tail _ (.head _)))
      by_cases l : dx = env.locals
      · exact N2.2.1 l
      · exact absurd (hlt (dx, o) (mem_lst.mpr ⟨Heap.lt_size q, full_some.mpr ⟨l, N2.2.2, q⟩⟩)) (Nat.lt_irrefl _)
  have hx : s.heap.get? x = none := by
    cases q : s.heap.get? x with
    | none => rfl
    | some o =>
      exfalso
      have N2 := (N' (x, instObj C dx) (.head _))
      by_cases l : x = env.locals
      · exact N2.2.1 l
      · exact absurd (Nat.lt_trans hxd (hlt (x, o) (mem_lst.mpr ⟨Heap.lt_size q, full_some.mpr ⟨l, N2.2.2, q⟩⟩))) (Nat.lt_irrefl _)
  have F1 : Frm ⟨g, A, env, h₀⟩ h' m := F.on F' fun y b hb o e => new b o e (F.off y b hb).1
  have none_of : ∀ a, s.heap.get? a = none → σ a = none := fun a e => by
    cases q : σ a with
    | none => rfl
    | some o => rw [(S a o q).1] at e; cases e
  have hne : x ≠ dx := Nat.ne_of_gt hxd
  have S1 : Sto ⟨g, A, env, h₀⟩ h' (upd (upd σ dx (dictOf [] 0)) x (instObj C dx)) := fun a o e => by
    by_cases q : a = x
    · subst q; rw [upd_same] at e; cases e
      have := N' (a, instObj C dx) (.head _)
      exact ⟨this.1, F.notNew hx, this.2.2⟩
    · rw [upd_ne q] at e
      by_cases q2 : a = dx
      · subst q2; rw [upd_same] at e; cases e
        have := N' (a, emptyDict) (.tail _ (.head _))
        exact ⟨this.1, F.notNew hdx, this.2.2⟩
      · rw [upd_ne q2] at e
        exact ⟨new a o (S a o e).1 fun z => (S a o e).2.1 (.inl z), (S a o e).2⟩
  have fx : Fra ⟨g, A, env, h₀⟩ σ s.heap h' (upd (upd σ dx (dictOf [] 0)) x (instObj C dx)) := ⟨fun b o e _ l => new b o e fun z => l (.inl z), fun a o e => by
    by_cases q : a = x
    · subst q; exact .inr hx
    · rw [upd_ne q] at e
      by_cases q2 : a = dx
      · subst q2; exact .inr hdx
      · rw [upd_ne q2] at e; exact .inl (by rw [e]; exact fun q => nomatch q)⟩
  refine codeAny_mono (h x dx (none_of x hx) (none_of dx hdx) hne _ env h₀ m { s with heap := h' } G' ⟨F1.F, F1.cell, F1.off, F1.inj⟩ (fun a o e => S1 a o e)) fun r s' z => ?_
  rcases r with e | (_ | _ | _ | v)
  · rcases z with ⟨⟨h2, tk, m2, σ2, rfl, F2, S2, x2, q⟩, r⟩ | ⟨h2, tk, m2, σ2, e', C', rfl, rfl, ⟨⟨B, a0, outer, f1, f2, f3, f4, f5, f6⟩, ns, off, grow⟩, q⟩
    · have x3 : Fra ⟨g, A, env, h₀⟩ _ h' h2 σ2 := ⟨x2.kept, x2.grow⟩
      exact .inl ⟨⟨h2, tk, m2, σ2, rfl, ⟨F2.F, F2.cell, F2.off, F2.inj⟩, fun a o e => S2 a o e, fx.trans x3 (fun a o e => S2 a o e), q⟩, r⟩
    · have fl : Flies ⟨g, A, env, h₀⟩ _ h' h2 m2 σ2 e' C' := ⟨⟨B, a0, outer, f1, f2, f3, f4, f5, f6⟩, ns, off, grow⟩
      exact .inr ⟨h2, tk, m2, σ2, e', C', rfl, rfl, fl.on (s := s) (s₁ := { s with heap := h' }) (tk := s.toks) rfl fx, q⟩
  · exact z
  · exact z
  · exact z
  · obtain ⟨h2, tk, m2, σ2, rfl, F2, S2, x2, q1, q2, q3⟩ := z
    have x3 : Fra ⟨g, A, env, h₀⟩ _ h' h2 σ2 := ⟨x2.kept, x2.grow⟩
    exact ⟨q2, h2, tk, m2, σ2, rfl, ⟨F2.F, F2.cell, F2.off, F2.inj⟩, fun a o e => S2 a o e, fx.trans x3 (fun a o e => S2 a o e), q1, q3⟩

/-! ### the law's own call -/
theorem top_call {g : Pg} {s₁ : Shared} {name : Str} {params : Arguments} {body : List Stmt} {scope : Scope} {pm cd doc : Value} {fa : Addr} {o : Obj} {args : List Value} {binds : List (Str × Value)}
    (T : Top g.p g.loose g.mean g.mg g.mb s₁.heap) (KX : g.K.In s₁.heap) (hbase : s₁.heap.IsList g.bl g.bv.toArray) (hgh : g.h = s₁.heap) (ho : s₁.heap.get? fa = some o) (hd : o.data = .func (docDef name params body scope pm cd doc)) (hcd : s₁.heap.CodeRec cd name)
    (hb : bindArgs (docDef name params body scope pm cd doc) ⟨args, []⟩ = pure binds) (hkind : (binds.all fun y => scope.names.lookup y.1 == some .local || scope.names.lookup y.1 == some .cell) = true)
    (hnd : (scope.names.map (·.1)).Nodup) (hnd' : ((cellsFrom 0 scope.names []).map (·.1)).Nodup) (hco : scope.isCoroutine = false) (hgen : scope.isGenerator = false) (hk : scope.kind = .function)
    (h : ∀ c : Cx, c.g = g → Gnd 300 c → c.env.scope = scope → c.env.cells = cellsFrom (c.env.locals + 1) scope.names [] → c.h₀ = s₁.heap → c.A.frames = some [c.env] →
      W c (execs body c.env) (fun y => binds.reverse.lookup y) (fun _ => none) (fun fl _ _ => (match fl with | .ret v => v | _ => .none) = .bool true) NoX) :
    codeAny (model g.prog g.w) callerA (.call (.ref fa) ⟨args, []⟩) (fun r s' => r = .ok (.ret (.bool true)) ∧ (∀ b o, s₁.heap.get? b = some o → s'.heap.get? b = some o) ∧ s'.os = s₁.os ∧ s'.gens = s₁.gens) s₁ := by
  refine call_cellsN (by decide) ho hd T.nolimit hcd hb (fun x hx => kindsX hkind _ x hx) hnd' ?_ hco hgen hk
  intro h₁ tk cells F' NC Y
  let c' : Cx := ⟨g, callerA.deeper (envOfC name scope s₁.heap.objs.size fa cd), envOfC name scope s₁.heap.objs.size fa cd, s₁.heap⟩
  have G' : Gnd 300 c' := ⟨⟨callerA, [], by show Below callerA g.h [] s₁.heap; rw [hgh]; exact below_caller s₁.heap, rfl⟩, rfl, hk, rfl, rfl, KX, T, rfl, by show 1 + claimMargin + 1 + 2 * 300 < recursionLimit; decide, by show 4 + 3 + 20 * 300 + 20 < cLine; decide, hbase, by show g.K.In g.h; rw [hgh]; exact KX, by show Top g.p g.loose g.mean g.mg g.mb g.h; rw [hgh]; exact T, by show g.h.IsList g.bl g.bv.toArray; rw [hgh]; exact hbase⟩
  have hbk : ∀ y ∈ binds, c'.env.kindOf y.1 = some .local ∨ c'.env.kindOf y.1 = some .cell := fun y hy => by
    have := List.all_eq_true.mp hkind y hy
    rcases Bool.or_eq_true_iff.mp this with q | q
    · exact .inl (beq_iff_eq.mp q)
    · exact .inr (beq_iff_eq.mp q)
  have hcl : ∀ x a, c'.env.cells.lookup x = some a → c'.env.kindOf x = some .cell := fun x a hx => by
    rcases cf_kind scope.names (s₁.heap.objs.size + 1) [] (x, a) (mem_of_look hx) with q | q
    · cases q
    · exact look_mem_nodup hnd q
  have F1 : Frm c' h₁ (fun y => binds.reverse.lookup y) := frm_cells (k := s₁.heap.objs.size + 1) rfl F' NC Y hbk hcl fun x hx => cellsFrom_some _ _ _ (.inl hx)
  have S1 : Sto c' h₁ (fun _ => none) := fun _ _ e => nomatch e
  refine wpAny_mono (h c' rfl G' rfl rfl rfl rfl { s₁ with heap := h₁, toks := tk } F1 S1) (fun fl s' A => ?_) fun e s' A => ?_
  · obtain ⟨h', tk', m', σ', rfl, F2, S2, x2, q⟩ := A
    exact ⟨congrArg (fun v => Except.ok (Flow.ret v)) q, fun b o e => F2.keep b o e, rfl, rfl⟩
  · exact A.no.elim
end
theorem good_true (l : OpenLaw) {cl : Str → Option Addr} {mean : ExcName → Option Value} {args : List WData} {s₁ s' : Shared} (hk : ∀ b o, s₁.heap.get? b = some o → s'.heap.get? b = some o) (hos : s'.os = s₁.os) (hg : s'.gens = #[]) :
    GoodW l.row.claim cl mean args s₁ (.ok (.ret (.bool true))) s' :=
  ⟨.inl ⟨.bool true, .bool true, [], rfl, fun _ => rfl, .bool true, postW_of (r := l.row.toRowW) (X := (true == true)) rfl (w_eq_bool (R := l.row.records) (a := .res) (b := .lit (.bool true)) (k := true) (l := true) (w_res rfl) w_lit) rfl, fun _ => ⟨List.nodup_nil, fun _ h => nomatch h⟩⟩, hk, hos, hg⟩
end Mine

open PySem PySem.W PySem.Calls PyProof.Rows
namespace Mine
abbrev NoE : Value → Store → Prop := fun _ _ => False
/-- a branch -/
def Br (b : Bool) (P Q : Prop) : Prop := (b = true → P) ∧ (b = false → Q)
theorem br_true {P Q : Prop} (h : P) : Br true P Q := ⟨fun _ => h, fun e => nomatch e⟩
theorem br_false {P Q : Prop} (h : Q) : Br false P Q := ⟨fun e => (nomatch e), fun _ => h⟩
theorem br_not {b : Bool} {P Q : Prop} (h : Br b Q P) : Br (!b) P Q := by
  cases b with
  | true => exact br_false (h.1 rfl)
  | false => exact br_true (h.2 rfl)
theorem br_dec {p : Prop} [Decidable p] {P Q : Prop} (h1 : p → P) (h2 : ¬ p → Q) : Br (decide p) P Q := ⟨fun e => h1 (of_decide_eq_true e), fun e => h2 (of_decide_eq_false e)⟩
theorem br_beq {a b : Int} {P Q : Prop} (h1 : a = b → P) (h2 : a ≠ b → Q) : Br (a == b) P Q := ⟨fun e => h1 (eq_of_beq e), fun e => h2 (ne_of_beq_false e)⟩
theorem br_bne {a b : Int} {P Q : Prop} (h1 : a ≠ b → P) (h2 : a = b → Q) : Br (a != b) P Q := ⟨fun e => h1 (bne_iff_ne.mp e), fun e => h2 (by simpa using e)⟩
theorem br_any {b : Bool} {P Q : Prop} (h1 : b = true → P) (h2 : b = false → Q) : Br b P Q := ⟨h1, h2⟩

section
variable {n : Nat} {c : Cx} {env : Env} {sc : Scope} {α : Type} {m : Loc} {σ : Store} {X : Value → Loc → Store → Prop} {x : Str} {pos pos' : Pos} {v : Value}
theorem kind_is {k : NameKind} (hs : c.env.scope = sc) (hx : sc.names.lookup x = some k) : c.env.kindOf x = some k := by unfold Env.kindOf; rw [hs]; exact hx
theorem nocell (hc : c.env.cells = []) : c.env.cells.lookup x = none := by rw [hc]; rfl
theorem n_local {Q : Value → Loc → Store → Prop} (g : Gnd n c) (hs : c.env.scope = sc) (hc : c.env.cells = []) (hx : sc.names.lookup x = some .local) (hd : (x == ("__debug__" : Str)) = false) (hv : m x = some v) (h : Q v m σ) :
    W c (eval (.Name x pos) c.env) m σ Q X := w_local g.knd (kind_is hs hx) (nocell hc) hd hv h
theorem n_store {Q : Unit → Loc → Store → Prop} (g : Gnd n c) (hs : c.env.scope = sc) (hc : c.env.cells = []) (hx : sc.names.lookup x = some .local) (h : Q () (setM m x v) σ) : W c (storeName c.env x v) m σ Q X :=
  w_store g.knd (kind_is hs hx) (nocell hc) h
theorem n_glob {Q : Value → Loc → Store → Prop} (g : Gnd n c) (hs : c.env.scope = sc) (hx : sc.names.lookup x = some .globalImplicit) (hd : (x == ("__debug__" : Str)) = false) (hv : nsIn c.g.K mainGlobals x = some (some v)) (h : Q v m σ) :
    W c (eval (.Name x pos) c.env) m σ Q X := w_glob g g.ok (kind_is hs hx) hd (mg_of g.X g.T.g hv) h
theorem n_built {Q : Value → Loc → Store → Prop} (g : Gnd n c) (hs : c.env.scope = sc) (hx : sc.names.lookup x = some .globalImplicit) (hd : (x == ("__debug__" : Str)) = false) (hm : nsIn c.g.K mainGlobals x = some none) (hn : x ≠ "__name__") (hv : bootBuiltins x = some v) (h : Q v m σ) :
    W c (eval (.Name x pos) c.env) m σ Q X := w_built g g.ok (kind_is hs hx) hd (mg_none_of g.X g.T.g hm) hn hv h

/-! ### statements, with what follows -/
theorem execs_append (a b : List Stmt) (env : Env) : execs (a ++ b) env = (execs a env >>= fun f => match f with | .next => execs b env | f => pure f) := by
  induction a with
  | nil => show execs b env = (pure Flow.next >>= _); rfl
  | cons s r ih =>
    show (exec s env >>= fun f => match f with | .next => execs (r ++ b) env | f => pure f) = ((exec s env >>= fun f => match f with | .next => execs r env | f => pure f) >>= _)
    rw [bind_assoc]
    congr 1
    funext f
    cases f with
    | next => exact ih
    | _ => rfl
variable {rest : List Stmt} {Q : Flow → Loc → Store → Prop}
theorem x_nil (h : Q .next m σ) : W c (execs [] env) m σ Q X := w_execs_nil h
theorem x_assign {value : Expr} (hs : swapsWith value (some (.Name x pos')) pos.line env = Pure.pure false)
    (h : W c (eval value env) m σ (fun v m' σ' => W c (storeName env x v) m' σ' (fun _ m₂ σ₂ => W c (execs rest env) m₂ σ₂ Q X) X) X) : W c (execs (.Assign [.Name x pos'] value pos :: rest) env) m σ Q X :=
  w_execs_cons (w_assign hs h)
theorem x_attr {o value : Expr} {attr : Str} (hs : swapsWith value (some (.Attribute o attr pos')) pos.line env = Pure.pure false)
    (h : W c (eval value env) m σ (fun v m' σ' => W c (eval o env) m' σ' (fun ov m₂ σ₂ => W c (setAttr ov attr v) m₂ σ₂ (fun _ m₃ σ₃ => W c (execs rest env) m₃ σ₃ Q X) X) X) X) : W c (execs (.Assign [.Attribute o attr pos'] value pos :: rest) env) m σ Q X :=
  w_execs_cons (w_assign_attr hs h)
theorem x_ret {e : Expr} (h : W c (eval e env) m σ (fun v m' σ' => Q (.ret v) m' σ') X) : W c (execs (.Return (some e) pos :: rest) env) m σ Q X := w_execs_cons (w_ret h)
theorem x_expr {e : Expr} (hi : interactive env = false) (hs : swapsWith e none pos.line env = Pure.pure false) (h : W c (eval e env) m σ (fun _ m' σ' => W c (execs rest env) m' σ' Q X) X) : W c (execs (.Expr e pos :: rest) env) m σ Q X := w_execs_cons (w_expr h hi hs)
theorem x_if {test : Expr} {body orelse : List Stmt}
    (h : W c (isTrue test env (eval test env)) m σ (fun b m' σ' => Br b (W c (execs (body ++ rest) env) m' σ' Q X) (W c (execs (orelse ++ rest) env) m' σ' Q X)) X) :
    W c (execs (.If test body orelse pos :: rest) env) m σ Q X := by
  have e : execs (.If test body orelse pos :: rest) env = (standAt pos >>= fun _ => isTrue test env (eval test env) >>= fun b => if b then execs (body ++ rest) env else execs (orelse ++ rest) env) := by
    show ((standAt pos >>= fun _ => isTrue test env (eval test env) >>= fun b => if b then execs body env else execs orelse env) >>= fun f => match f with | .next => execs rest env | f => pure f) = _
    simp only [bind_assoc]
    congr 1
    funext _
    congr 1
    funext b
    cases b with
    | true => exact (execs_append body rest env).symm
    | false => exact (execs_append orelse rest env).symm
  rw [e]
  refine W.bind (fun s F S => wpAny_standAt (After.here F S ?_))
  refine W.bind (h.mono (fun b m' σ' q => ?_) fun _ _ _ q => q)
  cases b with
  | true => exact q.1 rfl
  | false => exact q.2 rfl
theorem x_for {tp : Pos} {iter : Expr} {body : List Stmt}
    (h : W c (eval iter env) m σ (fun v m₁ σ₁ => Turns c x tp body v m₁ σ₁ (fun f m' σ' => match f with | .next => W c (execs rest env) m' σ' Q X | f => Q f m' σ')) X) (he : env = c.env)
    (hs : ∀ x, foldedSetIterable iter env x = Pure.pure x) : W c (execs (.For (.Name x tp) iter body [] pos :: rest) env) m σ Q X := by
  subst he
  exact w_execs_cons (w_for h hs)

/-! ### tests with branches -/
theorem b_and {y : Expr} {l : List Expr} {whole : Sem Value} {Q : Bool → Loc → Store → Prop}
    (h : W c (isTrue y env (eval y env)) m σ (fun b m' σ' => Br b (W c (isTrue (.BoolOp .And l pos) env whole) m' σ' Q X) (Q false m' σ')) X) : W c (isTrue (.BoolOp .And (y :: l) pos) env whole) m σ Q X :=
  t_and (h.mono (fun b _ _ q => by cases b with | true => exact q.1 rfl | false => exact q.2 rfl) fun _ _ _ q => q)
theorem b_or {y : Expr} {l : List Expr} {whole : Sem Value} {Q : Bool → Loc → Store → Prop}
    (h : W c (isTrue y env (eval y env)) m σ (fun b m' σ' => Br b (Q true m' σ') (W c (isTrue (.BoolOp .Or l pos) env whole) m' σ' Q X)) X) : W c (isTrue (.BoolOp .Or (y :: l) pos) env whole) m σ Q X :=
  t_or (h.mono (fun b _ _ q => by cases b with | true => exact q.1 rfl | false => exact q.2 rfl) fun _ _ _ q => q)
theorem e_and {e₁ e₂ : Expr} {l : List Expr} {Q : Value → Loc → Store → Prop}
    (h : W c (eval e₁ env) m σ (fun v m₁ σ₁ => W c (truthy v) m₁ σ₁ (fun b m₂ σ₂ => Br b (W c (eval (.BoolOp .And (e₂ :: l) pos) env) m₂ σ₂ Q X) (Q v m₂ σ₂)) X) X) : W c (eval (.BoolOp .And (e₁ :: e₂ :: l) pos) env) m σ Q X :=
  w_and (h.mono (fun v _ _ w => w.mono (fun b _ _ q => by cases b with | true => exact q.1 rfl | false => exact q.2 rfl) fun _ _ _ q => q) fun _ _ _ q => q)
theorem e_if {test body orelse : Expr} {Q : Value → Loc → Store → Prop}
    (h : W c (isTrue test env (eval test env)) m σ (fun b m' σ' => Br b (W c (eval body env) m' σ' Q X) (W c (eval orelse env) m' σ' Q X)) X) : W c (eval (.IfExp test body orelse pos) env) m σ Q X :=
  w_ifexp (h.mono (fun b _ _ q => by cases b with | true => exact q.1 rfl | false => exact q.2 rfl) fun _ _ _ q => q)

/-! ### looking into the store -/
theorem look_new {a b : Addr} {o o' : Obj} (hn : σ a = none) (h : σ b = some o) : upd σ a o' b = some o := by
  rw [upd_ne fun q => by rw [q, hn] at h; cases h]; exact h
theorem look_off {a b : Addr} {o o' : Obj} (hne : b ≠ a) (h : σ b = some o) : upd σ a o' b = some o := by rw [upd_ne hne]; exact h
end

/-- the body of a def that raises nothing -/
theorem fn_body {n : Nat} {σ : Store} {g : Pg} {f : Addr} {args : List Value} {Q : Value → Store → Prop} {name qual : Str} {params : Arguments} {body : List Stmt} {scope : Scope} {dV kV doc pm cdv ct oc : Value} {an od : Option Addr} {osl : Array (Option Value)} (binds : List (Str × Value))
    (ho : g.K.lookup f = some ⟨oc, od, .func (fnX name qual params body scope [] dV kV doc pm an cdv ct), osl⟩) (hcd : codeIn g.K cdv qual = true)
    (hb : bindArgs (fnX name qual params body scope [] dV kV doc pm an cdv ct) ⟨args, []⟩ = pure binds) (hloc : ∀ y ∈ binds, scope.names.lookup y.1 = some .local) (hcell : ∀ x ∈ scope.names, x.2 ≠ .cell)
    (hco : scope.isCoroutine = false) (hgen : scope.isGenerator = false) (hk : scope.kind = .function)
    (h : ∀ (c : Cx) (m : Loc), c.g = g → Gnd n c → c.env.scope = scope → c.env.cells = [] → interactive c.env = false → (∀ y, m y = binds.reverse.lookup y) → W c (execs body c.env) m σ (fun fl _ σ' => Q (match fl with | .ret v => v | _ => .none) σ') NoX) :
    Fn g (n + 1) (.ref f) args σ Q NoE :=
  fn_of_body ho hcd hb hloc hcell hco hgen hk fun c h1 h2 h3 h4 => (h c _ h1 h2 h3 h4 (by unfold interactive; rw [h3, hk]; rfl) fun _ => rfl).mono (fun _ _ _ q => q) fun _ _ _ q => q.elim
end Mine

open PySem PySem.W PySem.Calls PyProof.Rows
namespace Mine
section
variable {n : Nat} {c : Cx} {env : Env} {m : Loc} {σ : Store} {X : Value → Loc → Store → Prop} {a b : Int} {t u : Tok} {Q : Value → Loc → Store → Prop}
theorem br_isT {b : Bool} {P Q : Prop} (e : b = true) (h : P) : Br b P Q := by subst e; exact br_true h
theorem br_isF {b : Bool} {P Q : Prop} (e : b = false) (h : Q) : Br b P Q := by subst e; exact br_false h
theorem s_eq {x y : Str} (h : Q (.bool (x == y)) m σ) : W c (compareOp .Eq (.str x t) (.str y u)) m σ Q X := fun _ F S => eq_str (After.here F S h)
theorem s_ne {x y : Str} (h : Q (.bool (x != y)) m σ) : W c (compareOp .NotEq (.str x t) (.str y u)) m σ Q X := fun _ F S => ne_str (After.here F S h)
theorem is_no (h : Q (.bool true) m σ) : W c (compareOp .Is .none .none) m σ Q X := fun _ F S => wpAny_is_self rfl (After.here F S h)
theorem isnot_no (h : Q (.bool false) m σ) : W c (compareOp .IsNot .none .none) m σ Q X := fun _ F S => wpAny_isNot_self rfl (After.here F S h)
theorem is_no_int (h : Q (.bool false) m σ) : W c (compareOp .Is (.int a t) .none) m σ Q X := fun _ F S => is_int_none (After.here F S h)
theorem isnot_no_int (h : Q (.bool true) m σ) : W c (compareOp .IsNot (.int a t) .none) m σ Q X := fun _ F S => isnot_int_none (After.here F S h)
theorem Fra.less {σ' τ' : Store} {h h' : Heap} (k : Sub σ' τ') (x : Fra c σ h h' τ') : Fra c σ h h' σ' := ⟨x.kept, fun a o e => x.grow a o (k a o e)⟩
/-- two objects made, of which one is told -/
theorem pushed2 {s : Shared} (F : Frm c s.heap m) (S : Sto c s.heap σ) (o o' : Obj) (hf : o.isFreed = false) (hf' : o'.isFreed = false) :
    Frm c ((s.heap.push o).push o') m ∧ Sto c ((s.heap.push o).push o') (upd σ (s.heap.objs.size + 1) o') ∧ Fra c σ s.heap ((s.heap.push o).push o') (upd σ (s.heap.objs.size + 1) o') := by
  obtain ⟨F1, S1, x1⟩ := pushed F S o hf
  obtain ⟨F2, S2, x2⟩ := pushed (s := { s with heap := s.heap.push o }) F1 S1 o' hf'
  have e : (s.heap.push o).objs.size = s.heap.objs.size + 1 := Heap.size_push ..
  have e2 : ({ s with heap := s.heap.push o } : Shared).heap.objs.size = s.heap.objs.size + 1 := e
  rw [e2] at S2 x2
  have k : Sub (upd σ (s.heap.objs.size + 1) o') (upd (upd σ s.heap.objs.size o) (s.heap.objs.size + 1) o') := fun b x q => by
    by_cases z : b = s.heap.objs.size + 1
    · subst z; rw [upd_same] at q ⊢; exact q
    · rw [upd_ne z] at q ⊢
      exact look_new S.fresh q
  exact ⟨F2, S2.sub k, (x1.trans x2 S2).less k⟩

theorem add_lists {l₁ l₂ : Addr} {vs ws : List Value} {k₁ k₂ : Nat} (h1 : σ l₁ = some (lstO vs k₁)) (h2 : σ l₂ = some (lstO ws k₂)) (hz : vs.length + ws.length ≤ sizeLine) (h : ∀ a, σ a = none → Q (.ref a) m (upd σ a (lstO (vs ++ ws) 0))) :
    W c (binaryOp .Add (.ref l₁) (.ref l₂)) m σ Q X := fun s F S =>
  add_arrays F.F (all_news c s.heap) (isList_of S h1) (isList_of S h2) (fun h' F' N' => After.at (grown F S F' (no_end _) (by simpa using N')) (h _ S.fresh)) (by simpa using hz)
theorem add_tups {l₁ l₂ : Addr} {vs ws : List Value} (h1 : σ l₁ = some (tupO vs)) (h2 : σ l₂ = some (tupO ws)) (hv : vs ≠ []) (hw : ws ≠ []) (hz : vs.length + ws.length ≤ sizeLine) (h : ∀ a, σ a = none → Q (.ref a) m (upd σ a (tupO (vs ++ ws)))) :
    W c (binaryOp .Add (.ref l₁) (.ref l₂)) m σ Q X := fun s F S =>
  PyProof.Rows.add_tuples F.F (all_news c s.heap) (isTup_of S h1) (isTup_of S h2) (fun e => absurd e hv) (fun _ e => absurd e hw) (fun _ _ h' F' N' => After.at (grown F S F' (no_end _) N') (h _ S.fresh)) hz
/-- a tuple's tail -/
theorem w_tail {value : Expr} {lower : Option Expr} {p pos : Pos} (h : W c (eval value env) m σ (fun o m₁ σ₁ => W c (evalPart lower env) m₁ σ₁ (fun vl m₂ σ₂ =>
      ∃ l vs k t, o = .ref l ∧ vl = .int ((k : Nat) : Int) t ∧ σ₂ l = some (tupO vs) ∧ 1 ≤ k ∧ k ≤ vs.length ∧ vs.length ≤ sizeLine ∧ ∀ a, σ₂ a = none → Q (.ref a) m₂ (upd σ₂ a (tupO (vs.drop k)))) X) X)
    (ht : ∀ o r, letTemporaryGo value o r = Pure.pure () := by intro _ _; rfl) : W c (eval (.Subscript value (.Slice lower none none p) pos) env) m σ Q X :=
  fun s F S => wpAny_Subscript_Slice (T := "tuple") slot_tuple_getitem.lookup (wpAny_mono (h s F S) (fun o s₁ A => by
    obtain ⟨h', tk, m', σ', rfl, F', S', x, w⟩ := A
    refine wpAny_Slice (wpAny_mono (w { s with heap := h', toks := tk } F' S') (fun vl s₂ A => ?_) fun _ _ e => e.on rfl x)
    obtain ⟨h2, tk2, m2, σ2, rfl, F2, S2, x2, l, vs, k, t, rfl, rfl, hl, h1, hk, hz, q⟩ := A
    rw [evalPart_none]
    refine wpAny_pure (wpAny_pure ?_)
    have ht := isTup_of S2 hl
    have ht' : IsTup (h2.push { cls := .type "slice", data := .fields #[.int ((k : Nat) : Int) t, .none, .none] }) l vs.toArray := ht.keeps fun _ _ e => Heap.get?_push_of_some _ e
    refine ⟨ht'.typeIs, getItem_tuple_from ht' (Heap.IsSliceOf.new ..) h1 (by simpa using hk) ?_ (by simpa using hz)⟩
    have P := pushed2 (s := { s with heap := h2, toks := tk2 }) F2 S2 { cls := .type "slice", data := .fields #[.int ((k : Nat) : Int) t, .none, .none] } (tupO (vs.drop k)) rfl rfl
    have hf : σ2 (h2.objs.size + 1) = none := by
      cases e : σ2 (h2.objs.size + 1) with
      | none => rfl
      | some o => exact absurd (show _ < h2.objs.size from S2.lt e) (by omega)
    have e : (h2.push { cls := .type "slice", data := .fields #[.int ((k : Nat) : Int) t, .none, .none] }).objs.size = h2.objs.size + 1 := Heap.size_push ..
    show After c σ s _ _
    refine After.on (s₁ := { s with heap := h2, toks := tk2 }) rfl (x.trans x2 S2) ?_
    refine ⟨_, tk2, m2, _, rfl, P.1, P.2.1, P.2.2, ?_⟩
    show Q (.ref (h2.push _).objs.size) _ _
    rw [e]
    exact q _ hf) fun _ _ e => e) ht
/-- a list's tail -/
theorem w_tailL {value : Expr} {lower : Option Expr} {p pos : Pos} (h : W c (eval value env) m σ (fun o m₁ σ₁ => W c (evalPart lower env) m₁ σ₁ (fun vl m₂ σ₂ =>
      ∃ l vs k t, o = .ref l ∧ vl = .int ((k : Nat) : Int) t ∧ (c.h₀.IsList l vs.toArray ∨ ∃ j, σ₂ l = some (lstO vs j)) ∧ vs.length ≤ sizeLine ∧ ∀ a, σ₂ a = none → Q (.ref a) m₂ (upd σ₂ a (lstO (vs.drop k) 0))) X) X)
    (ht : ∀ o r, letTemporaryGo value o r = Pure.pure () := by intro _ _; rfl) : W c (eval (.Subscript value (.Slice lower none none p) pos) env) m σ Q X :=
  fun s F S => wpAny_Subscript_list_slice (wpAny_mono (h s F S) (fun o s₁ A => by
    obtain ⟨h', tk, m', σ', rfl, F', S', x, w⟩ := A
    refine wpAny_mono (w { s with heap := h', toks := tk } F' S') (fun vl s₂ A => ?_) fun _ _ e => e.on rfl x
    obtain ⟨h2, tk2, m2, σ2, rfl, F2, S2, x2, l, vs, k, t, rfl, rfl, hl, hz, q⟩ := A
    rw [evalPart_none]
    have hl' : h2.IsList l vs.toArray := by
      rcases hl with hl | ⟨j, hl⟩
      · exact isList_base F2 hl
      · exact isList_of S2 hl
    refine wpAny_pure ⟨l, vs.toArray, some ((k : Nat) : Int), none, rfl, hl', by simpa using hz, .int _ _, .none, ?_⟩
    have P := pushed2 (s := { s with heap := h2, toks := tk2 }) F2 S2 { cls := .type "slice", data := .fields #[.int ((k : Nat) : Int) t, .none, .none] } (lstO (vs.drop k) 0) rfl rfl
    have hf : σ2 (h2.objs.size + 1) = none := by
      cases e : σ2 (h2.objs.size + 1) with
      | none => rfl
      | some o => exact absurd (show _ < h2.objs.size from S2.lt e) (by omega)
    refine After.on (s₁ := { s with heap := h2, toks := tk2 }) rfl (x.trans x2 S2) ?_
    rw [slicePick_from']
    exact ⟨_, tk2, m2, _, rfl, P.1, P.2.1, P.2.2, q _ hf⟩) fun _ _ e => e) ht

/-! ### ints -/
theorem i_div (hb : b ≠ 0) (hs : b.natAbs < 1073741824) (h : ∀ t, Q (.int (a.fdiv b) t) m σ) : W c (binaryOp .FloorDiv (.int a t) (.int b u)) m σ Q X := fun _ F S => floordiv_int hb (After.tok F S (h _)) (.inl (PyProof.noPylong_small hs))
theorem i_pow (hn : 0 ≤ b) (hn2 : b ≤ 1000000) (ha : a.natAbs < 2 ^ 64) (h : ∀ t, Q (.int (a ^ b.toNat) t) m σ) : W c (binaryOp .Pow (.int a t) (.int b u)) m σ Q X := fun _ F S => pow_int_small hn hn2 ha (After.tok F S (h _))
theorem isi_int_int (h : Q (.bool true) m σ) : W c (call (.builtin "isinstance") [.int a t, .type "int"]) m σ Q X := fun _ F S => IsiPair.int_int (After.here F S h)
theorem isi_int_bool (h : Q (.bool false) m σ) : W c (call (.builtin "isinstance") [.int a t, .type "bool"]) m σ Q X := fun _ F S => IsiPair.int_bool (After.tok F S h)
theorem isi_bool_bool {b : Bool} (h : Q (.bool true) m σ) : W c (call (.builtin "isinstance") [.bool b, .type "bool"]) m σ Q X := fun _ F S => IsiPair.bool_bool (After.here F S h)
theorem isi_list {l : Addr} {vs : List Value} {k : Nat} (hl : σ l = some (lstO vs k)) (h : Q (.bool true) m σ) : W c (call (.builtin "isinstance") [.ref l, .type "list"]) m σ Q X := fun _ F S => IsiPair.isList_list (isList_of S hl) (fun _ _ e => e) (After.here F S h)

/-! ### lists against lists -/
theorem stayed {s : Shared} {h' : Heap} (F : Frm c s.heap m) (S : Sto c s.heap σ) (F' : Fr c.h₀ c.env.locals h' (loc c m)) (N' : News c.h₀ c.env.locals h' (allOf c s.heap)) : Frm c h' m ∧ Sto c h' σ ∧ Fra c σ s.heap h' σ := by
  have old : ∀ b x, s.heap.get? b = some x → b ≠ c.env.locals → h'.get? b = some x := fun b x e l => kept_of F F' e l fun z => (N' _ ((st_full c s.heap).mem z)).1
  exact ⟨F.on F' fun x b hb o e => old b o e (F.off x b hb).1, fun b x e => ⟨old b x (S b x e).1 (fun q => (S b x e).2.1 (.inl q)), (S b x e).2⟩, fun b x e _ l => old b x e fun q => l (.inl q), fun b x e => .inl (by rw [e]; exact fun q => nomatch q)⟩
theorem eq_nil {l₁ l₂ : Addr} {vs : List Value} {k₁ k₂ : Nat} (g : Gnd n c) (h1 : σ l₁ = some (lstO vs k₁)) (h2 : σ l₂ = some (lstO [] k₂)) (h : Q (.bool (decide (vs.length = 0))) m σ) : W c (compareOp .Eq (.ref l₁) (.ref l₂)) m σ Q X := fun s F S => by
  have hu : c.A.units < cLine := by have := g.un; omega
  cases vs with
  | nil => exact PySem.SeqAt.eq_listAt (e := fun _ => true) (isList_of S h1) (isList_of S h2) rfl hu (fun j h1 => absurd h1 (by simp)) (After.here F S h)
  | cons v vs => exact PySem.SeqAt.eq_list_lengthsAt (isList_of S h1) (isList_of S h2) rfl hu (After.here F S (by simpa using h))
/-! ### sets of ints -/
theorem firstMet_nodup {ns : List Int} (hd : ns.Nodup) : ∀ i, i ≤ ns.length → (firstMet (fun i => ns.getD i 0) i).length = i
  | 0, _ => rfl
  | i + 1, h => by
    have ih := firstMet_nodup hd i (by omega)
    have hlt : i < ns.length := by omega
    rw [firstMet_succ]
    unfold step_dedup
    have : ((firstMet (fun i => ns.getD i 0) i).any fun x => x == ns.getD i 0) = false := by
      rw [firstMet_any, Bool.eq_false_iff]
      intro q
      obtain ⟨x, hx, e⟩ := List.any_eq_true.mp q
      obtain ⟨j, hj, rfl⟩ := List.mem_map.mp hx
      have hj := List.mem_range.mp hj
      have e := eq_of_beq e
      rw [List.getD_eq_getElem?_getD, List.getD_eq_getElem?_getD, List.getElem?_eq_getElem (by omega), List.getElem?_eq_getElem hlt] at e
      have := (List.getElem_inj hd).mp (show ns[j] = ns[i] from e)
      omega
    rw [this, if_neg Bool.false_ne_true, List.length_append, ih]
    rfl
theorem w_set_ints {l : Addr} {vs : List Value} {k : Nat} {ns : List Int} (g : Gnd n c) (hl : σ l = some (lstO vs k)) (hi : IntsAre vs ns) (hb : ns.length ≤ 1000)
    (h : ∀ x o, σ x = none → (∃ S, o.SetObjOf (intKind c.g.prog c.g.w) S (firstMet (fun i => ns.getD i 0) ns.length).length) → Q (.ref x) m (upd σ x o)) : W c (call (.type "set") [.ref l]) m σ Q X :=
  fun s F S => by
    have e : vs.toArray.size = ns.length := by rw [List.size_toArray]; exact hi.length
    refine PySem.call_set_list (items := vs.toArray) (ns := ns) g.hh (isList_of S hl) hi (by rw [e]; unfold scanBound; omega) fun h' tk hS hk => ?_
    rw [e] at hS
    obtain ⟨o, ho, hso⟩ := hS.objOf
    have hk' : ∀ b o, s.heap.get? b = some o → h'.get? b = some o := fun b o q => hk b o (Heap.lt_size q) q
    exact After.at (grown F S (F.F.keeps hk') (no_end _) (news_pushed F.F (all_news c s.heap) hk' ho rfl)) (h _ o S.fresh ⟨_, hso⟩)
theorem w_len_set {x : Addr} {o : Obj} {S : Int → Bool} {k : Nat} (hx : σ x = some o) (ho : o.SetObjOf (intKind c.g.prog c.g.w) S k) (hb : k ≤ 1000) (h : ∀ t, Q (.int k t) m σ) : W c (call (.builtin "len") [.ref x]) m σ Q X :=
  fun s F St => by
    obtain ⟨hex, es, ep, t, hd, _, _, hn, hf⟩ := ho
    subst hn
    exact call_len_set (St x _ hx).1 hex hd hf (by omega) (After.tok F St (h _))

/-! ### chains -/
theorem t_chain {l r₁ r₂ : Expr} {op₁ op₂ : CmpOp} {pos : Pos} {whole : Sem Value} {Q : Bool → Loc → Store → Prop}
    (h : W c (eval l env) m σ (fun a m₁ σ₁ => W c (eval r₁ env) m₁ σ₁ (fun b m₂ σ₂ => W c (compareOp op₁ a b) m₂ σ₂ (fun v m₃ σ₃ => W c (truthy v) m₃ σ₃ (fun q m₄ σ₄ =>
      Br q (W c (eval r₂ env) m₄ σ₄ (fun d m₅ σ₅ => W c (compareOp op₂ b d) m₅ σ₅ (fun v m₆ σ₆ => W c (truthy v) m₆ σ₆ Q X) X) X) (Q false m₄ σ₄)) X) X) X) X)
    (hm : lastMarks [op₁, op₂] [r₁, r₂] = false := by with_unfolding_all rfl) : W c (isTrue (.Compare l [op₁, op₂] [r₁, r₂] pos) env whole) m σ Q X :=
  fun s F S => isTrue_chain (wpAny_mono (h s F S) (fun a s₁ A => test_link (wpAny_mono (A.next fun _ _ w => w) (fun b s₂ A => wpAny_mono (A.next fun _ _ w => w) (fun v s₃ A => wpAny_mono (A.next fun _ _ w => w) (fun q s₄ A => by
    cases q with
    | false => exact A.mono fun _ _ z => z.2 rfl
    | true => exact test_last (wpAny_mono (A.next fun _ _ w => w.1 rfl) (fun d s₅ A => wpAny_mono (A.next fun _ _ w => w) (fun v s₆ A => A.next fun _ _ w => w) fun _ _ x => x) fun _ _ x => x)) fun _ _ x => x) fun _ _ x => x) fun _ _ x => x)) fun _ _ x => x) hm
end
end Mine

open PySem PySem.W PySem.Calls PyProof.Rows
namespace Mine

/-! ## list comprehensions -/
def drop (C : Addr) (σ : Store) : Store := fun a => if a = C then none else σ a
theorem drop_same {C : Addr} {σ : Store} : drop C σ C = none := if_pos rfl
theorem drop_ne {C a : Addr} {σ : Store} (h : a ≠ C) : drop C σ a = σ a := if_neg h
theorem drop_sub {C : Addr} {σ : Store} : Sub (drop C σ) σ := fun a o e => by
  by_cases q : a = C
  · subst q; rw [drop_same] at e; cases e
  · rw [drop_ne q] at e; exact e
theorem sub_drop {C : Addr} {σ τ : Store} (h : Sub σ τ) (hC : σ C = none) : Sub σ (drop C τ) := fun a o e => by
  rw [drop_ne fun q => by rw [q, hC] at e; cases e]; exact h a o e

theorem look_relabel_other {env : Env} {k₀ : NameKind} (hk : k₀ ≠ .free) : ∀ {names : List (Str × NameKind)} {x : Str}, names.lookup x = some k₀ →
    (names.map fun (n, k) => if (k == NameKind.free && env.scope.kind == .function && env.kindOf n == some .cell) then (n, NameKind.cell) else (n, k)).lookup x = some k₀
  | [], _, h => by simp at h
  | (n, k) :: r, x, h => by
    have ih := @look_relabel_other env k₀ hk r x
    show List.lookup x ((if (k == NameKind.free && env.scope.kind == .function && env.kindOf n == some .cell) = true then (n, NameKind.cell) else (n, k)) :: _) = _
    cases hx : x == n with
    | true =>
      simp only [List.lookup_cons, hx] at h
      cases h
      simp [List.lookup_cons, hx, hk]
    | false =>
      simp only [List.lookup_cons, hx] at h
      by_cases hc : (k == NameKind.free && env.scope.kind == .function && env.kindOf n == some .cell) = true
      · rw [if_pos hc]; simp only [List.lookup_cons, hx]; exact ih h
      · rw [if_neg hc]; simp only [List.lookup_cons, hx]; exact ih h
theorem look_relabel_free {env : Env} (hf : env.scope.kind = .function) : ∀ {names : List (Str × NameKind)} {x : Str}, names.lookup x = some .free → env.kindOf x = some .cell →
    (names.map fun (n, k) => if (k == NameKind.free && env.scope.kind == .function && env.kindOf n == some .cell) then (n, NameKind.cell) else (n, k)).lookup x = some .cell
  | [], _, h, _ => by simp at h
  | (n, k) :: r, x, h, hx' => by
    have ih := @look_relabel_free env hf r x
    show List.lookup x ((if (k == NameKind.free && env.scope.kind == .function && env.kindOf n == some .cell) = true then (n, NameKind.cell) else (n, k)) :: _) = _
    cases hx : x == n with
    | true =>
      simp only [List.lookup_cons, hx] at h
      cases h
      rw [eq_of_beq hx] at hx'
      simp [List.lookup_cons, hx, hf, hx']
    | false =>
      simp only [List.lookup_cons, hx] at h
      by_cases hc : (k == NameKind.free && env.scope.kind == .function && env.kindOf n == some .cell) = true
      · rw [if_pos hc]; simp only [List.lookup_cons, hx]; exact ih h hx'
      · rw [if_neg hc]; simp only [List.lookup_cons, hx]; exact ih h hx'

/-- the environment of a comprehension -/
structure CompEnv (c : Cx) (scope : Scope) (e : Env) (C : Addr) : Prop where
  ok : EnvOk e
  tab : e.locals = C
  other : ∀ x k, scope.names.lookup x = some k → k ≠ .free → e.kindOf x = some k
  free : ∀ x, scope.names.lookup x = some .free → c.env.kindOf x = some .cell → e.kindOf x = some .cell
  cells : ∀ x a, scope.names.lookup x = some .free → c.env.cells.lookup x = some a → e.cells.lookup x = some a
def NsO (o : Obj) (mm : Loc) : Prop := ∃ es ep, o.data = .dict es ep ∧ StrKeys es ∧ ∀ name, nsFind es name = mm name
theorem NsO.at {o : Obj} {mm : Loc} (n : NsO o mm) {h : Heap} {C : Addr} (e : h.get? C = some o) : h.Ns C mm := let ⟨es, ep, h1, h2, h3⟩ := n; ⟨o, es, ep, e, h1, h2, h3⟩

theorem closure_go (env : Env) : ∀ (names : List (Str × NameKind)) (cs : List (Str × Addr)), (∀ y ∈ names, y.2 = NameKind.free → ∃ a, env.cells.lookup y.1 = some a) →
    ∃ cl, (forIn (m := Sem) names cs fun (name, kind) cs => if (kind == NameKind.free) = true then do let a ← cellOf env name; pure (ForInStep.yield ((name, a) :: cs)) else pure (ForInStep.yield cs)) = pure cl ∧
      (∀ x a, cl.lookup x = some a → cs.lookup x = some a ∨ env.cells.lookup x = some a) ∧ ∀ x, (cs.lookup x).isSome = true ∨ (x, NameKind.free) ∈ names → (cl.lookup x).isSome = true
  | [], cs, _ => ⟨cs, rfl, fun x a e => .inl e, fun x h => h.elim id fun q => nomatch q⟩
  | (n, k) :: r, cs, h => by
    by_cases hk : (k == NameKind.free) = true
    · obtain ⟨a, ha⟩ := h (n, k) (.head _) (eq_of_beq hk)
      obtain ⟨cl, h1, h2, h3⟩ := closure_go env r ((n, a) :: cs) fun y hy => h y (.tail _ hy)
      refine ⟨cl, ?_, fun x b e => ?_, fun x q => h3 x ?_⟩
      · rw [List.forIn_cons]
        simp only [hk, if_true, cellOf, ha, pure_bind]
        exact h1
      · rcases h2 x b e with z | z
        · rw [List.lookup_cons] at z
          cases hx : x == n with
          | true => rw [hx] at z; rw [eq_of_beq hx, ha]; exact .inr z
          | false => rw [hx] at z; exact .inl z
        · exact .inr z
      · rw [List.lookup_cons]
        cases hx : x == n with
        | true => exact .inl rfl
        | false =>
          rcases q with q | q
          · exact .inl q
          · cases q with
            | head => rw [beq_self_eq_true] at hx; cases hx
            | tail _ q => exact .inr q
    · obtain ⟨cl, h1, h2, h3⟩ := closure_go env r cs fun y hy => h y (.tail _ hy)
      refine ⟨cl, ?_, h2, fun x q => h3 x (q.imp id fun q => ?_)⟩
      · rw [List.forIn_cons]
        simp only [hk, Bool.false_eq_true, if_false, pure_bind]
        exact h1
      · cases q with
        | head => exact absurd rfl hk
        | tail _ q => exact q
theorem closure_is {env : Env} {scope : Scope} (h : ∀ y ∈ scope.names, y.2 = NameKind.free → ∃ a, env.cells.lookup y.1 = some a) :
    ∃ cl, closureFor scope env = pure cl ∧ ∀ x a, (x, NameKind.free) ∈ scope.names → env.cells.lookup x = some a → cl.lookup x = some a := by
  obtain ⟨cl, h1, h2, h3⟩ := closure_go env scope.names [] h
  refine ⟨cl, ?_, fun x a hm e => ?_⟩
  · unfold closureFor
    rw [bind_pure]
    exact h1
  · obtain ⟨b, hb⟩ := Option.isSome_iff_exists.mp (h3 x (.inr hm))
    rcases h2 x b hb with q | q
    · cases q
    · rw [q] at e; cases e; exact hb

section
variable {n : Nat} {c : Cx} {m : Loc} {σ : Store} {X : Value → Loc → Store → Prop} {Q : Value → Loc → Store → Prop} {scope : Scope} {e : Env} {C : Addr} {x : Str} {pos : Pos} {v : Value}
theorem cn_local {oC : Obj} {mm : Loc} (E : CompEnv c scope e C) (hx : scope.names.lookup x = some .local) (hd : (x == ("__debug__" : Str)) = false) (hC : σ C = some oC) (hn : NsO oC mm) (hv : mm x = some v) (h : Q v m σ) :
    W c (eval (.Name x pos) e) m σ Q X := fun s F S => wpAny_Name (wpAny_loadName_local E.ok.knd (E.other x _ hx (fun q => nomatch q)) (by rw [E.tab]; exact hn.at (S C _ hC).1) hv (After.here F S h)) hd
theorem cn_cell {a : Addr} (E : CompEnv c scope e C) (hx : scope.names.lookup x = some .free) (hk : c.env.kindOf x = some .cell) (ha : c.env.cells.lookup x = some a) (hd : (x == ("__debug__" : Str)) = false) (hv : m x = some v) (h : Q v m σ) :
    W c (eval (.Name x pos) e) m σ Q X := fun s F S => wpAny_Name (wpAny_loadName_cell E.ok.knd (E.free x hx hk) (E.cells x a hx ha) (hv ▸ F.cell x a ha) (After.here F S h)) hd
theorem cn_glob (g : Gnd n c) (E : CompEnv c scope e C) (hx : scope.names.lookup x = some .globalImplicit) (hd : (x == ("__debug__" : Str)) = false) (hv : nsIn c.g.K mainGlobals x = some (some v)) (h : Q v m σ) :
    W c (eval (.Name x pos) e) m σ Q X := w_glob g E.ok (E.other x _ hx (fun q => nomatch q)) hd (mg_of g.X g.T.g hv) h
/-- one element's word -/
def EltOk (c : Cx) (scope : Scope) (x : Str) (elt : Expr) (m : Loc) (σ : Store) (P : Nat → List Value → Store → Prop) (i : Nat) (v : Value) : Prop :=
  ∀ (e : Env) (C : Addr) (oC : Obj) (mm : Loc) (τ : Store) (ys : List Value), CompEnv c scope e C → Sub σ τ → τ C = none → P i ys τ → NsO oC mm → mm x = some v →
    W c (eval elt e) m (upd τ C oC) (fun y m' σ' => m' = m ∧ Sub (upd τ C oC) σ' ∧ P (i + 1) (ys ++ [y]) (drop C σ')) NoX
/-- the tests of a comprehension -/
def tests (ifs : List Expr) (e : Env) : Sem Bool := forIn (m := Sem) ifs true fun c r => if r = true then do let ok ← isTrue c e (eval c e); pure (ForInStep.yield ok) else pure (ForInStep.yield r)
/-- one element's word, behind tests -/
def EltOkG (c : Cx) (scope : Scope) (x : Str) (ifs : List Expr) (elt : Expr) (m : Loc) (σ : Store) (P : Nat → List Value → Store → Prop) (i : Nat) (v : Value) : Prop :=
  ∀ (e : Env) (C : Addr) (oC : Obj) (mm : Loc) (τ : Store) (ys : List Value), CompEnv c scope e C → Sub σ τ → τ C = none → P i ys τ → NsO oC mm → mm x = some v →
    W c (tests ifs e) m (upd τ C oC) (fun b m₁ σ₁ => Br b (W c (eval elt e) m₁ σ₁ (fun y m' σ' => m' = m ∧ Sub (upd τ C oC) σ' ∧ P (i + 1) (ys ++ [y]) (drop C σ')) NoX) (m₁ = m ∧ Sub (upd τ C oC) σ₁ ∧ P (i + 1) ys (drop C σ₁))) NoX
theorem EltOk.plain {elt : Expr} {P : Nat → List Value → Store → Prop} {i : Nat} (h : EltOk c scope x elt m σ P i v) : EltOkG c scope x [] elt m σ (fun i ys τ => ys.length = i ∧ P i ys τ) i v := fun e C oC mm τ ys CE sub nC hP hn hv =>
  W.pure (a := true) (br_true ((h e C oC mm τ ys CE sub nC hP.2 hn hv).mono (fun y m' σ' q => ⟨q.1, q.2.1, (by rw [List.length_append, hP.1]; rfl), q.2.2⟩) fun _ _ _ q => q))

/-- the word of the whole, behind what is walked -/
def CompG (c : Cx) (ifs : List Expr) (elt iter : Expr) (x : Str) (px : Pos) (scope : Scope) (pos : Pos) (v : Value) (m : Loc) (σ : Store) (use : Option (Value → Sem Unit)) (Q : Shared → Value → Shared → Prop) : Prop :=
  ∀ cl, (∀ x a, (x, NameKind.free) ∈ scope.names → c.env.cells.lookup x = some a → cl.lookup x = some a) → ∀ s, Frm c s.heap m → Sto c s.heap σ →
    wpAny (model c.g.prog c.g.w) c.A (pyIter v) (fun it s₂ => wpAny (model c.g.prog c.g.w) c.A (newList []) (fun acc s₃ => wpAny (model c.g.prog c.g.w) c.A (newFunctionEnv scope c.env.globals cl [] c.env.qual none .none (some c.env)) (fun cenv s₄ =>
      codeAny (model c.g.prog c.g.w) c.A (.compStart (.ListComp elt [⟨.Name x px, iter, ifs, 0⟩] scope pos) 0 it acc { cenv with scope := relabel scope c.env })
        (compPost (model c.g.prog c.g.w) c.A (fun _ _ => False) use (Q s) acc cenv.locals) s₄) (fun _ _ => False) s₃) (fun _ _ => False) s₂) (fun _ _ => False) s
def Comp (c : Cx) (elt iter : Expr) (x : Str) (px : Pos) (scope : Scope) (pos : Pos) (v : Value) (m : Loc) (σ : Store) (Q : Value → Loc → Store → Prop) : Prop :=
  CompG c [] elt iter x px scope pos v m σ none (fun s r s' => After c σ s s' (Q r))

theorem w_compG {ifs : List Expr} {elt iter : Expr} {px : Pos} (hfree : ∀ y ∈ scope.names, y.2 = NameKind.free → ∃ a, c.env.cells.lookup y.1 = some a) (hkind : scope.kind = .function) (hnames : ∀ x ∈ scope.names, x.2 = .local → scope.names.lookup x.1 = some .local)
    (hs : ∀ x, foldedSetIterable iter c.env x = Pure.pure x) (h : W c (eval iter c.env) m σ (fun v m₁ σ₁ => CompG c ifs elt iter x px scope pos v m₁ σ₁ none (fun s r s' => After c σ₁ s s' (Q r))) X) :
    W c (eval (.ListComp elt [⟨.Name x px, iter, ifs, 0⟩] scope pos) c.env) m σ Q X := fun s F S => by
  obtain ⟨cl, hcl, hl⟩ := closure_is hfree
  rw [eval_ListComp]
  refine wpAny_comprehension_free (g := ⟨.Name x px, iter, ifs, 0⟩) (gs := []) rfl hs hcl hkind hnames ?_
  refine wpAny_mono (h s F S) (fun v s₁ A => ?_) fun _ _ x => x
  obtain ⟨h', tk, m', σ', rfl, F', S', fx, T⟩ := A
  refine wpAny_mono (T cl hl { s with heap := h', toks := tk } F' S') (fun it s₂ C => wpAny_mono C (fun acc s₃ C => wpAny_mono C (fun cenv s₄ C => codeAny_mono C fun r s' z => ?_) fun _ _ x => x.elim) fun _ _ x => x.elim) fun _ _ x => x.elim
  cases r with
  | ok f =>
    obtain ⟨mm, hn, k⟩ := z
    exact ⟨mm, hn, fun h' hs => (k h' hs).on rfl fx⟩
  | error e =>
    obtain ⟨mm, hn, k⟩ := z
    exact ⟨mm, hn, fun h' hs ce hce => wpAny_mono (k h' hs ce hce) (fun _ _ x => x) fun _ _ x => x.elim⟩
theorem w_comp {elt iter : Expr} {px : Pos} (hfree : ∀ y ∈ scope.names, y.2 = NameKind.free → ∃ a, c.env.cells.lookup y.1 = some a) (hkind : scope.kind = .function) (hnames : ∀ x ∈ scope.names, x.2 = .local → scope.names.lookup x.1 = some .local)
    (hs : ∀ x, foldedSetIterable iter c.env x = Pure.pure x) (h : W c (eval iter c.env) m σ (fun v m₁ σ₁ => Comp c elt iter x px scope pos v m₁ σ₁ Q) X) :
    W c (eval (.ListComp elt [⟨.Name x px, iter, [], 0⟩] scope pos) c.env) m σ Q X := w_compG hfree hkind hnames hs h
end
theorem n01 (I : Nat) : I ≠ I + 1 := by omega
theorem n10 (I : Nat) : I + 1 ≠ I := by omega
theorem n02 (I : Nat) : I ≠ I + 2 := by omega
theorem n20 (I : Nat) : I + 2 ≠ I := by omega
theorem n12 (I : Nat) : I + 1 ≠ I + 2 := by omega
theorem n21 (I : Nat) : I + 2 ≠ I + 1 := by omega
theorem le1 (I : Nat) : I ≤ I + 1 := by omega
theorem le2 (I : Nat) : I ≤ I + 2 := by omega

/-- where a comprehension began -/
structure CBase (c : Cx) (m : Loc) (σ : Store) (s : Shared) (I : Addr) : Prop where
  F : Frm c s.heap m
  S : Sto c s.heap σ
  hI : s.heap.objs.size = I
/-- where it stands -/
structure CAt (c : Cx) (m : Loc) (σ : Store) (s : Shared) (I : Addr) (τ : Store) (h : Heap) (ys : List Value) (kk : Nat) (oC : Obj) : Prop where
  F : Frm c h m
  S : Sto c h τ
  x : Fra c σ s.heap h τ
  hD : h.get? (I + 1) = some (lstO ys kk)
  hC : h.get? (I + 2) = some oC
  sub : Sub σ τ
  nD : τ (I + 1) = none
  nC : τ (I + 2) = none
section
variable {c : Cx} {m m' : Loc} {σ τ : Store} {s : Shared} {I J b : Addr} {h h' : Heap} {ys : List Value} {kk tk : Nat} {oC o : Obj} {mm : Loc}
theorem CBase.small (B : CBase c m σ s I) (e : s.heap.get? b = some o) : b < I := B.hI ▸ Heap.lt_size e
theorem CBase.ne (B : CBase c m σ s I) (hJ : I ≤ J) (e : s.heap.get? b = some o) : b ≠ J := Nat.ne_of_lt (Nat.lt_of_lt_of_le (B.small e) hJ)
theorem CBase.notFA (B : CBase c m σ s I) (hb : I ≤ b) : ¬ FA c b := fun q => let ⟨_, ho⟩ := B.F.has q; Nat.not_lt.mpr hb (B.small ho)
theorem CBase.not0 (B : CBase c m σ s I) (hb : I ≤ b) : c.h₀.get? b = none := by
  cases q : c.h₀.get? b with
  | none => rfl
  | some o => exact absurd (B.small (B.F.keep b o q)) (Nat.not_lt.mpr hb)
theorem CBase.notσ (B : CBase c m σ s I) (hb : I ≤ b) : σ b = none := by
  cases q : σ b with
  | none => rfl
  | some o => exact absurd (B.small (B.S b o q).1) (Nat.not_lt.mpr hb)
theorem CBase.frm (B : CBase c m σ s I) (hJ : I ≤ J) (F : Frm c h m') (k : ∀ b o, b ≠ J → h.get? b = some o → h'.get? b = some o) : Frm c h' m' := by
  refine F.on ⟨?_, fun b o e => k b o (fun q => by rw [q, B.not0 hJ] at e; cases e) (F.keep b o e), F.F.above⟩ fun x b hb o e => k b o (fun q => B.notFA hJ (q ▸ .inr ⟨x, hb⟩)) e
  obtain ⟨oL, es, ep, hL, r⟩ := F.F.ns
  exact ⟨oL, es, ep, k _ _ (fun q => B.notFA hJ (.inl q.symm)) hL, r⟩
theorem Sto.step (S : Sto c h τ) (nJ : τ J = none) (k : ∀ b o, b ≠ J → h.get? b = some o → h'.get? b = some o) : Sto c h' τ := fun a o e => ⟨k a o (fun q => by rw [q, nJ] at e; cases e) (S a o e).1, (S a o e).2⟩
theorem CBase.fra (B : CBase c m σ s I) (hJ : I ≤ J) (x : Fra c σ s.heap h τ) (k : ∀ b o, b ≠ J → h.get? b = some o → h'.get? b = some o) : Fra c σ s.heap h' τ := ⟨fun b o e z l => k b o (B.ne hJ e) (x.kept b o e z l), x.grow⟩
theorem CBase.stoU (B : CBase c m σ s I) (hJ : I ≤ J) (S : Sto c h τ) (e : h.get? J = some o) : Sto c h (upd τ J o) := fun a o' e' => by
  by_cases q : a = J
  · subst q; rw [upd_same] at e'; cases e'; exact ⟨e, B.notFA hJ, B.not0 hJ⟩
  · rw [upd_ne q] at e'; exact S a o' e'
theorem CBase.fraU (B : CBase c m σ s I) (hJ : I ≤ J) (x : Fra c σ s.heap h τ) : Fra c σ s.heap h (upd τ J o) := ⟨x.kept, fun a o' e' => by
  by_cases q : a = J
  · right; cases z : s.heap.get? a with
    | none => rfl
    | some o => exact absurd q (B.ne hJ z)
  · rw [upd_ne q] at e'; exact x.grow a o' e'⟩
theorem Fra.no {σa σb : Store} {ha hb : Heap} (x : Fra c σa ha hb σb) (n : σa b = none) (e : ha.get? b = some o) : σb b = none := by
  cases z : σb b with
  | none => rfl
  | some o' =>
    rcases x.grow b o' z with r | r
    · exact absurd n r
    · rw [e] at r; cases r
theorem CAt.step (B : CBase c m σ s I) (A : CAt c m σ s I τ h ys kk oC) (nI : τ I = none) (hk : ∀ b o, b ∉ [I] → h.get? b = some o → h'.get? b = some o) : CAt c m σ s I τ h' ys kk oC :=
  have k : ∀ b o, b ≠ I → h.get? b = some o → h'.get? b = some o := fun b o q e => hk b o (fun z => q (List.mem_singleton.mp z)) e
  ⟨B.frm (Nat.le_refl _) A.F k, A.S.step nI k, B.fra (Nat.le_refl _) A.x k, k _ _ (n10 _) A.hD, k _ _ (n20 _) A.hC, A.sub, A.nD, A.nC⟩
/-- between two turns -/
def CInv (c : Cx) (m : Loc) (σ : Store) (s : Shared) (I : Addr) (SW : Nat → Heap → Prop) (P : Nat → List Value → Store → Prop) (N k : Nat) (s' : Shared) : Prop :=
  ∃ i ys τ h tk kk oC mm, k = N - i ∧ i ≤ N ∧ s' = { s with heap := h, toks := tk } ∧ CAt c m σ s I τ h ys kk oC ∧ P i ys τ ∧ SW i h ∧ τ I = none ∧ NsO oC mm ∧ ys.length ≤ i
theorem sub_lt {N i : Nat} (h : i < N) : N - (i + 1) < N - i := by omega
theorem comp_turn {scope : Scope} {x : Str} {v : Value} {elt : Expr} {ifs : List Expr} {px : Pos} {E : Value → Shared → Prop} {cenv : Env} {SW : Nat → Heap → Prop} {P : Nat → List Value → Store → Prop} {N i : Nat} {fp : List Addr}
    (B : CBase c m σ s I) (CE : CompEnv c scope cenv (I + 2)) (hx : scope.names.lookup x = some .local) (A : CAt c m σ s I τ h ys kk oC) (hP : P i ys τ) (nI : τ I = none) (hI : ∃ o, h.get? I = some o) (hn : NsO oC mm) (hlen : ys.length ≤ i) (hlt : i < N) (hN : N ≤ sizeLine)
    (el : EltOkG c scope x ifs elt m σ P i v) (frame : ∀ h', (∀ b ∈ fp, ∀ o, h.get? b = some o → h'.get? b = some o) → SW (i + 1) h')
    (stayed : ∀ b ∈ fp, b ≠ I → ∃ o, ∀ h τ, Frm c h m → Sto c h τ → Sub σ τ → h.get? b = some o) :
    wpAny (model c.g.prog c.g.w) c.A (assign (.Name x px) cenv v) (fun _ s₂ => wpAny (model c.g.prog c.g.w) c.A (tests ifs cenv) (fun ok s₃ =>
      if ok = true then wpAny (model c.g.prog c.g.w) c.A (eval elt cenv) (fun y s₄ => wpAny (model c.g.prog c.g.w) c.A (call (.builtin "list.append") [.ref (I + 1), y]) (fun _ s₅ => ∃ k, k < N - i ∧ CInv c m σ s I SW P N k s₅) E s₄) E s₃
      else ∃ k, k < N - i ∧ CInv c m σ s I SW P N k s₃) E s₂) E { s with heap := h, toks := tk } := by
  refine wpAny_assign_Name (wpAny_storeName_local (m := mm) (CE.other x _ hx (fun q => nomatch q)) (by rw [CE.tab]; exact hn.at A.hC) (fun h2 hn2 hsb => ?_) (by rw [CE.ok.knd]; rfl))
  rw [CE.tab] at hn2 hsb
  obtain ⟨oC2, es2, ep2, hC2, hn2'⟩ := hn2
  have k2 : ∀ b o, b ≠ I + 2 → h.get? b = some o → h2.get? b = some o := fun b o q e => (hsb.2 b q).trans e
  have F2 := B.frm (le2 I) A.F k2
  have S2 := B.stoU (le2 I) (A.S.step A.nC k2) hC2
  have fx2 := B.fraU (o := oC2) (le2 I) (B.fra (le2 I) A.x k2)
  obtain ⟨oI, eI⟩ := hI
  have swOf : ∀ h6 σ6, Frm c h6 m → Sto c h6 σ6 → Sub σ σ6 → h6.get? I = some oI → SW (i + 1) h6 := fun h6 σ6 F6 S6 sb e6 => frame h6 fun b hb o e => by
    by_cases q : b = I
    · rw [q, eI] at e; cases e; rw [q]; exact e6
    · obtain ⟨o', ho'⟩ := stayed b hb q
      rw [ho' h τ A.F A.S A.sub] at e; cases e
      exact ho' h6 σ6 F6 S6 sb
  have common : ∀ h4 σ4, Sto c h4 σ4 → Fra c (upd τ (I + 2) oC2) h2 h4 σ4 → Sub (upd τ (I + 2) oC2) σ4 →
      σ4 (I + 1) = none ∧ σ4 I = none ∧ h4.get? (I + 1) = some (lstO ys kk) ∧ h4.get? I = some oI ∧ Sub σ (drop (I + 2) σ4) := fun h4 σ4 S4 x4 sub4 => by
    have nD2 : upd τ (I + 2) oC2 (I + 1) = none := (upd_ne (n12 I)).trans A.nD
    have nI2 : upd τ (I + 2) oC2 I = none := (upd_ne (n02 I)).trans nI
    have hD2 := k2 _ _ (n12 I) A.hD
    have hI2 := k2 _ _ (n02 I) eI
    exact ⟨x4.no nD2 hD2, x4.no nI2 hI2, x4.kept _ _ hD2 nD2 (B.notFA (le1 I)), x4.kept _ _ hI2 nI2 (B.notFA (Nat.le_refl _)), sub_drop ((A.sub.trans (sub_upd A.nC)).trans sub4) (B.notσ (le2 I))⟩
  refine wpAny_mono (el cenv (I + 2) oC2 _ τ ys CE A.sub A.nC hP ⟨es2, ep2, hn2'⟩ (if_pos rfl) { s with heap := h2, toks := tk + 1 } F2 S2) (fun bb s3 A3 => ?_) fun e s3 A3 => A3.no.elim
  cases bb with
  | true =>
    rw [if_pos rfl]
    refine wpAny_mono (A3.next fun m σ q => q.1 rfl) (fun y s4 A4 => ?_) fun e s4 A4 => A4.no.elim
    obtain ⟨h4, tk4, m4, σ4, rfl, F4, S4, x4, em, sub4, hP4⟩ := A4
    subst em
    obtain ⟨nD4, nI4, hD4, hI4, sub5⟩ := common h4 σ4 S4 x4 sub4
    have app := w_append (c := c) (σ := upd σ4 (I + 1) (lstO ys kk)) (l := I + 1) (vs := ys) (k := kk) (v := y) (X := NoX) (Q := fun _ m' σ' => m' = _ ∧ σ' = upd (upd σ4 (I + 1) (lstO ys kk)) (I + 1) (lstO (ys ++ [y]) (kk + 1))) upd_same (Nat.le_trans hlen (Nat.le_trans (Nat.le_of_lt hlt) hN)) ⟨rfl, rfl⟩ { s with heap := h4, toks := tk4 } F4 (B.stoU (le1 I) S4 hD4)
    refine wpAny_mono app (fun _ s6 A6 => ?_) fun e s6 A6 => A6.no.elim
    obtain ⟨h6, tk6, m6, σ6, rfl, F6, S6, x6, em, rfl⟩ := A6
    subst em
    have subτ : Sub (drop (I + 2) σ4) (upd (upd σ4 (I + 1) (lstO ys kk)) (I + 1) (lstO (ys ++ [y]) (kk + 1))) := fun a o e => by
      have e' := drop_sub a o e
      have hne : a ≠ I + 1 := fun q => by rw [q, nD4] at e'; cases e'
      rw [upd_ne hne, upd_ne hne]
      exact e'
    have S7 := S6.sub subτ
    exact ⟨N - (i + 1), sub_lt hlt, i + 1, ys ++ [y], drop (I + 2) σ4, h6, tk6, kk + 1, oC2, _, rfl, hlt, rfl,
      ⟨F6, S7, ((B.fraU (le1 I) (fx2.trans x4 S4)).trans x6 S6).less subτ, (S6 _ _ upd_same).1, (S6 (I + 2) oC2 (by rw [upd_ne (n21 I), upd_ne (n21 I)]; exact sub4 _ _ upd_same)).1, sub5, (drop_ne (n12 I)).trans nD4, drop_same⟩,
      hP4, swOf h6 _ F6 S7 sub5 (x6.kept _ _ hI4 (by rw [upd_ne (n01 I)]; exact nI4) (B.notFA (Nat.le_refl _))), (drop_ne (n02 I)).trans nI4, ⟨es2, ep2, hn2'⟩, by rw [List.length_append]; exact Nat.succ_le_succ hlen⟩
  | false =>
    rw [if_neg (by decide)]
    obtain ⟨h4, tk4, m4, σ4, rfl, F4, S4, x4, qq⟩ := A3
    obtain ⟨em, sub4, hP4⟩ := qq.2 rfl
    subst em
    obtain ⟨nD4, nI4, hD4, hI4, sub5⟩ := common h4 σ4 S4 x4 sub4
    have S7 := S4.sub (drop_sub (C := I + 2))
    exact ⟨N - (i + 1), sub_lt hlt, i + 1, ys, drop (I + 2) σ4, h4, tk4, kk, oC2, _, rfl, hlt, rfl,
      ⟨F4, S7, (fx2.trans x4 S4).less drop_sub, hD4, (S4 (I + 2) oC2 (sub4 _ _ upd_same)).1, sub5, (drop_ne (n12 I)).trans nD4, drop_same⟩,
      hP4, swOf h4 _ F4 S7 sub5 hI4, (drop_ne (n02 I)).trans nI4, ⟨es2, ep2, hn2'⟩, Nat.le_succ_of_le hlen⟩
/-- what is walked -/
structure CWalk (c : Cx) (m : Loc) (σ : Store) (v : Value) (N : Nat) (Pv : Nat → Value → Prop) (fp : Addr → List Addr) (SW : Addr → Nat → Heap → Prop) : Prop where
  opens : ∀ s, Frm c s.heap m → Sto c s.heap σ → ∃ io : Obj, io.isFreed = false ∧ Walks c.g.prog c.g.w c.A s.heap.objs.size (fp s.heap.objs.size) [s.heap.objs.size] N Pv (SW s.heap.objs.size) ∧ SW s.heap.objs.size 0 (s.heap.push io) ∧
    ∀ Q' E', Q' (.ref s.heap.objs.size) { s with heap := s.heap.push io } → wpAny (model c.g.prog c.g.w) c.A (pyIter v) Q' E' s
  isSome : ∀ I i h, SW I i h → (h.get? I).isSome = true
  stay : ∀ I, ∀ b ∈ fp I, b ≠ I → ∃ o, (c.h₀.get? b = some o ∨ σ b = some o)
theorem comp_core {n : Nat} {scope : Scope} {x : Str} {v : Value} {pos : Pos} {ifs : List Expr} {elt iter : Expr} {px : Pos} {use : Option (Value → Sem Unit)} {Q : Shared → Value → Shared → Prop} (g : Gnd n c) (hcell : ∀ y ∈ scope.names, y.2 ≠ .cell) (hkind : scope.kind = .function) (hx : scope.names.lookup x = some .local) {N : Nat} (hN : N ≤ sizeLine) {Pv : Nat → Value → Prop} {fp : Addr → List Addr} {SW : Addr → Nat → Heap → Prop}
    (P : Nat → List Value → Store → Prop) (wk : CWalk c m σ v N Pv fp SW) (h0 : P 0 [] σ) (turn : ∀ i v, i < N → Pv i v → EltOkG c scope x ifs elt m σ P i v)
    (fin : ∀ s I ys τ h tk kk oC mm, CBase c m σ s I → CAt c m σ s I τ h ys kk oC → P N ys τ → NsO oC mm → compPost (model c.g.prog c.g.w) c.A (fun _ _ => False) use (Q s) (.ref (I + 1)) (I + 2) (.ok .next) { s with heap := h, toks := tk }) :
    CompG c ifs elt iter x px scope pos v m σ use Q := by
  intro cl hcl s F S
  obtain ⟨io, hio, Wk, sw0, go⟩ := wk.opens s F S
  refine go _ _ ?_
  have B : CBase c m σ s s.heap.objs.size := ⟨F, S, rfl⟩
  generalize hI : s.heap.objs.size = I at *
  have pushK : ∀ b o, s.heap.get? b = some o → (s.heap.push io).get? b = some o := fun b o e => Heap.get?_push_of_some _ e
  refine wpAny_newObj_type (wpAny_newFunctionEnv hcell (by intro y hy; cases hy) (fun h₁ hns₁ hsb₁ => ?_) hkind) (by show (0 : Nat) ≤ sizeLine; exact Nat.zero_le _)
  dsimp only at hns₁ hsb₁ ⊢
  have hD : (s.heap.push io).objs.size = I + 1 := by rw [Heap.size_push, hI]
  generalize hH2 : (s.heap.push io).push { cls := .type "list", dict := none, data := .seq ([] : List Value).toArray } = H2 at hns₁ hsb₁ ⊢
  have hC : H2.objs.size = I + 2 := by rw [← hH2, Heap.size_push, hD]
  rw [hC] at hns₁ hsb₁ ⊢
  rw [hD]
  have h1keep : ∀ b o, b ≠ I + 2 → H2.get? b = some o → h₁.get? b = some o := fun b o q e => (hsb₁.2 b q).trans (Heap.get?_push_of_some _ e)
  have old1 : ∀ b o, s.heap.get? b = some o → h₁.get? b = some o := fun b o e => h1keep b o (B.ne (le2 I) e) (hH2 ▸ Heap.get?_push_of_some _ (pushK b o e))
  have hD1 : h₁.get? (I + 1) = some (lstO [] 0) := h1keep _ _ (n12 I) (by rw [← hH2, ← hD]; exact Heap.get?_push_size _ rfl)
  have CE : CompEnv c scope { newEnv scope (I + 2) c.env.globals cl c.env.qual none .none (some c.env) builtinsNs with scope := relabel scope c.env } (I + 2) :=
    ⟨⟨hkind, g.glob, g.bi⟩, rfl, fun y k hy hk => look_relabel_other hk hy, fun y hy hk => look_relabel_free g.knd hy hk, fun y a hy ha => hcl y a (by
      obtain ⟨l₁, l₂, e, _⟩ := List.lookup_eq_some_iff.mp hy
      rw [e]; exact List.mem_append_right _ (List.mem_cons_self ..)) ha⟩
  generalize hE : ({ newEnv scope (I + 2) c.env.globals cl c.env.qual none .none (some c.env) builtinsNs with scope := relabel scope c.env } : Env) = cenv at CE ⊢
  have hloc : (newEnv scope (I + 2) c.env.globals cl c.env.qual none .none (some c.env) builtinsNs).locals = I + 2 := rfl
  rw [hloc]
  have stayed : ∀ b ∈ fp I, b ≠ I → ∃ o, ∀ h τ, Frm c h m → Sto c h τ → Sub σ τ → h.get? b = some o := fun b hb hne => by
    obtain ⟨o, ho⟩ := wk.stay I b hb hne
    exact ⟨o, fun h τ F S sub => ho.elim (fun q => F.keep b o q) fun q => (S b o (sub b o q)).1⟩
  have sw1 : SW I 0 h₁ := Wk.frame _ _ _ sw0 fun b hb o e => by
    by_cases q : b = I
    · subst q; exact h1keep _ _ (n02 _) (hH2 ▸ Heap.get?_push_of_some _ e)
    · obtain ⟨o', ho'⟩ := stayed b hb q
      have hb' := ho' s.heap σ F S (Sub.refl _)
      rw [pushK b o' hb'] at e; cases e
      exact old1 b o hb'
  clear hD hC hH2 sw0 pushK go hio hcl hsb₁ hloc hE
  have loop : ∀ tk, codeAny (model c.g.prog c.g.w) c.A (.compLoop (.ListComp elt [⟨.Name x px, iter, ifs, 0⟩] scope pos) 0 (.ref I) (.ref (I + 1)) cenv)
      (compPost (model c.g.prog c.g.w) c.A (fun _ _ => False) use (Q s) (.ref (I + 1)) (I + 2)) { s with heap := h₁, toks := tk } := by
    intro tk0
    refine codeAny_compLoop_tests (CInv c m σ s I (SW I) P N) ?_ N ?_
    · rintro k s' ⟨i, ys, τ, h, tk, kk, oC, mm, rfl, hi, rfl, A, hP, sw, nI, hn, hlen⟩
      rcases Nat.lt_or_ge i N with hlt | hge
      · refine Wk.item i _ _ _ hlt sw fun v h' tk' hPv hsw hk => ?_
        exact comp_turn B CE hx (A.step B nI hk) hP nI (Option.isSome_iff_exists.mp (wk.isSome I _ h' hsw)) hn hlen hlt hN (turn i v hlt hPv) (fun h2 k => Wk.frame _ _ _ hsw k) stayed
      · cases Nat.le_antisymm hi hge
        refine Wk.done _ _ _ sw fun h' tk' hk => ?_
        exact fin s I ys τ h' tk' kk oC mm B (A.step B nI hk) hP hn
    · obtain ⟨oC, esC, epC, hC1, hnC⟩ := hns₁
      exact ⟨0, [], σ, h₁, tk0, 0, oC, _, rfl, Nat.zero_le _, rfl, ⟨F.keeps old1, fun a o e => ⟨old1 a o (S a o e).1, (S a o e).2⟩, ⟨fun b o e _ _ => old1 b o e, fun a o e => .inl (by rw [e]; exact fun q => nomatch q)⟩, hD1, hC1, Sub.refl _, B.notσ (le1 I), B.notσ (le2 I)⟩, h0, sw1, B.notσ (Nat.le_refl _), ⟨esC, epC, hnC⟩, Nat.le_refl _⟩
  exact codeAny_compStart_list (loop _) (Wk.self 0 _ _ _ sw1 (loop _))
theorem fin_plain {Q : Value → Loc → Store → Prop} (B : CBase c m σ s I) (A : CAt c m σ s I τ h ys kk oC) (hn : NsO oC mm) (hQ : Q (.ref (I + 1)) m (upd τ (I + 1) (lstO ys kk))) :
    compPost (model c.g.prog c.g.w) c.A (fun _ _ => False) none (fun r s' => After c σ s s' (Q r)) (.ref (I + 1)) (I + 2) (.ok .next) { s with heap := h, toks := tk } := by
  refine ⟨mm, hn.at A.hC, fun h2 hsb => ?_⟩
  have k2 : ∀ b o, b ≠ I + 2 → h.get? b = some o → h2.get? b = some o := fun b o q e => (hsb.2 b q).trans e
  exact ⟨h2, tk, m, upd τ (I + 1) (lstO ys kk), rfl, B.frm (le2 I) A.F k2, B.stoU (le1 I) (A.S.step A.nC k2) (k2 _ _ (n12 I) A.hD), B.fraU (le1 I) (B.fra (le2 I) A.x k2), hQ⟩
end
section
variable {n : Nat} {c : Cx} {m : Loc} {σ : Store} {X : Value → Loc → Store → Prop} {Q : Value → Loc → Store → Prop} {scope : Scope} {e : Env} {C : Addr} {x : Str} {pos : Pos} {v : Value}
theorem CWalk.list {l : Addr} {vs : List Value} {k : Nat} (g : Gnd n c) (hl : σ l = some (lstO vs k)) : CWalk c m σ (.ref l) vs.length (fun j v => vs.toArray[j]? = some v) (fun I => [I, l]) (fun I j h => h.IsListIter I l j ∧ h.IsList l vs.toArray) := by
  refine ⟨fun s F S => ?_, ?_, fun I b hb hne => ?_⟩
  · have hls := isList_of S hl
    have Wk := Walks.list (prog := c.g.prog) (w := c.g.w) g.hh s.heap.objs.size l (Nat.ne_of_lt (S.lt hl)) vs.toArray
    rw [List.size_toArray] at Wk
    exact ⟨{ cls := .type "list_iterator", data := .fields #[.ref l, .int 0 0] }, rfl, Wk, ⟨⟨_, Heap.get?_push_size _ rfl, rfl, rfl⟩, hls.at fun o e => Heap.get?_push_of_some _ e⟩, fun Q' E' hq => wpAny_pyIter_list hls hq⟩
  · rintro I j h ⟨⟨o, ho, _⟩, _⟩; rw [ho]; rfl
  · rcases List.mem_cons.mp hb with q | q
    · exact absurd q hne
    · rw [List.mem_singleton.mp q]; exact ⟨_, .inr hl⟩
theorem CWalk.range {r : Addr} {i k : Int} {t u w : Tok} (g : Gnd n c) (hr : σ r = some (rngO i k t u w)) (hi : -(2 ^ 62) ≤ i) (hi' : i < 2 ^ 62) (hk : -(2 ^ 62) ≤ k) (hk' : k < 2 ^ 62) :
    CWalk c m σ (.ref r) (k - i).toNat (fun j v => ∃ t, v = .int (i + j * 1) t) (fun I => [I]) (fun I j h => IsRangeIter h I (i + (j : Nat) * 1) (((k - i).toNat : Int) - (j : Nat)) 1) := by
  have hsz : Builtin.Range.rangeSize i k 1 = (((k - i).toNat : Nat) : Int) := by rw [rangeSize_one]; split <;> omega
  refine ⟨fun s F S => ⟨{ cls := .type "range_iterator", data := .fields #[rawInt i, rawInt (Builtin.Range.rangeSize i k 1), rawInt 1] }, rfl, Walks.range g.hh _ i 1 _, ?_, fun Q' E' hq => wpAny_pyIter_range (S r _ hr).1 (small_one hi hi' hk hk') hq⟩, fun I j h e => ?_, fun I b hb hne => absurd (List.mem_singleton.mp hb) hne⟩
  · show IsRangeIter _ _ _ _ _
    rw [hsz]
    simpa using Heap.get?_push_size s.heap (o := { cls := .type "range_iterator", data := .fields #[rawInt i, rawInt (((k - i).toNat : Nat) : Int), rawInt 1] }) rfl
  · rw [show h.get? I = _ from e]; rfl
theorem list_at {vs : List Value} {j : Nat} {v : Value} (h : vs.toArray[j]? = some v) : vs[j]? = some v := by simpa using h

theorem comp_range {elt iter : Expr} {px : Pos} {r : Addr} {i k : Int} {t u w : Tok} (g : Gnd n c) (hcell : ∀ y ∈ scope.names, y.2 ≠ .cell) (hkind : scope.kind = .function) (hx : scope.names.lookup x = some .local)
    (P : Nat → List Value → Store → Prop) (mono : ∀ i ys τ τ', Sub τ τ' → P i ys τ → P i ys τ')
    (hr : σ r = some (rngO i k t u w)) (hi : -(2 ^ 62) ≤ i) (hi' : i < 2 ^ 62) (hk : -(2 ^ 62) ≤ k) (hk' : k < 2 ^ 62) (hN : (k - i).toNat ≤ sizeLine) (h0 : P 0 [] σ)
    (turn : ∀ j t, j < (k - i).toNat → EltOk c scope x elt m σ P j (.int (i + j) t))
    (done : ∀ D σ' ys kk, σ D = none → σ' D = none → Sub σ σ' → ys.length = (k - i).toNat → P (k - i).toNat ys σ' → Q (.ref D) m (upd σ' D (lstO ys kk))) : Comp c elt iter x px scope pos (.ref r) m σ Q := by
  refine comp_core g hcell hkind hx hN (fun i ys τ => ys.length = i ∧ P i ys τ) (CWalk.range g hr hi hi' hk hk') ⟨rfl, h0⟩ ?_ fun s I ys τ h tk kk oC mm B A hP hn => fin_plain B A hn (done _ τ ys kk (B.notσ (le1 I)) A.nD A.sub hP.1 hP.2)
  rintro j v hj ⟨t, rfl⟩
  rw [Int.mul_one]
  exact (turn j t hj).plain
theorem comp_list {elt iter : Expr} {px : Pos} {l : Addr} {vs : List Value} {k : Nat} (g : Gnd n c) (hcell : ∀ y ∈ scope.names, y.2 ≠ .cell) (hkind : scope.kind = .function) (hx : scope.names.lookup x = some .local)
    (P : Nat → List Value → Store → Prop) (mono : ∀ i ys τ τ', Sub τ τ' → P i ys τ → P i ys τ')
    (hl : σ l = some (lstO vs k)) (hN : vs.length ≤ sizeLine) (h0 : P 0 [] σ)
    (turn : ∀ j v, vs[j]? = some v → EltOk c scope x elt m σ P j v)
    (done : ∀ D σ' ys kk, σ D = none → σ' D = none → Sub σ σ' → ys.length = vs.length → P vs.length ys σ' → Q (.ref D) m (upd σ' D (lstO ys kk))) : Comp c elt iter x px scope pos (.ref l) m σ Q :=
  comp_core g hcell hkind hx hN (fun i ys τ => ys.length = i ∧ P i ys τ) (CWalk.list g hl) ⟨rfl, h0⟩ (fun j v _ hv => (turn j v (list_at hv)).plain) fun s I ys τ h tk kk oC mm B A hP hn => fin_plain B A hn (done _ τ ys kk (B.notσ (le1 I)) A.nD A.sub hP.1 hP.2)
end
end Mine

open PySem PySem.W PySem.Calls PyProof.Rows
namespace Mine
section
variable {n : Nat} {c : Cx} {m : Loc} {σ : Store} {X : Value → Loc → Store → Prop}

/-! ## while -/
theorem w_while {test : Expr} {body : List Stmt} {pos : Pos} {Q : Flow → Loc → Store → Prop} (J : Nat → Loc → Store → Prop) (k : Nat) (h0 : J k m σ)
    (turn : ∀ k m' σ', J k m' σ' → W c (isTrue test c.env (eval test c.env)) m' σ' (fun b m₁ σ₁ => Br b (W c (execs body c.env) m₁ σ₁ (fun f m₂ σ₂ => match f with
      | .next => ∃ k', k' < k ∧ J k' m₂ σ₂ | .cont => ∃ k', k' < k ∧ J k' m₂ σ₂ | .brk => Q .next m₂ σ₂ | .ret v => Q (.ret v) m₂ σ₂) NoX) (Q .next m₁ σ₁)) NoX) :
    W c (exec (.While test body [] pos) c.env) m σ Q X := fun s F S => by
  refine wpAny_While (codeAny_whileLoop (fun n s' => ∃ h₁ tk₁ m₁ σ₁, s' = { s with heap := h₁, toks := tk₁ } ∧ Frm c h₁ m₁ ∧ Sto c h₁ σ₁ ∧ Fra c σ s.heap h₁ σ₁ ∧ J n m₁ σ₁) ?_ k ⟨s.heap, s.toks, m, σ, rfl, F, S, .refl, h0⟩)
  rintro n s' ⟨h₁, tk₁, m₁, σ₁, rfl, F₁, S₁, fx, j⟩
  refine wpAny_mono (turn n m₁ σ₁ j { s with heap := h₁, toks := tk₁ } F₁ S₁) (fun b s₂ A => ?_) fun e s₂ A => A.no.elim
  obtain ⟨h₂, tk₂, m₂, σ₂, rfl, F₂, S₂, fx₂, br⟩ := A
  have fx' := fx.trans fx₂ S₂
  cases b with
  | false =>
    simp only [Bool.false_eq_true, if_false]
    exact wpAny_execs_nil ⟨h₂, tk₂, m₂, σ₂, rfl, F₂, S₂, fx', br.2 rfl⟩
  | true =>
    simp only [if_true]
    refine wpAny_mono (br.1 rfl { s with heap := h₂, toks := tk₂ } F₂ S₂) (fun f s₃ A => ?_) fun e s₃ A => A.no.elim
    obtain ⟨h₃, tk₃, m₃, σ₃, rfl, F₃, S₃, fx₃, q⟩ := A
    have fx'' := fx'.trans fx₃ S₃
    cases f with
    | next => obtain ⟨k', hk, q⟩ := q; exact ⟨k', hk, h₃, tk₃, m₃, σ₃, rfl, F₃, S₃, fx'', q⟩
    | cont => obtain ⟨k', hk, q⟩ := q; exact ⟨k', hk, h₃, tk₃, m₃, σ₃, rfl, F₃, S₃, fx'', q⟩
    | brk => exact ⟨h₃, tk₃, m₃, σ₃, rfl, F₃, S₃, fx'', q⟩
    | ret v => exact ⟨h₃, tk₃, m₃, σ₃, rfl, F₃, S₃, fx'', q⟩
theorem x_while {test : Expr} {body rest : List Stmt} {pos : Pos} {Q : Flow → Loc → Store → Prop} (J : Nat → Loc → Store → Prop) (k : Nat) (h0 : J k m σ)
    (turn : ∀ k m' σ', J k m' σ' → W c (isTrue test c.env (eval test c.env)) m' σ' (fun b m₁ σ₁ => Br b (W c (execs body c.env) m₁ σ₁ (fun f m₂ σ₂ => match f with
      | .next => ∃ k', k' < k ∧ J k' m₂ σ₂ | .cont => ∃ k', k' < k ∧ J k' m₂ σ₂ | .brk => W c (execs rest c.env) m₂ σ₂ Q X | .ret v => Q (.ret v) m₂ σ₂) NoX) (W c (execs rest c.env) m₁ σ₁ Q X)) NoX) :
    W c (execs (.While test body [] pos :: rest) c.env) m σ Q X :=
  w_execs_cons (w_while J k h0 turn)

/-! ## more tests -/
variable {Q : Value → Loc → Store → Prop}
theorem ne_nil {l₁ l₂ : Addr} {vs : List Value} {k₁ k₂ : Nat} (g : Gnd n c) (h1 : σ l₁ = some (lstO vs k₁)) (h2 : σ l₂ = some (lstO [] k₂)) (h : Q (.bool (!decide (vs.length = 0))) m σ) : W c (compareOp .NotEq (.ref l₁) (.ref l₂)) m σ Q X := fun s F S => by
  have hu : c.A.units < cLine := by have := g.un; omega
  cases vs with
  | nil => exact PySem.SeqAt.RcNeAt.lists (e := fun _ => true) (isList_of S h1) (isList_of S h2) rfl hu (fun j h1 => absurd h1 (by simp)) _ _ _ _ (After.here F S h)
  | cons v vs => exact PySem.SeqAt.RcNeAt.lists_lengths (isList_of S h1) (isList_of S h2) rfl hu _ _ _ _ (After.here F S (by simpa using h))
theorem eq_bools {a b : Bool} (h : Q (.bool (a == b)) m σ) : W c (compareOp .Eq (.bool a) (.bool b)) m σ Q X := fun _ F S => eq_bool (After.here F S h)
end
end Mine

open PySem PySem.W PySem.Calls PyProof.Rows
namespace Mine
abbrev veBm : List Value := [.type "ValueError", .type "Exception", .type "BaseException", .type "object"]
def excO (C t : Addr) : Obj := { cls := .ref C, data := .fields #[.ref t, .none, .none, .none, .bool false, .none] }
section
variable {n : Nat} {c : Cx} {m : Loc} {σ : Store} {X : Value → Loc → Store → Prop} {sc : Scope}

/-! ## raise -/
theorem x_raise {x : Str} {np cpos pos kp : Pos} {msg : Str} {kk : Nat} {rest : List Stmt} {C : Addr} {Q : Flow → Loc → Store → Prop} (g : Gnd n c) (hs : c.env.scope = sc) (hx : sc.names.lookup x = some .globalImplicit) (hd : (x == ("__debug__" : Str)) = false)
    (hv : nsIn c.g.K mainGlobals x = some (some (.ref C))) (hq : excIn c.g.K C veBm "ValueError.__new__" = true)
    (h : ∀ e t tk, σ e = none → σ t = none → t ≠ e → X (.ref e) m (upd (upd σ t (tupO [.str msg tk])) e (excO C t))) :
    W c (execs (.Raise (some (.Call (.Name x np) [.Constant (.str msg) kk kp] [] cpos)) none pos :: rest) c.env) m σ Q X := by
  refine w_execs_cons (fun s F S => ?_)
  obtain ⟨tl, N, nm, q, bs, hdct, sn, sub, ab, col, dd, k0, k1, k2, k3, k5, mN, hC, hN, hni, T⟩ := (own_of_in g.X (topRead_of g.T) hv hq).obj
  have FB := PySem.F.excBase_ValueError
  refine wpAny_Raise_call_subT (C := C) (nm := nm) (q := q) (N := N) (bs := bs) (bm := tl) (hdct := hdct) (sn := sn) (sub := sub) (ab := ab) (col := col) (dd := dd) (k0 := k0) (k1 := k1) (k2 := k2) (k3 := k3) (k5 := k5)
    FB (mN := mN) (T.hasType FB.hasBase) g.hh rfl hni ?_
  have w1 : W c (eval (.Name x np) c.env) m σ (fun v m' σ' => v = .ref C ∧ m' = m ∧ σ' = σ) X := n_glob g hs hx hd hv ⟨rfl, rfl, rfl⟩
  refine wpAny_mono (w1 s F S) (fun f s₁ A => ?_) fun _ _ e => e
  obtain ⟨h₁, tk₁, m₁, σ₁, rfl, F₁, S₁, fx, rfl, rfl, rfl⟩ := A
  refine ⟨rfl, ?_⟩
  have w2 : W c (spliced (backTo cpos (starEach [.Constant (.str msg) kk kp] c.env))) m₁ σ₁ (fun vs m' σ' => (∃ tk, vs = [.str msg tk]) ∧ m' = m₁ ∧ σ' = σ₁) X :=
    w_spliced (w_str fun t => w_spliced_nil ⟨⟨t, rfl⟩, rfl, rfl⟩) rfl
  have he : starEach [.Constant (.str msg) kk kp] c.env = (false, eval (.Constant (.str msg) kk kp) c.env) :: starEach [] c.env := rfl
  have w3 := w2 { s with heap := h₁, toks := tk₁ } F₁ S₁
  rw [he] at w3 ⊢
  refine Calls.evalArgs_plain (wpAny_mono w3 (fun vs s₂ A => ?_) fun _ _ e => e.on rfl fx)
  obtain ⟨h₂, tk₂, m₂, σ₂, rfl, F₂, S₂, fx₂, ⟨tk, rfl⟩, rfl, rfl⟩ := A
  have fx' := fx.trans fx₂ S₂
  refine ⟨rfl, by show 1 ≤ sizeLine; rw [sizeLine_eq]; decide, F₂.keep _ _ hC, hN.keeps F₂.keep, T.keeps F₂.keep, fun h' e M => ?_⟩
  obtain ⟨t, he', htn, ht⟩ := M.there
  have hte : t ≠ e := fun q => by rw [q, he'] at ht; cases ht
  have F3 : Frm c h' m₂ := F₂.keeps M.keeps
  have no : ∀ a, h₂.get? a = none → σ₂ a = none := fun a e => by
    cases q : σ₂ a with
    | none => rfl
    | some o => rw [(S₂ a o q).1] at e; cases e
  have base : ∀ a, h₂.get? a = none → c.h₀.get? a = none := fun a e => by
    cases q : c.h₀.get? a with
    | none => rfl
    | some o => rw [F₂.keep a o q] at e; cases e
  have S3 : Sto c h' (upd (upd σ₂ t (tupO [.str msg tk])) e (excO C t)) := fun a o q => by
    by_cases q1 : a = e
    · subst q1; rw [upd_same] at q; cases q; exact ⟨he', F₂.notNew M.new, base _ M.new⟩
    · rw [upd_ne q1] at q
      by_cases q2 : a = t
      · subst q2; rw [upd_same] at q; cases q; exact ⟨ht, F₂.notNew htn, base _ htn⟩
      · rw [upd_ne q2] at q; exact ⟨M.keeps a o (S₂ a o q).1, (S₂ a o q).2⟩
  have fx3 : Fra c σ₂ h₂ h' (upd (upd σ₂ t (tupO [.str msg tk])) e (excO C t)) := ⟨fun a o q _ _ => M.keeps a o q, fun a o q => by
    by_cases q1 : a = e
    · subst q1; exact .inr M.new
    · rw [upd_ne q1] at q
      by_cases q2 : a = t
      · subst q2; exact .inr htn
      · rw [upd_ne q2] at q; exact .inl (by rw [q]; exact fun z => nomatch z)⟩
  exact .inl ⟨⟨h', tk₂, m₂, _, rfl, F3, S3, fx'.trans fx3 S3, h e t tk (no e M.new) (no t htn) hte⟩, e, rfl⟩

/-! ## a function that throws -/
/-- what a throwing call leaves -/
abbrev Thr (C : Addr) (σ : Store) : Value → Store → Prop := fun v σ' => v = .int (C : Nat) 0 ∧ Sub σ σ'
/-- what a throwing body leaves -/
abbrev ThrB (C : Addr) (σ : Store) : Value → Loc → Store → Prop := fun v _ σ' => (v = .int (C : Nat) 0 ∧ Sub σ σ') ∨ ∃ e t vs, v = .ref e ∧ σ e = none ∧ σ' e = some (excO C t) ∧ σ' t = some (tupO vs) ∧ Sub σ σ'
theorem fn_throw {C : Addr} {g : Pg} {f : Addr} {args : List Value} {name qual : Str} {params : Arguments} {body : List Stmt} {scope : Scope} {dV kV doc pm cdv ct oc : Value} {an od : Option Addr} {osl : Array (Option Value)} (binds : List (Str × Value))
    (ho : g.K.lookup f = some ⟨oc, od, .func (fnX name qual params body scope [] dV kV doc pm an cdv ct), osl⟩) (hcd : codeIn g.K cdv qual = true)
    (hb : bindArgs (fnX name qual params body scope [] dV kV doc pm an cdv ct) ⟨args, []⟩ = pure binds) (hloc : ∀ y ∈ binds, scope.names.lookup y.1 = some .local) (hcell : ∀ x ∈ scope.names, x.2 ≠ .cell)
    (hco : scope.isCoroutine = false) (hgen : scope.isGenerator = false) (hk : scope.kind = .function)
    (h : ∀ (c : Cx) (m : Loc), c.g = g → Gnd n c → c.env.scope = scope → c.env.cells = [] → interactive c.env = false → (∀ y, m y = binds.reverse.lookup y) → W c (execs body c.env) m σ (fun _ _ _ => False) (ThrB C σ)) :
    Fn g (n + 1) (.ref f) args σ (fun _ _ => False) (Thr C σ) := by
  intro A env h₀ m s G F S
  obtain ⟨A₀, outer, B, hA⟩ := G.B
  dsimp only at B hA
  have hfr : env.frame = some env.locals := G.fr
  have hke : env.scope.kind = .function := G.knd
  have N := all_news ⟨g, A, env, h₀⟩ s.heap
  have KX : g.K.In s.heap := G.now F
  refine callX_plain (cl := []) B F.F N G.T.nolimit hA hfr hke (KX _ _ ho) rfl (codeRec_of KX hcd) (by have := G.dep; dsimp only at this; omega) (BindsTo.of_eq hb) hloc ?_ hcell hco hgen hk
  intro g' L' h₁ FG F' N' B' st young
  let c' : Cx := ⟨g, A.deeper (envX qual scope L' f cdv []), envX qual scope L' f cdv [], g'⟩
  have hloc0 : ∀ m : Loc, loc c' m = m := fun m => by funext x; rfl
  have hfr' : c'.A.frames = some (c'.env :: env :: outer) := by show (A.frames.map _) = _; rw [hA]; rfl
  have G' : Gnd n c' := by
    refine ⟨⟨A, env :: outer, B', hfr'⟩, rfl, hk, rfl, rfl, G.X.keeps st, G.T.keeps st, G.hh, ?_, ?_, G.base.at fun o e => st _ o e, G.XB, G.TB, G.baseB⟩
    · have := G.dep
      show A.depth + 1 + 2 * n < recursionLimit
      dsimp only at this; omega
    · have := G.un
      show A.units + 3 + 20 * n + 20 < cLine
      dsimp only at this; omega
  have F1 : Frm c' h₁ (fun y => binds.reverse.lookup y) := ⟨by rw [hloc0]; exact F', fun x a hx => (by cases hx), fun x a hx => (by cases hx), fun x y a hx => (by cases hx)⟩
  have elder : ∀ b o, s.heap.get? b = some o → b ≠ env.locals → h₁.get? b = some o := by
    intro b o e l
    cases q : h₀.get? b with
    | some y =>
      rw [F.keep b y q] at e; cases e
      exact F'.keep b o (st b o q)
    | none => exact (N' (b, o) (mem_lst.mpr ⟨Heap.lt_size e, full_some.mpr ⟨l, q, e⟩⟩)).1
  have yng : ∀ b o, s.heap.get? b = some o → ¬ FA c' b := by
    intro b o e q
    rcases q with q | ⟨x, hx⟩
    · have hb : b = L' := q
      subst hb
      by_cases l : b = env.locals
      · obtain ⟨oL, _, _, hL, _⟩ := FG.ns
        exact absurd (Nat.lt_of_lt_of_le (Heap.lt_size (show g'.get? b = some oL from l ▸ hL)) F'.above) (Nat.lt_irrefl _)
      · cases q : h₀.get? b with
        | some y => exact absurd (Nat.lt_of_lt_of_le (Heap.lt_size (st b y q)) F'.above) (Nat.lt_irrefl _)
        | none => exact absurd (young (b, o) (mem_lst.mpr ⟨Heap.lt_size e, full_some.mpr ⟨l, q, e⟩⟩)) (Nat.lt_irrefl _)
    · cases hx
  have S1 : Sto c' h₁ σ := fun a o e => by
    have mem : (a, o) ∈ allOf ⟨g, A, env, h₀⟩ s.heap := mem_lst.mpr ⟨S.lt e, S.full (c := ⟨g, A, env, h₀⟩) a o e⟩
    exact ⟨(N' _ mem).1, yng a o (S a o e).1, (N' _ mem).2.2⟩
  have key := h c' _ rfl G' rfl rfl (by unfold interactive; rw [show c'.env.scope = scope from rfl, hk]; rfl) (fun _ => rfl) { s with heap := h₁, toks := s.toks + binds.length } F1 S1
  have back := fun {h' : Heap} {m'' : Loc} {σ' : Store} => called_back (c := ⟨g, A, env, h₀⟩) (c' := c') (m := m) (m' := fun y => binds.reverse.lookup y) (s := s) (σ := σ) (h₁ := h₁) (h' := h') (m'' := m'') (σ' := σ') F FG st N' F1.F yng S
  obtain ⟨oL, esL, epL, hL, hLd, hLk, hLf⟩ := FG.ns
  have hLh₁ : h₁.get? env.locals = some oL := F'.keep _ _ hL
  have hLs : ∃ o, s.heap.get? env.locals = some o := by obtain ⟨o, _, _, q, _⟩ := F.F.ns; exact ⟨o, q⟩
  refine wpAny_mono key (fun fl s' Aft => ?_) fun e s' Aft => ?_
  · obtain ⟨_, _, _, _, _, _, _, _, q⟩ := Aft; exact q.elim
  · rcases Aft with ⟨⟨h', tk, m', σ', rfl, F'', S'', x, q⟩, e', rfl⟩ | ⟨h', tk, m', σ', e', C', rfl, rfl, fl, q⟩
    · rcases q with ⟨q, _⟩ | ⟨e'', t, vs, qe, hen, hee, htt, sb⟩
      · cases q
      cases qe
      obtain ⟨a1, a2, a3⟩ := back F'' S'' x
      have frm : h'.FunFrames g.h (c'.env :: env :: outer) := by
        refine .cons (by show scope.kind ≠ .module; rw [hk]; decide) rfl F''.F.ns ?_ (B'.frames.of_keeps fun b o e _ => ⟨o, F''.keep b o e, rfl⟩)
        cases hq : g.h.get? L' with
        | none => rfl
        | some o => exact absurd (Nat.lt_of_lt_of_le (Heap.lt_size (B'.stays L' o hq)) F'.above) (Nat.lt_irrefl _)
      let as := e' :: (c'.env :: env :: outer).filterMap (·.frame)
      have hin : ∀ ev ∈ (c'.env :: env :: outer), ∀ b, ev.frame = some b → b ∈ as := fun ev he b hb => .tail _ (List.mem_filterMap.mpr ⟨ev, he, hb⟩)
      have tabs : ∀ b ∈ (c'.env :: env :: outer).filterMap (·.frame), b = L' ∨ b = env.locals ∨ b ∈ outer.filterMap (·.frame) := fun b hb => by
        obtain ⟨ev, he, hf⟩ := List.mem_filterMap.mp hb
        rcases List.mem_cons.mp he with rfl | he
        · exact .inl (Option.some.inj hf).symm
        · rcases List.mem_cons.mp he with rfl | he
          · rw [hfr] at hf; exact .inr (.inl (Option.some.inj hf).symm)
          · exact .inr (.inr (List.mem_filterMap.mpr ⟨ev, he, hf⟩))
      have htab : ∀ b ∈ (env :: outer).filterMap (·.frame), ∃ o, g'.get? b = some o := fun b hb => let ⟨_, o, ho, _⟩ := B'.frames.mem hb; ⟨o, ho⟩
      have hσt : ∀ a o, σ' a = some o → a ∉ (c'.env :: env :: outer).filterMap (·.frame) := fun a o ha hm => by
        obtain ⟨ev, he, hf⟩ := List.mem_filterMap.mp hm
        rcases List.mem_cons.mp he with rfl | he
        · exact (S'' a o ha).2.1 (.inl (Option.some.inj hf).symm)
        · obtain ⟨o', ho'⟩ := htab a (List.mem_filterMap.mpr ⟨ev, he, hf⟩)
          have := (S'' a o ha).2.2; rw [show c'.h₀ = g' from rfl, ho'] at this; cases this
      refine wpAny_leaving_firstW (base := hideAll h' as) (a0 := .ref t) (oe := excO C t) hfr' (funFrames_hide frm hin) rfl (S'' _ _ hee).1 (fun b o q => of_hideAll _ q) (hideAll_none _ (.head _)) rfl rfl rfl fun h'' hLft => ?_
      obtain ⟨k1, ⟨_, _, k2⟩, k3, k4⟩ := hLft
      have he₁ : h₁.get? e' = none := by
        rcases x.grow e' _ hee with z | z
        · exact absurd hen z
        · exact z
      refine .inr ⟨h'', tk, m, drop e' σ', e', C, rfl, rfl, ⟨⟨hideAll h' as, .ref t, outer, hA, ⟨k1, hideAll_none _ (.head _), k2, k3⟩, fun b o q => ?_, fun a o ha => ?_, fun a o ha hn hf ht => ?_, fun a o ha hn hf => ?_⟩, ?_, fun a o ha => ?_, fun a o ha => ?_⟩, rfl, rfl, sub_drop sb hen⟩
      · refine hideAll_get _ (F''.keep b o (B'.stays b o q)) fun hm => ?_
        rcases List.mem_cons.mp hm with z | z
        · have := (S'' e' _ hee).2.2; rw [show c'.h₀ = g' from rfl, ← z, B'.stays b o q] at this; cases this
        · rw [(frm.mem z).1] at q; cases q
      · have hne : a ≠ e' := fun q => by rw [q, drop_same] at ha; cases ha
        rw [drop_ne hne] at ha
        exact hideAll_get _ (S'' a o ha).1 fun hm => by
          rcases List.mem_cons.mp hm with z | z
          · exact hne z
          · exact hσt a o ha z
      · refine hideAll_get _ (a3.kept a o ha hn hf) fun hm => ?_
        have hal : a ≠ env.locals := fun q => hf (.inl q)
        rcases List.mem_cons.mp hm with z | z
        · rw [← z, elder a o ha hal] at he₁; cases he₁
        · rcases tabs a z with z | z | z
          · exact yng a o ha (.inl z)
          · exact hal z
          · exact ht z
      · have ha' := a3.kept a o ha hn hf
        by_cases ht : a ∈ outer.filterMap (·.frame)
        · obtain ⟨ev, he, hev⟩ := List.mem_filterMap.mp ht
          obtain ⟨_, o2, ho2, hnf⟩ := frm.mem (List.mem_filterMap.mpr ⟨ev, .tail _ (.tail _ he), hev⟩)
          rw [ha'] at ho2; cases ho2
          exact k4 a o ha' hnf
        · refine ⟨o.slots, k1 a o (hideAll_get _ ha' fun hm => ?_)⟩
          have hal : a ≠ env.locals := fun q => hf (.inl q)
          rcases List.mem_cons.mp hm with z | z
          · rw [← z, elder a o ha hal] at he₁; cases he₁
          · rcases tabs a z with z | z | z
            · exact yng a o ha (.inl z)
            · exact hal z
            · exact ht z
      · exact Heap.UpToSlots.ns k4 a1.F.ns
      · have hne : a ≠ e' := fun q => by rw [q, drop_same] at ha; cases ha
        rw [drop_ne hne] at ha
        exact (a2 a o ha).2.1
      · have hne : a ≠ e' := fun q => by rw [q, drop_same] at ha; cases ha
        rw [drop_ne hne] at ha
        exact a3.grow a o ha
    · rcases q with ⟨q, sb⟩ | ⟨_, _, _, q, _⟩
      rotate_left
      · cases q
      have hCC : C' = C := by
        injection q with q1 q2
        exact Int.ofNat.inj q1
      subst hCC
      obtain ⟨⟨Bh, a0, outer', f1, f2, f3, f4, f5, f6⟩, ns, off, grow⟩ := fl
      rw [hfr'] at f1
      injection f1 with f1
      injection f1 with _ f1
      subst f1
      have offc : ∀ a o, σ' a = some o → ¬ FA (⟨g, A, env, h₀⟩ : Cx) a := fun a o ha => by
        rcases grow a o ha with z | z
        · cases q : σ a with
          | none => exact absurd q z
          | some o' => exact (S a o' q).2.1
        · intro hf
          rcases hf with q | ⟨y, hy⟩
          · have q : a = env.locals := q
            rw [q, hLh₁] at z; cases z
          · obtain ⟨o', ho', _⟩ := F.cell y a hy
            have := elder a o' ho' (F.off y a hy).1
            rw [this] at z; cases z
      refine wpAny_leaves_onW hfr' rfl f2 fun h'' fl2 ups => ?_
      have up : ∀ a o, s.heap.get? a = some o → σ a = none → ¬ FA (⟨g, A, env, h₀⟩ : Cx) a → ∃ sl, h''.get? a = some { o with slots := sl } := fun a o ha hn hf => by
        have hal : a ≠ env.locals := fun q => hf (.inl q)
        obtain ⟨sl, hs⟩ := f6 a o (elder a o ha hal) hn (yng a o ha)
        by_cases ht : a ∈ outer.filterMap (·.frame)
        · obtain ⟨ev, he, hev⟩ := List.mem_filterMap.mp ht
          obtain ⟨_, o2, ho2, hnf⟩ := f2.2.2.1.mem (List.mem_filterMap.mpr ⟨ev, .tail _ (.tail _ he), hev⟩)
          rw [hs] at ho2; cases ho2
          obtain ⟨sl2, h2⟩ := ups a _ hs hnf
          exact ⟨sl2, h2⟩
        · refine ⟨o.slots, fl2.1 a o (f5 a o (elder a o ha hal) hn (yng a o ha) fun hm => ?_)⟩
          obtain ⟨ev, he, hev⟩ := List.mem_filterMap.mp hm
          rcases List.mem_cons.mp he with rfl | he
          · rw [hfr] at hev; exact hal (Option.some.inj hev).symm
          · exact ht (List.mem_filterMap.mpr ⟨ev, he, hev⟩)
      refine .inr ⟨h'', tk, m, σ', e', C', rfl, rfl, ⟨⟨Bh, a0, outer, hA, fl2, f3, f4, fun a o ha hn hf ht => ?_, up⟩, ?_, offc, fun a o ha => ?_⟩, rfl, rfl, sb⟩
      · have hal : a ≠ env.locals := fun q => hf (.inl q)
        refine f5 a o (elder a o ha hal) hn (yng a o ha) fun hm => ?_
        obtain ⟨ev, he, hev⟩ := List.mem_filterMap.mp hm
        rcases List.mem_cons.mp he with rfl | he
        · rw [hfr] at hev; exact hal (Option.some.inj hev).symm
        · exact ht (List.mem_filterMap.mpr ⟨ev, he, hev⟩)
      · obtain ⟨oS, hoS⟩ := hLs
        have σL : σ env.locals = none := by
          cases q : σ env.locals with
          | none => rfl
          | some o => exact absurd (.inl rfl) (S _ o q).2.1
        obtain ⟨sl, hs⟩ := f6 env.locals oL hLh₁ σL (yng _ _ hoS)
        obtain ⟨sl2, h2⟩ := ups _ _ hs fun vs q => by
          have q : oL.data = .fields vs := q
          rw [hLd] at q; cases q
        exact ⟨_, esL, epL, h2, hLd, hLk, hLf⟩
      · rcases grow a o ha with z | z
        · exact .inl z
        · right
          cases k : s.heap.get? a with
          | none => rfl
          | some o' =>
            by_cases l : a = env.locals
            · exact absurd (.inl l) (offc a o ha)
            · rw [elder a o' k l] at z; cases z
end
end Mine

open PySem PySem.W PySem.Calls PyProof.Rows
namespace Mine
/-- a call from the law's own frame -/
def FnT (g : Pg) (n : Nat) (f : Value) (args : List Value) (σ : Store) (Q : Value → Store → Prop) : Prop :=
  ∀ (A : Around) (env : Env) (m : Loc) (s : Shared), Gnd n ⟨g, A, env, g.h⟩ → A.frames = some [env] → Frm ⟨g, A, env, g.h⟩ s.heap m → Sto ⟨g, A, env, g.h⟩ s.heap σ →
    codeAny (model g.prog g.w) A (.call f ⟨args, []⟩) (fun r s' => match r with
      | .ok (.ret v) => After ⟨g, A, env, g.h⟩ σ s s' (fun m' σ' => m' = m ∧ Q v σ')
      | _ => False) s
section
variable {n : Nat} {c : Cx} {m : Loc} {σ : Store} {X : Value → Loc → Store → Prop} {sc : Scope} {x : Str} {pos : Pos} {v : Value}
theorem w_fnT {f : Value} {args : List Value} {Q : Value → Loc → Store → Prop} {k : Nat} {P : Value → Store → Prop} (g : Gnd n c) (hk : k ≤ n) (hfr : c.A.frames = some [c.env]) (hh0 : c.h₀ = c.g.h) (hf : FnT c.g k f args σ P) (h : ∀ v σ', P v σ' → Q v m σ') : W c (call f args) m σ Q X := by
  obtain ⟨pg, A, env, h₀⟩ := c
  dsimp only at hh0
  subst hh0
  exact fun s F S => wpAny_call (codeAny_mono (hf A env m s (g.less hk) hfr F S) fun r s' z => by
    rcases r with e | (_ | _ | _ | v)
    · exact z.elim
    · exact z.elim
    · exact z.elim
    · exact z.elim
    · exact After.mono z fun m' σ' q => by obtain ⟨rfl, q⟩ := q; exact h v σ' q)

end

section
variable {n : Nat} {σ : Store}
end
end Mine

open PySem PySem.W PySem.Calls PyProof.Rows
namespace Mine
section
variable {prog : Program} {w : World} {A : Around} {E : Value → Shared → Prop} {h : Heap} {g : Array GenState} {d : Drawn} {t : Nat} {os : OsState} {K : Frag} {C e : Addr} {oe : Obj} {vs : Array Value}
open Builtin Builtin.ObjectAttr Builtin.Getset_descriptor in
end
section
variable {c : Cx} {m : Loc} {σ : Store} {X : Value → Loc → Store → Prop} {Q : Value → Loc → Store → Prop}
end
end Mine

open PySem PySem.W PySem.Calls PyProof.Rows
namespace Mine
section
variable {n : Nat} {c : Cx} {env : Env} {m : Loc} {σ : Store} {X : Value → Loc → Store → Prop} {Q : Value → Loc → Store → Prop}
theorem i_min2 {a b : Int} {t u : Tok} (g : Gnd n c) (h : ∀ tk, Q (.int (if b < a then b else a) tk) m σ) : W c (call (.builtin "min") [.int a t, .int b u]) m σ Q X :=
  fun s F S => min_two_N g.hh F.F (all_news c s.heap) fun h' tk F' N' => After.at (stayed F S F' N') (h _)
end
end Mine
namespace Mine
section
variable {n : Nat} {c : Cx} {env : Env} {m : Loc} {σ : Store} {X : Value → Loc → Store → Prop} {Q : Value → Loc → Store → Prop}
end
end Mine

open PySem PySem.W PySem.Calls PyProof.Rows
namespace Mine
section
variable {n : Nat} {c : Cx} {m : Loc} {σ : Store} {X : Value → Loc → Store → Prop} {scope : Scope} {e : Env} {C : Addr} {x : Str} {pos : Pos} {v : Value}
/-- the word of the whole, behind what is walked -/
def CompU (c : Cx) (elt iter : Expr) (x : Str) (px : Pos) (scope : Scope) (pos : Pos) (v : Value) (m : Loc) (σ : Store) (y : Str) (py : Pos) (Q : Loc → Store → Prop) : Prop :=
  CompG c [] elt iter x px scope pos v m σ (some (assign (.Name y py) c.env)) (fun s _ s' => After c σ s s' Q)

theorem x_assign_comp {elt iter : Expr} {px py spos : Pos} {y : Str} {rest : List Stmt} {Q : Flow → Loc → Store → Prop} (g : Gnd n c) (hy : c.env.kindOf y = some .local) (hl : (py.line == pos.line && !(scope.names.any fun (n, k) => n == y && (k == .local || k == .cell))) = true)
    (hfree : ∀ y ∈ scope.names, y.2 = NameKind.free → ∃ a, c.env.cells.lookup y.1 = some a) (hkind : scope.kind = .function) (hnames : ∀ x ∈ scope.names, x.2 = .local → scope.names.lookup x.1 = some .local)
    (hs : ∀ x, foldedSetIterable iter c.env x = Pure.pure x) (h : W c (eval iter c.env) m σ (fun v m₁ σ₁ => CompU c elt iter x px scope pos v m₁ σ₁ y py (fun m₂ σ₂ => W c (execs rest c.env) m₂ σ₂ Q X)) X) :
    W c (execs (.Assign [.Name y py] (.ListComp elt [⟨.Name x px, iter, [], 0⟩] scope pos) spos :: rest) c.env) m σ Q X := by
  have hsw : swapsWith (.ListComp elt [⟨.Name x px, iter, [], 0⟩] scope pos) (some (.Name y py)) spos.line c.env = Pure.pure true := by
    show (Pure.pure (c.env.blockKind == .function && c.env.kindOf y == some .local && py.line == pos.line && !(scope.names.any fun (n, k) => n == y && (k == .local || k == .cell))) : Sem Bool) = _
    rw [Bool.and_assoc, hl, hy]
    unfold Env.blockKind
    rw [g.knd]; rfl
  refine w_execs_cons (fun s F S => ?_)
  obtain ⟨cl, hcl, hl⟩ := closure_is hfree
  rw [exec_Assign_Name_used _ _ _ _ hsw]
  refine wpAny_bind (wpAny_standAt (wpAny_bind ?_))
  show wpAny _ _ (do let _ ← comprehension (.ListComp elt [⟨.Name x px, iter, [], 0⟩] scope pos) scope c.env _ (newList []) false (eval iter c.env) (some (assign (.Name y py) c.env))) _ _ s
  refine wpAny_bind (wpAny_mono (wpAny_comprehension_free (g := ⟨.Name x px, iter, [], 0⟩) (gs := []) (use := some (assign (.Name y py) c.env)) (Q := fun _ s' => After c σ s s' (fun m₂ σ₂ => W c (execs rest c.env) m₂ σ₂ Q X)) rfl hs hcl hkind hnames ?_) (fun _ s' hq => wpAny_pure (wpAny_pure ?_)) fun _ _ e => e)
  · refine wpAny_mono (h s F S) (fun v s₁ A => ?_) fun _ _ x => x
    obtain ⟨h', tk, m', σ', rfl, F', S', fx, T⟩ := A
    refine wpAny_mono (T cl hl { s with heap := h', toks := tk } F' S') (fun it s₂ C => wpAny_mono C (fun acc s₃ C => wpAny_mono C (fun cenv s₄ C => codeAny_mono C fun r s' z => ?_) fun _ _ x => x.elim) fun _ _ x => x.elim) fun _ _ x => x.elim
    cases r with
    | ok f =>
      refine wpAny_mono z (fun _ s'' k => ?_) fun _ _ x => x.elim
      obtain ⟨mm, hn, k⟩ := k
      exact ⟨mm, hn, fun h' hs => (k h' hs).on rfl fx⟩
    | error e =>
      obtain ⟨mm, hn, k⟩ := z
      exact ⟨mm, hn, fun h' hs ce hce => wpAny_mono (k h' hs ce hce) (fun _ _ x => x) fun _ _ x => x.elim⟩
  · exact hq
theorem fin_use {s : Shared} {I : Addr} {τ : Store} {h : Heap} {ys : List Value} {kk tk : Nat} {oC : Obj} {mm : Loc} {y : Str} {py : Pos} {Q : Loc → Store → Prop} (g : Gnd n c) (hy : c.env.kindOf y = some .local) (hyc : c.env.cells.lookup y = none)
    (B : CBase c m σ s I) (A : CAt c m σ s I τ h ys kk oC) (hn : NsO oC mm) (hQ : Q (setM m y (.ref (I + 1))) (upd τ (I + 1) (lstO ys kk))) :
    compPost (model c.g.prog c.g.w) c.A (fun _ _ => False) (some (assign (.Name y py) c.env)) (fun _ s' => After c σ s s' Q) (.ref (I + 1)) (I + 2) (.ok .next) { s with heap := h, toks := tk } := by
  have key := w_store (x := y) (v := .ref (I + 1)) (X := NoX) (Q := fun _ m' σ' => m' = setM m y (.ref (I + 1)) ∧ σ' = upd (upd τ (I + 1) (lstO ys kk)) (I + 2) oC) g.knd hy hyc ⟨rfl, rfl⟩ { s with heap := h, toks := tk } A.F (B.stoU (le2 I) (B.stoU (le1 I) A.S A.hD) A.hC)
  refine wpAny_mono (wpAny_assign_Name key) (fun _ s4 A4 => ?_) fun e s4 A4 => A4.no.elim
  obtain ⟨h4, tk4, m4, σ4, rfl, F4, S4, x4, rfl, rfl⟩ := A4
  refine ⟨mm, hn.at (S4 _ _ upd_same).1, fun h2 hsb => ?_⟩
  have k2 : ∀ b o, b ≠ I + 2 → h4.get? b = some o → h2.get? b = some o := fun b o q e => (hsb.2 b q).trans e
  have nC1 : upd τ (I + 1) (lstO ys kk) (I + 2) = none := (upd_ne (n21 I)).trans A.nC
  have fx4 := (B.fraU (o := oC) (le2 I) (B.fraU (o := lstO ys kk) (le1 I) A.x)).trans x4 S4
  exact ⟨h2, tk4, _, upd τ (I + 1) (lstO ys kk), rfl, B.frm (le2 I) F4 k2, (S4.sub (sub_upd nC1)).step nC1 k2, B.fra (le2 I) (fx4.less (sub_upd nC1)) k2, hQ⟩
theorem comp_rangeU {elt iter : Expr} {px py : Pos} {y : Str} {r : Addr} {i k : Int} {t u w : Tok} (g : Gnd n c) (hy : c.env.kindOf y = some .local) (hyc : c.env.cells.lookup y = none) (hcell : ∀ y ∈ scope.names, y.2 ≠ .cell) (hkind : scope.kind = .function) (hx : scope.names.lookup x = some .local)
    (P : Nat → List Value → Store → Prop) (mono : ∀ i ys τ τ', Sub τ τ' → P i ys τ → P i ys τ')
    (hr : σ r = some (rngO i k t u w)) (hi : -(2 ^ 62) ≤ i) (hi' : i < 2 ^ 62) (hk : -(2 ^ 62) ≤ k) (hk' : k < 2 ^ 62) (hN : (k - i).toNat ≤ sizeLine) (h0 : P 0 [] σ)
    (turn : ∀ j t, j < (k - i).toNat → EltOk c scope x elt m σ P j (.int (i + j) t))
    (done : ∀ D σ' ys kk, σ D = none → σ' D = none → Sub σ σ' → ys.length = (k - i).toNat → P (k - i).toNat ys σ' → Q (setM m y (.ref D)) (upd σ' D (lstO ys kk))) : CompU c elt iter x px scope pos (.ref r) m σ y py Q := by
  refine comp_core g hcell hkind hx hN (fun i ys τ => ys.length = i ∧ P i ys τ) (CWalk.range g hr hi hi' hk hk') ⟨rfl, h0⟩ ?_ fun s I ys τ h tk kk oC mm B A hP hn => fin_use g hy hyc B A hn (done _ τ ys kk (B.notσ (le1 I)) A.nD A.sub hP.1 hP.2)
  rintro j v hj ⟨t, rfl⟩
  rw [Int.mul_one]
  exact (turn j t hj).plain
end
end Mine

open PySem PySem.W PySem.Calls PyProof.Rows
namespace Mine
/-! ## dicts with text keys -/
/-- the dict at d holds these pairs -/
def DicAt (g : Pg) (σ : Store) (d : Addr) (kvs : List (Str × Value)) : Prop := ∃ o, σ d = some o ∧ o.IsDictOf (strKind g.prog g.w) kvs
theorem DicAt.sub {g : Pg} {σ τ : Store} {d : Addr} {kvs : List (Str × Value)} (h : DicAt g σ d kvs) (s : Sub σ τ) : DicAt g τ d kvs := let ⟨o, e, q⟩ := h; ⟨o, s _ _ e, q⟩
theorem DicAt.new {g : Pg} {σ : Store} {d : Addr} {o : Obj} {kvs : List (Str × Value)} (h : o.IsDictOf (strKind g.prog g.w) kvs) : DicAt g (upd σ d o) d kvs := ⟨o, upd_same, h⟩
theorem DicAt.off {g : Pg} {σ : Store} {d a : Addr} {o : Obj} {kvs : List (Str × Value)} (h : DicAt g σ d kvs) (n : d ≠ a) : DicAt g (upd σ a o) d kvs := let ⟨o', e, q⟩ := h; ⟨o', by rw [upd_ne n]; exact e, q⟩
section
variable {n : Nat} {c : Cx} {env : Env} {m : Loc} {σ : Store} {X : Value → Loc → Store → Prop} {Q : Value → Loc → Store → Prop}
theorem turned_same {s : Shared} {d : Addr} {o o' : Obj} {h' : Heap} (F : Frm c s.heap m) (S : Sto c s.heap σ) (hd : σ d = some o) (hs : Heap.SameBut d s.heap h') (ho' : h'.get? d = some o') :
    Frm c h' m ∧ Sto c h' (upd σ d o') ∧ Fra c σ s.heap h' (upd σ d o') := by
  have nd := (S d o hd).2
  have k2 : ∀ b x, b ≠ d → s.heap.get? b = some x → h'.get? b = some x := fun b x q e => (hs.2 b q).trans e
  refine ⟨?_, fun a x e => ?_, fun a x e z _ => k2 a x (fun q => by rw [q, hd] at z; cases z) e, fun a x e => ?_⟩
  · refine F.on ⟨?_, fun b x e => k2 b x (fun q => by rw [q, nd.2] at e; cases e) (F.keep b x e), F.F.above⟩ fun x b hb o e => k2 b o (fun q => nd.1 (q ▸ .inr ⟨x, hb⟩)) e
    obtain ⟨oL, es, ep, hL, r⟩ := F.F.ns
    exact ⟨oL, es, ep, k2 _ _ (fun q => nd.1 (.inl q.symm)) hL, r⟩
  · by_cases q : a = d
    · subst q; rw [upd_same] at e; cases e; exact ⟨ho', nd⟩
    · rw [upd_ne q] at e; exact ⟨k2 a x q (S a x e).1, (S a x e).2⟩
  · by_cases q : a = d
    · subst q; exact .inl (by rw [hd]; exact fun z => nomatch z)
    · rw [upd_ne q] at e; exact .inl (by rw [e]; exact fun z => nomatch z)
theorem dic_of {h : Heap} {d : Addr} {kvs : List (Str × Value)} (S : Sto c h σ) (hd : DicAt c.g σ d kvs) : h.DictOf (strKind c.g.prog c.g.w) d kvs := let ⟨o, e, q⟩ := hd; Heap.dictOf_iff.mpr ⟨o, (S d o e).1, q⟩
theorem w_dget {value slice : Expr} {d : Addr} {kvs : List (Str × Value)} {k : Str} {t : Tok} {v : Value} (hd : DicAt c.g σ d kvs) (hv : valueAt kvs k = some v) (h : Q v m σ)
    (hs : subscripted slice false (.ref d) (.str k t) = operate [.ref d, .str k t] (getItem (.ref d) (.str k t)) := by with_unfolding_all rfl) : W c (subscriptTail value slice (.ref d) (.str k t)) m σ Q X :=
  fun s F S => tail_any (dic_of S hd).typeIs slot_dict_getitem.lookup (wpAny_getItem_of (strKind_is _ _ k t) (dic_of S hd).mapOf hv (After.tok F S h)) hs
theorem w_dset {d : Addr} {kvs : List (Str × Value)} {k : Str} {t : Tok} {v : Value} {Q : Unit → Loc → Store → Prop} (hd : DicAt c.g σ d kvs) (hz : kvs.length ≤ sizeLine) (h : ∀ o', o'.IsDictOf (strKind c.g.prog c.g.w) (stored kvs k v) → Q () m (upd σ d o')) :
    W c (setItem (.ref d) (.str k t) v) m σ Q X := fun s F S => by
  refine wpAny_setItem_pairs (strKind_is _ _ k t) (dic_of S hd) (fun h' hm hs => ?_) hz
  obtain ⟨o, ho, q⟩ := Heap.dictOf_iff.mp hm
  obtain ⟨o0, e0, _⟩ := hd
  exact After.at (turned_same F S e0 hs ho) (h o q)
theorem w_assign_sub {o i value : Expr} {pos' pos : Pos} {Q : Flow → Loc → Store → Prop} (hs : swapsWith value (some (.Subscript o i pos')) pos.line env = Pure.pure false)
    (h : W c (eval value env) m σ (fun v m' σ' => W c (eval o env) m' σ' (fun ov m₂ σ₂ => W c (eval i env) m₂ σ₂ (fun iv m₃ σ₃ => W c (setItem ov iv v) m₃ σ₃ (fun _ => Q .next) X) X) X) X) : W c (exec (.Assign [.Subscript o i pos'] value pos) env) m σ Q X :=
  fun s F S => wpAny_Assign_Subscript (wpAny_mono (h s F S) (fun _ _ A => wpAny_mono (A.next fun _ _ w => w) (fun _ _ A' => wpAny_mono (A'.next fun _ _ w => w) (fun _ _ A'' => A''.next fun _ _ w => w) fun _ _ x => x) fun _ _ x => x) fun _ _ x => x) hs
theorem x_sub {o i value : Expr} {pos' pos : Pos} {rest : List Stmt} {Q : Flow → Loc → Store → Prop} (hs : swapsWith value (some (.Subscript o i pos')) pos.line env = Pure.pure false)
    (h : W c (eval value env) m σ (fun v m' σ' => W c (eval o env) m' σ' (fun ov m₂ σ₂ => W c (eval i env) m₂ σ₂ (fun iv m₃ σ₃ => W c (setItem ov iv v) m₃ σ₃ (fun _ m₄ σ₄ => W c (execs rest env) m₄ σ₄ Q X) X) X) X) X) : W c (execs (.Assign [.Subscript o i pos'] value pos :: rest) env) m σ Q X :=
  w_execs_cons (w_assign_sub hs h)
/-- a dict, written -/
theorem w_pairs {k v : Expr} {ks : List (Option Expr)} {vs : List Expr} {pos : Pos} {Q : List (Value × Value) → Loc → Store → Prop}
    (h : W c (eval k env) m σ (fun kv m₁ σ₁ => W c (eval v env) m₁ σ₁ (fun vv m₂ σ₂ => W c (evalPairs (pairTrees ks vs env pos)) m₂ σ₂ (fun r m₃ σ₃ => Q ((kv, vv) :: r) m₃ σ₃) X) X) X) : W c (evalPairs (pairTrees (some k :: ks) (v :: vs) env pos)) m σ Q X :=
  fun s F S => pairTrees_cons_walk (wpAny_mono (h s F S) (fun _ _ A => wpAny_mono (A.next fun _ _ w => w) (fun _ _ A' => A'.next fun _ _ w => w) fun _ _ x => x) fun _ _ x => x)
theorem w_pairs_nil {pos : Pos} {Q : List (Value × Value) → Loc → Store → Prop} (h : Q [] m σ) : W c (evalPairs (pairTrees [] [] env pos)) m σ Q X := fun _ F S => pairTrees_nil_walk (After.here F S h)
theorem w_dictS {keys : List (Option Expr)} {values : List Expr} {pos : Pos} (hall : keys.all (·.isSome) = true) (hl : keys.length = values.length) (h0 : keys ≠ []) (hlen : keys.length ≤ 15)
    (h : W c (evalPairs (pairTrees keys values env pos)) m σ (fun vs m' σ' => ∃ kvs, Carries (strKind c.g.prog c.g.w) vs kvs ∧ ∀ a o, σ' a = none → o.IsDictOf (strKind c.g.prog c.g.w) (merged [] kvs) → Q (.ref a) m' (upd σ' a o)) X) : W c (eval (.Dict keys values pos) env) m σ Q X := fun s F S => by
  refine Dict_made (knd := strKind c.g.prog c.g.w) F.F hall hl h0 hlen fun F1 => ?_
  have hn : s.heap.get? s.heap.objs.size = none := no_end _
  have F1' : Frm c (s.heap.push { cls := .type "dict", data := .dict #[] }) m := F.keeps fun b o e => Heap.get?_push_of_some _ e
  have S1 : Sto c (s.heap.push { cls := .type "dict", data := .dict #[] }) σ := fun a o e => ⟨Heap.get?_push_of_some _ (S a o e).1, (S a o e).2⟩
  have nF : ¬ FA c s.heap.objs.size := F.notNew hn
  have n0 : c.h₀.get? s.heap.objs.size = none := by
    cases q : c.h₀.get? s.heap.objs.size with
    | none => rfl
    | some o => rw [F.keep _ o q] at hn; cases hn
  have hself : (s.heap.push { cls := .type "dict", data := .dict #[] }).get? s.heap.objs.size = some { cls := .type "dict", data := .dict #[] } := Heap.get?_push_size _ rfl
  have fx0 : Fra c σ s.heap (s.heap.push { cls := .type "dict", data := .dict #[] }) σ := ⟨fun b o e _ _ => Heap.get?_push_of_some _ e, fun a o e => .inl (by rw [e]; exact fun q => nomatch q)⟩
  have key := h { s with heap := s.heap.push { cls := .type "dict", data := .dict #[] } } F1' S1
  refine wpAny_mono key (fun vs s1 A => ?_) fun e s1 A => A.on (s := s) (tk := s.toks) rfl fx0
  obtain ⟨h1, tk1, m1, σ1, rfl, F2, S2, x2, kvs, hc, q⟩ := A
  have hd1 : h1.get? s.heap.objs.size = some { cls := .type "dict", data := .dict #[] } := x2.kept _ _ hself S.fresh nF
  have no1 : σ1 s.heap.objs.size = none := by
    cases z : σ1 s.heap.objs.size with
    | none => rfl
    | some o =>
      rcases x2.grow _ o z with r | r
      · exact absurd S.fresh r
      · rw [hself] at r; cases r
  have hdo : h1.DictOf (strKind c.g.prog c.g.w) s.heap.objs.size [] := by
    have := Heap.DictOf.new (knd := strKind c.g.prog c.g.w) s.heap
    obtain ⟨o, ho, r⟩ := Heap.dictOf_iff.mp this
    rw [hself] at ho; cases ho
    exact Heap.dictOf_iff.mpr ⟨_, hd1, r⟩
  refine ⟨kvs, hc, hdo, fun h' hm hs => ?_⟩
  obtain ⟨o, ho, r⟩ := Heap.dictOf_iff.mp hm
  have fx := fx0.trans x2 S2
  have S3 : Sto c h1 (upd σ1 s.heap.objs.size { cls := .type "dict", data := .dict #[] }) := fun a o e => by
    by_cases q : a = s.heap.objs.size
    · subst q; rw [upd_same] at e; cases e; exact ⟨hd1, nF, n0⟩
    · rw [upd_ne q] at e; exact S2 a o e
  have T := turned_same (s := { s with heap := h1, toks := tk1 }) F2 S3 upd_same hs ho
  have hq := q s.heap.objs.size o no1 r
  have e : upd (upd σ1 s.heap.objs.size { cls := .type "dict", data := .dict #[] }) s.heap.objs.size o = upd σ1 s.heap.objs.size o := by
    funext a
    by_cases q : a = s.heap.objs.size
    · rw [q, upd_same, upd_same]
    · rw [upd_ne q, upd_ne q, upd_ne q]
  rw [e] at T
  refine ⟨h', _, m1, _, rfl, T.1, T.2.1, ⟨fun a o' e z l => ?_, fun a o' e => ?_⟩, hq⟩
  · have hne : a ≠ s.heap.objs.size := fun q => by rw [q, hn] at e; cases e
    exact (hs.2 a hne).trans (fx.kept a o' e z l)
  · by_cases q : a = s.heap.objs.size
    · exact .inr (by rw [q]; exact hn)
    · rw [upd_ne q] at e; exact fx.grow a o' e
end
end Mine

open PySem PySem.W PySem.Calls PyProof.Rows
namespace Mine
theorem forIn_one {tst : Expr} {e : Env} : (forIn (m := Sem) [tst] true fun c r => if r = true then do let ok ← isTrue c e (eval c e); pure (ForInStep.yield ok) else pure (ForInStep.yield r)) = isTrue tst e (eval tst e) := by
  rw [List.forIn_cons]
  simp
section
variable {n : Nat} {c : Cx} {m : Loc} {σ : Store} {X : Value → Loc → Store → Prop} {Q : Value → Loc → Store → Prop} {scope : Scope} {e : Env} {C : Addr} {x : Str} {pos : Pos} {v : Value}
/-- one element's word, behind a test -/
def EltOkT (c : Cx) (scope : Scope) (x : Str) (tst elt : Expr) (m : Loc) (σ : Store) (P : Nat → List Value → Store → Prop) (i : Nat) (v : Value) : Prop :=
  ∀ (e : Env) (C : Addr) (oC : Obj) (mm : Loc) (τ : Store) (ys : List Value), CompEnv c scope e C → Sub σ τ → τ C = none → P i ys τ → NsO oC mm → mm x = some v →
    W c (isTrue tst e (eval tst e)) m (upd τ C oC) (fun b m₁ σ₁ => Br b (W c (eval elt e) m₁ σ₁ (fun y m' σ' => m' = m ∧ Sub (upd τ C oC) σ' ∧ P (i + 1) (ys ++ [y]) (drop C σ')) NoX) (m₁ = m ∧ Sub (upd τ C oC) σ₁ ∧ P (i + 1) ys (drop C σ₁))) NoX
/-- the word of the whole, behind what is walked -/
def CompT (c : Cx) (tst elt iter : Expr) (x : Str) (px : Pos) (scope : Scope) (pos : Pos) (v : Value) (m : Loc) (σ : Store) (Q : Value → Loc → Store → Prop) : Prop :=
  CompG c [tst] elt iter x px scope pos v m σ none (fun s r s' => After c σ s s' (Q r))
theorem w_compT {tst elt iter : Expr} {px : Pos} (hfree : ∀ y ∈ scope.names, y.2 = NameKind.free → ∃ a, c.env.cells.lookup y.1 = some a) (hkind : scope.kind = .function) (hnames : ∀ x ∈ scope.names, x.2 = .local → scope.names.lookup x.1 = some .local)
    (hs : ∀ x, foldedSetIterable iter c.env x = Pure.pure x) (h : W c (eval iter c.env) m σ (fun v m₁ σ₁ => CompT c tst elt iter x px scope pos v m₁ σ₁ Q) X) :
    W c (eval (.ListComp elt [⟨.Name x px, iter, [tst], 0⟩] scope pos) c.env) m σ Q X := w_compG hfree hkind hnames hs h
theorem comp_listT {tst elt iter : Expr} {px : Pos} {l : Addr} {vs : List Value} {k : Nat} (g : Gnd n c) (hcell : ∀ y ∈ scope.names, y.2 ≠ .cell) (hkind : scope.kind = .function) (hx : scope.names.lookup x = some .local)
    (P : Nat → List Value → Store → Prop) (mono : ∀ i ys τ τ', Sub τ τ' → P i ys τ → P i ys τ')
    (hl : σ l = some (lstO vs k)) (hN : vs.length ≤ sizeLine) (h0 : P 0 [] σ)
    (turn : ∀ j v, vs[j]? = some v → EltOkT c scope x tst elt m σ P j v)
    (done : ∀ D σ' ys kk, σ D = none → σ' D = none → Sub σ σ' → P vs.length ys σ' → Q (.ref D) m (upd σ' D (lstO ys kk))) : CompT c tst elt iter x px scope pos (.ref l) m σ Q :=
  comp_core g hcell hkind hx hN P (CWalk.list g hl) h0 (fun j v _ hv => fun e C oC mm τ ys CE sub nC hP hn hv' => by
    unfold tests
    rw [forIn_one]
    exact turn j v (list_at hv) e C oC mm τ ys CE sub nC hP hn hv') fun s I ys τ h tk kk oC mm B A hP hn => fin_plain B A hn (done _ τ ys kk (B.notσ (le1 I)) A.nD A.sub hP)
end
end Mine

open PySem PySem.W PySem.Calls PyProof.Rows
namespace Mine
section
variable {n : Nat} {c : Cx} {env : Env} {m : Loc} {σ : Store} {X : Value → Loc → Store → Prop} {Q : Value → Loc → Store → Prop}
/-! ## a tuple's parts, each into its name -/
theorem w_unpack {elts : List Expr} {k} {tpos pos : Pos} {value : Expr} {Q : Flow → Loc → Store → Prop} (g : Gnd n c) (hs : swapsWithSole [.Tuple elts k tpos] value pos.line env = Pure.pure false) (hw : swappedStores [.Tuple elts k tpos] value env = Pure.pure none)
    (h : W c (eval value env) m σ (fun v m₁ σ₁ => ∃ t vs, v = .ref t ∧ σ₁ t = some (tupO vs) ∧ (assignEach elts env).length = vs.length ∧ (assignEach elts env).findIdx? (·.1) = none ∧ W c (assignInOrder ((assignEach elts env).map (·.2)) vs) m₁ σ₁ (fun _ => Q .next) X) X) :
    W c (exec (.Assign [.Tuple elts k tpos] value pos) env) m σ Q X := fun s F S =>
  Assign_Tuple (wpAny_mono (h s F S) (fun v s₁ A => by
    obtain ⟨h', tk, m', σ', rfl, F', S', x, t, vs, rfl, ht, hn, hst, w⟩ := A
    refine assign_Tuple_tuple g.hh (isTup_of S' ht) (by simpa using hn) hst fun h2 he => ?_
    have keep : ∀ b o, h'.get? b = some o → h2.get? b = some o := fun b o e => he b o (Nat.ne_of_lt (Heap.lt_size e)) e
    have S2 : Sto c h2 σ' := fun a o e => ⟨keep _ _ (S' a o e).1, (S' a o e).2⟩
    have x2 : Fra c σ' h' h2 σ' := ⟨fun b o e _ _ => keep b o e, fun a o e => .inl (by rw [e]; exact fun q => nomatch q)⟩
    exact wpAny_mono (w { s with heap := h2, toks := tk } (F'.keeps keep) S2) (fun _ _ A => A.on (s := s) (h₁ := h2) (tk := tk) rfl (x.trans x2 S2)) fun _ _ A => A.on (s := s) (h₁ := h2) (tk := tk) rfl (x.trans x2 S2)) fun _ _ e => e) hs hw
theorem x_unpack {elts : List Expr} {k} {tpos pos : Pos} {value : Expr} {rest : List Stmt} {Q : Flow → Loc → Store → Prop} (g : Gnd n c) (hs : swapsWithSole [.Tuple elts k tpos] value pos.line env = Pure.pure false) (hw : swappedStores [.Tuple elts k tpos] value env = Pure.pure none)
    (h : W c (eval value env) m σ (fun v m₁ σ₁ => ∃ t vs, v = .ref t ∧ σ₁ t = some (tupO vs) ∧ (assignEach elts env).length = vs.length ∧ (assignEach elts env).findIdx? (·.1) = none ∧ W c (assignInOrder ((assignEach elts env).map (·.2)) vs) m₁ σ₁ (fun _ m₂ σ₂ => W c (execs rest env) m₂ σ₂ Q X) X) X) :
    W c (execs (.Assign [.Tuple elts k tpos] value pos :: rest) env) m σ Q X := w_execs_cons (w_unpack g hs hw h)
theorem w_asn {t : Value → Sem Unit} {ts : List (Value → Sem Unit)} {x : Value} {xs : List Value} {Q : Unit → Loc → Store → Prop} (h : W c (t x) m σ (fun _ m₁ σ₁ => W c (assignInOrder ts xs) m₁ σ₁ Q X) X) : W c (assignInOrder (t :: ts) (x :: xs)) m σ Q X :=
  fun s F S => assignInOrder_cons (wpAny_mono (h s F S) (fun _ _ A => A.next fun _ _ w => w) fun _ _ e => e)
theorem w_asn_nil {xs : List Value} {Q : Unit → Loc → Store → Prop} (h : Q () m σ) : W c (assignInOrder [] xs) m σ Q X := fun _ F S => assignInOrder_nil (After.here F S h)
theorem w_asn_name {x : Str} {pos : Pos} {v : Value} {Q : Unit → Loc → Store → Prop} (h : W c (storeName env x v) m σ Q X) : W c (assign (.Name x pos) env v) m σ Q X := fun s F S => wpAny_assign_Name (h s F S)
/-! ## more of ints -/
end
end Mine

open PySem PySem.W PySem.Calls PyProof.Rows
namespace Mine
section
variable {n : Nat} {c : Cx} {env : Env} {m : Loc} {σ : Store} {X : Value → Loc → Store → Prop}
/-! ## a range by twos -/
end
end Mine

open PySem PySem.W PySem.Calls PyProof.Rows
namespace Mine
section
variable {n : Nat} {c : Cx} {env : Env} {m : Loc} {σ : Store} {X : Value → Loc → Store → Prop} {Q : Value → Loc → Store → Prop}
/-! ## a list by steps -/
theorem slicePick_mem {items : Array Value} {lo hi st : Option Int} {v : Value} (h : v ∈ (slicePick items lo hi st).toList) : v ∈ items.toList := by
  unfold slicePick at h
  rw [List.toList_toArray, List.mem_filterMap] at h
  obtain ⟨i, _, e⟩ := h
  have := Array.mem_of_getElem? e
  simpa using this
theorem w_step {value st : Expr} {p pos : Pos} (h : W c (eval value env) m σ (fun o m₁ σ₁ => W c (evalPart (some st) env) m₁ σ₁ (fun vs m₂ σ₂ =>
      ∃ l xs j k t, o = .ref l ∧ vs = .int k t ∧ k ≠ 0 ∧ σ₂ l = some (lstO xs j) ∧ xs.length ≤ sizeLine ∧ ∀ a ys, σ₂ a = none → ys.length ≤ xs.length → (∀ v ∈ ys, v ∈ xs) → Q (.ref a) m₂ (upd σ₂ a (lstO ys 0))) X) X)
    (ht : ∀ o r, letTemporaryGo value o r = Pure.pure () := by intro _ _; rfl) : W c (eval (.Subscript value (.Slice none none (some st) p) pos) env) m σ Q X :=
  fun s F S => wpAny_Subscript_Slice_step (T := "list") list_getitem_lookup (wpAny_mono (h s F S) (fun o s₁ A => by
    obtain ⟨h', tk, m', σ', rfl, F', S', x, w⟩ := A
    refine wpAny_Slice ?_
    rw [evalPart_none]
    refine wpAny_pure (wpAny_pure (wpAny_mono (w { s with heap := h', toks := tk } F' S') (fun vl s₂ A => ?_) fun _ _ e => e.on rfl x))
    obtain ⟨h2, tk2, m2, σ2, rfl, F2, S2, x2, l, xs, j, k, t, rfl, rfl, hk, hl, hz, q⟩ := A
    have hl' := isList_of S2 hl
    refine ⟨(hl'.push _).typeIs, wpAny_getItem_list_slice (hl'.push _) (Heap.IsSliceOf.new ..) .none .none (.int k t) (fun q => hk (Option.some.inj q)) ?_ (by simpa using hz)⟩
    have P := pushed2 (s := { s with heap := h2, toks := tk2 }) F2 S2 { cls := .type "slice", data := .fields #[.none, .none, .int k t] } (lstO (slicePick xs.toArray none none (some k)).toList 0) rfl rfl
    have hf : σ2 (h2.objs.size + 1) = none := by
      cases e : σ2 (h2.objs.size + 1) with
      | none => rfl
      | some o => exact absurd (show _ < h2.objs.size from S2.lt e) (by omega)
    have e : (h2.push { cls := .type "slice", data := .fields #[.none, .none, .int k t] }).objs.size = h2.objs.size + 1 := Heap.size_push ..
    show After c σ s _ _
    refine After.on (s₁ := { s with heap := h2, toks := tk2 }) rfl (x.trans x2 S2) ?_
    refine ⟨_, tk2, m2, _, rfl, P.1, P.2.1, P.2.2, ?_⟩
    show Q (.ref (h2.push _).objs.size) _ _
    rw [e]
    exact q _ _ hf (by have := slicePick_size_le xs.toArray none none (some k); simpa using this) fun v hv => by simpa using slicePick_mem hv) fun _ _ e => e) ht
/-! ## list(range(..)) -/
theorem w_list_range {r : Addr} {i k : Int} {t u v : Tok} (g : Gnd n c) (hr : σ r = some (rngO i k t u v)) (hi : -(2 ^ 62) ≤ i) (hi' : i < 2 ^ 62) (hk : -(2 ^ 62) ≤ k) (hk' : k < 2 ^ 62) (hn : (k - i).toNat ≤ 2 ^ 24)
    (h : ∀ (a : Addr) (ys : List Value) (j : Nat), σ a = none → ys.length = (k - i).toNat → (∀ (j : Nat) (v : Value), ys[j]? = some v → ∃ t, v = Value.int (i + (j : Nat)) t) → Q (.ref a) m (upd σ a (lstO ys j))) : W c (call (.type "list") [.ref r]) m σ Q X := fun s F S => by
  have hsz : Builtin.Range.rangeSize i k 1 = (((k - i).toNat : Nat) : Int) := by rw [rangeSize_one]; split <;> omega
  refine call_list_range g.hh (S r _ hr).1 (small_one hi hi' hk hk') hsz hn fun h' tk acc' c' hk hS' hacc => ?_
  have hne : s.heap.get? s.heap.objs.size = none := no_end _
  have F1 : Frm c h' m := F.keeps hk
  have hc0 : c.h₀.get? s.heap.objs.size = none := by
    cases q : c.h₀.get? s.heap.objs.size with
    | none => rfl
    | some y => rw [F.keep _ _ q] at hne; cases hne
  have S2 : Sto c h' (upd σ s.heap.objs.size (lstO acc'.toList c')) := fun a x e => by
    by_cases q : a = s.heap.objs.size
    · subst q; rw [upd_same] at e; cases e; exact ⟨by simpa using hS', F.notNew hne, hc0⟩
    · rw [upd_ne q] at e; exact ⟨hk a x (S a x e).1, (S a x e).2⟩
  refine ⟨h', tk, m, _, rfl, F1, S2, ⟨fun b x e _ _ => hk b x e, fun a x e => ?_⟩, h _ _ _ S.fresh (by simpa using hacc.1) fun j v hv => ?_⟩
  · by_cases q : a = s.heap.objs.size
    · subst q; exact .inr hne
    · rw [upd_ne q] at e; exact .inl (by rw [e]; exact fun z => nomatch z)
  · obtain ⟨t, rfl⟩ := hacc.2 j v (by simpa using hv)
    exact ⟨t, by rw [Int.mul_one]⟩
/-! ## enumerate -/
abbrev enuO (it : Addr) : Obj := { cls := .type "enumerate", data := .fields #[.none, .bool false, .ref it, rawInt 0, .none, .none] }
abbrev litO (l : Addr) : Obj := { cls := .type "list_iterator", data := .fields #[.ref l, .int 0 0] }
theorem w_enumerate {l : Addr} {vs : List Value} {k : Nat} (hl : σ l = some (lstO vs k)) (h : ∀ it e, σ it = none → σ e = none → e ≠ it → Q (.ref e) m (upd (upd σ it (litO l)) e (enuO it))) : W c (call (.type "enumerate") [.ref l]) m σ Q X := fun s F S => by
  refine callType_new PySem.F.called_enumerate (by decide) (PySem.F.typeCall_enumerate_1 _) (PySem.F.newCall_enumerate_1 _) (fun obj => PySem.F.args_object_init_2 obj _) PySem.F.entry_enumerate_new
    (meets_enumerate_new l vs.toArray k) ⟨(S l _ hl).1, ?_⟩
  have hz : (s.heap.push (litO l)).objs.size = s.heap.objs.size + 1 := Heap.size_push ..
  obtain ⟨F1, S1, x1⟩ := pushed F S (litO l) rfl
  obtain ⟨F2, S2, x2⟩ := pushed (s := { s with heap := s.heap.push (litO l) }) F1 S1 (enuO s.heap.objs.size) rfl
  have he : ((s.heap.push (litO l)).push (enuO s.heap.objs.size)).get? (s.heap.push (litO l)).objs.size = some (enuO s.heap.objs.size) := Heap.get?_push_size _ rfl
  show _ ∧ _
  refine ⟨⟨_, he, rfl⟩, ⟨_, s.toks, m, _, rfl, F2, S2, x1.trans x2 S2, h _ _ S.fresh ?_ ?_⟩⟩
  · cases e : σ (s.heap.push (litO l)).objs.size with
    | none => rfl
    | some o => exact absurd (show _ < s.heap.objs.size from S.lt e) (by rw [hz]; omega)
  · show (s.heap.push (litO l)).objs.size ≠ s.heap.objs.size
    rw [hz]; omega
/-- the walk over what v yields, any target -/
def TurnsG (c : Cx) (tg : Expr) (body : List Stmt) (v : Value) (m : Loc) (σ : Store) (Q : Flow → Loc → Store → Prop) : Prop :=
  ∀ s, Frm c s.heap m → Sto c s.heap σ →
    wpAny (model c.g.prog c.g.w) c.A (pyIter v) (fun it s₂ => codeAny (model c.g.prog c.g.w) c.A (.forLoop tg it body [] c.env)
      (fun r s' => match r with | .ok f => After c σ s s' (Q f) | .error _ => False) s₂) (fun _ _ => False) s
theorem w_forG {tg : Expr} {pos : Pos} {iter : Expr} {body : List Stmt} {Q : Flow → Loc → Store → Prop}
    (h : W c (eval iter c.env) m σ (fun v m₁ σ₁ => TurnsG c tg body v m₁ σ₁ Q) X)
    (hs : ∀ x, foldedSetIterable iter c.env x = Pure.pure x := by intro _; rfl) : W c (exec (.For tg iter body [] pos) c.env) m σ Q X :=
  fun s F S => wpAny_For (wpAny_mono (h s F S) (fun v s₁ A => by
    obtain ⟨h', tk, m', σ', rfl, F', S', fx, T⟩ := A
    refine wpAny_mono (T { s with heap := h', toks := tk } F' S') (fun it s₂ C => codeAny_mono C fun r s' z => ?_) fun _ _ x => x.elim
    cases r with
    | error e => exact z.elim
    | ok f => exact z.on rfl fx) fun _ _ x => x) hs
structure MidE (c : Cx) (σ₀ : Store) (s₀ : Shared) (e it l : Addr) (J : Nat → Loc → Store → Prop) (i : Nat) (m : Loc) (σ : Store) (h : Heap) : Prop where
  F : Frm c h m
  S : Sto c h σ
  fra : Fra c σ₀ s₀.heap h σ
  J : J i m σ
  en : ∃ old, IsEnum h e it i old
  li : h.IsListIter it l i
  ne : σ e = none
  ni : σ it = none
theorem turns_enum {xi xv : Str} {pi pv pt : Pos} {x1} {body : List Stmt} {l e it : Addr} {vs : List Value} {k : Nat} {σ₁ : Store} {Q : Flow → Loc → Store → Prop} (g : Gnd n c) (hxi : c.env.kindOf xi = some .local) (hxic : c.env.cells.lookup xi = none) (hxv : c.env.kindOf xv = some .local) (hxvc : c.env.cells.lookup xv = none) (J : Nat → Loc → Store → Prop)
    (he : σ₁ e = some (enuO it)) (hi : σ₁ it = some (litO l)) (sub : Sub σ σ₁) (ne : σ e = none) (ni : σ it = none) (hei : e ≠ it)
    (hl : ∀ i m σ, J i m σ → σ l = some (lstO vs k)) (h0 : J 0 m σ)
    (turn : ∀ j v t m' σ', vs[j]? = some v → J j m' σ' → W c (execs body c.env) (setM (setM m' xi (.int (j : Nat) t)) xv v) σ' (fun f m'' σ'' => match f with
      | .next => J (j + 1) m'' σ'' | .cont => J (j + 1) m'' σ'' | .brk => Q .next m'' σ'' | .ret r => Q (.ret r) m'' σ'') NoX)
    (done : ∀ m' σ', J vs.length m' σ' → Q .next m' σ') : TurnsG c (.Tuple [.Name xi pi, .Name xv pv] x1 pt) body (.ref e) m σ₁ Q := by
  intro s F S
  have hse : IsEnum s.heap e it 0 .none := (S e _ he).1
  have hsi := (S it _ hi).1
  have eL := (S e _ he).2
  have iL := (S it _ hi).2
  have hfn : (c.env.scope.kind == .class || (c.env.scope.kind == .module && c.env.locals != c.env.globals)) = false := by rw [g.knd]; rfl
  refine wpAny_pyIter_enum hse ?_
  refine codeAny_forLoop_any (fun k' s' => ∃ i m' σ' h tk, k' = vs.length - i ∧ i ≤ vs.length ∧ s' = { s with heap := h, toks := tk } ∧ MidE c σ₁ s e it l J i m' σ' h) ?_ vs.length ?_
  · rintro k' s' ⟨i, m', σ', h, tk, rfl, hi', rfl, M⟩
    have hls := isList_of M.S (hl _ _ _ M.J)
    obtain ⟨old, hen⟩ := M.en
    -- what holds behind a step that writes e, it alone
    have next : ∀ h', (∀ b o, b ≠ e → b ≠ it → h.get? b = some o → h'.get? b = some o) → Frm c h' m' ∧ Sto c h' σ' ∧ Fra c σ₁ s.heap h' σ' := by
      intro h' hk
      have nσ : ∀ a o, σ' a = some o → a ≠ e ∧ a ≠ it := fun a o q => ⟨fun z => (by rw [z, M.ne] at q; cases q), fun z => (by rw [z, M.ni] at q; cases q)⟩
      have n0 : ∀ b o, c.h₀.get? b = some o → b ≠ e ∧ b ≠ it := fun b o q => ⟨fun z => (by rw [z, eL.2] at q; cases q), fun z => (by rw [z, iL.2] at q; cases q)⟩
      refine ⟨M.F.on ⟨?_, fun b o q => hk b o (n0 b o q).1 (n0 b o q).2 (M.F.keep b o q), M.F.F.above⟩ fun x b hb o q => hk b o (fun z => eL.1 (z ▸ .inr ⟨x, hb⟩)) (fun z => iL.1 (z ▸ .inr ⟨x, hb⟩)) q, fun a o q => ⟨hk a o (nσ a o q).1 (nσ a o q).2 (M.S a o q).1, (M.S a o q).2⟩, fun b o q z l => hk b o (fun w => by rw [w, he] at z; cases z) (fun w => by rw [w, hi] at z; cases z) (M.fra.kept b o q z l), M.fra.grow⟩
      obtain ⟨oL, es, ep, hL, r⟩ := M.F.F.ns
      exact ⟨oL, es, ep, hk _ _ (fun z => eL.1 (.inl z.symm)) (fun z => iL.1 (.inl z.symm)) hL, r⟩
    rcases Nat.lt_or_ge i vs.length with hlt | hge
    · have hv : vs.toArray[i]? = some vs[i] := by simp [hlt]
      refine wpAny_pyNext_enum_item hen M.li hls hv hei fun h₁ heo hit₁ ht₁ hz₁ hk₁ => ?_
      dsimp only
      refine wpAny_letOwnedTupleGo_enum heo fun h₂ he₂ hs₂ => ?_
      replace hs₂ : Heap.SameBut e h₁ h₂ := hs₂
      have heH : e < h.objs.size := Heap.lt_size hen
      have ht₂ : h₂.IsTuple h.objs.size #[.int i tk, vs[i]] := ⟨_, (hs₂.2 _ (Nat.ne_of_gt heH)).trans ht₁, rfl, _, rfl⟩
      refine wpAny_assign_Tuple g.hh ht₂ rfl rfl fun h₃ hx₃ => ?_
      replace hx₃ : Heap.ExtBut h₂.objs.size h₂ h₃ := hx₃
      have up₃ : ∀ b o, h₂.get? b = some o → h₃.get? b = some o := fun b o q => hx₃ b o (Nat.ne_of_lt (Heap.lt_size q)) q
      obtain ⟨F3, S3, x3⟩ := next h₃ fun b o n1 n2 q => up₃ b o ((hs₂.2 b n1).trans (hk₁ b o n1 n2 q))
      have en3 : IsEnum h₃ e it ((i : Int) + 1) vs[i] := up₃ _ _ he₂
      have li3 : h₃.IsListIter it l (i + 1) := by
        obtain ⟨o, ho, r⟩ := hit₁
        exact ⟨o, up₃ _ _ ((hs₂.2 it (Ne.symm hei)).trans ho), r⟩
      have sto : W c (assignInOrder ((assignEach [.Name xi pi, .Name xv pv] c.env).map (·.2)) [.int (i : Nat) tk, vs[i]]) m' σ' (fun _ m₂ σ₂ => m₂ = setM (setM m' xi (.int (i : Nat) tk)) xv vs[i] ∧ σ₂ = σ') NoX :=
        w_asn (w_asn_name (w_store g.knd hxi hxic (w_asn (w_asn_name (w_store g.knd hxv hxvc (w_asn_nil ⟨rfl, rfl⟩))))))
      refine wpAny_mono (sto { s with heap := h₃, toks := tk + 1 } F3 S3) (fun _ s4 A4 => ?_) fun _ _ A4 => A4.no.elim
      obtain ⟨h4, tk4, m4, σ4, rfl, F4, S4, x4, rfl, rfl⟩ := A4
      have x04 := x3.trans x4 S4
      have key := turn i vs[i] tk m' σ4 (List.getElem?_eq_getElem hlt) M.J { s with heap := h4, toks := tk4 } F4 S4
      have en4 : IsEnum h4 e it ((i : Int) + 1) vs[i] := x4.kept _ _ en3 M.ne eL.1
      have li4 : h4.IsListIter it l (i + 1) := by
        obtain ⟨o, ho, r⟩ := li3
        exact ⟨o, x4.kept _ _ ho M.ni iL.1, r⟩
      refine wpAny_mono key (fun f s5 A5 => ?_) fun _ _ A5 => A5.no.elim
      obtain ⟨h5, tk5, m5, σ5, rfl, F5, S5, x5, q5⟩ := A5
      have fx5 := x04.trans x5 S5
      have ends : ∀ {f}, Q f m5 σ5 → After c σ₁ s { s with heap := h5, toks := tk5 } (Q f) := fun q => ⟨h5, tk5, m5, σ5, rfl, F5, S5, fx5, q⟩
      have on : J (i + 1) m5 σ5 → ∃ k'', k'' < vs.length - i ∧ ∃ i' m' σ' h tk, k'' = vs.length - i' ∧ i' ≤ vs.length ∧ ({ s with heap := h5, toks := tk5 } : Shared) = { s with heap := h, toks := tk } ∧ MidE c σ₁ s e it l J i' m' σ' h := by
        intro q
        refine ⟨vs.length - (i + 1), by omega, i + 1, m5, σ5, h5, tk5, rfl, by omega, rfl, F5, S5, fx5, q, ⟨vs[i], ?_⟩, ?_, ?_, ?_⟩
        · have := x5.kept _ _ en4 M.ne eL.1
          rw [show ((i + 1 : Nat) : Int) = (i : Int) + 1 by omega]
          exact this
        · obtain ⟨o, ho, r⟩ := li4
          exact ⟨o, x5.kept _ _ ho M.ni iL.1, r⟩
        · cases z : σ5 e with
          | none => rfl
          | some o =>
            rcases x5.grow e o z with r | r
            · exact absurd M.ne r
            · rw [show h4.get? e = _ from en4] at r; cases r
        · cases z : σ5 it with
          | none => rfl
          | some o =>
            rcases x5.grow it o z with r | r
            · exact absurd M.ni r
            · obtain ⟨o', ho', _⟩ := li4
              rw [show h4.get? it = _ from ho'] at r; cases r
      cases f with
      | next => exact on q5
      | cont => exact on q5
      | brk => exact ends q5
      | ret r => exact ends q5
    · have : i = vs.length := by omega
      subst this
      have hv : vs.toArray[vs.length]? = none := by simp
      refine wpAny_pyNext_enum_end g.hh hen M.li hls hv fun h₁ he₁ => wpAny_execs_nil ?_
      obtain ⟨F', S', fx⟩ := next h₁ fun b o _ n2 q => he₁ b o n2 q
      exact ⟨h₁, tk, m', σ', rfl, F', S', fx, done m' σ' M.J⟩
  · exact ⟨0, m, σ, s.heap, s.toks, rfl, Nat.zero_le _, rfl, F, S.sub sub, ⟨fun b o q _ _ => q, fun a o q => .inl (by rw [sub a o q]; exact fun z => nomatch z)⟩, h0, ⟨_, hse⟩, ⟨_, hsi, rfl, rfl⟩, ne, ni⟩
end
end Mine

open PySem PySem.W PySem.Calls PyProof.Rows
namespace Mine
/-! ## a callee of the law's own frame that catches, and goes on -/
abbrev lawX (g : Pg) (A : Around) (env : Env) : Cx := ⟨g, A, env, g.h⟩
abbrev inX (g : Pg) (A : Around) (env' : Env) (h₀ : Heap) : Cx := ⟨g, A.deeper env', env', h₀⟩
/-- what stays the same in the callee -/
structure CtT (n : Nat) (g : Pg) (A : Around) (env env' : Env) : Prop where
  G : Gnd (n + 1) (lawX g A env)
  hA : A.frames = some [env]
  cl : env'.cells = []
  fr : env'.frame = some env'.locals
  knd : env'.scope.kind = .function
  glob : env'.globals = mainGlobals
  bi : env'.builtins = builtinsNs
/-- a state in the callee, told from the law's frame at its call -/
structure StT (g : Pg) (A : Around) (env env' : Env) (m₀ : Loc) (σ₀ : Store) (s₀ : Shared) (m : Loc) (σ : Store) (s : Shared) : Prop where
  here : ∃ h₀, Below A g.h [env] h₀ ∧ Frm (inX g A env' h₀) s.heap m ∧ Sto (inX g A env' h₀) s.heap σ
  eq : s = { s₀ with heap := s.heap, toks := s.toks }
  F0 : Frm (lawX g A env) s.heap m₀
  off : ∀ a o, σ a = some o → ¬ FA (lawX g A env) a
  fra : Fra (lawX g A env) σ₀ s₀.heap s.heap σ
  new : s₀.heap.get? env'.locals = none
def WT (g : Pg) (A : Around) (env env' : Env) (m₀ : Loc) (σ₀ : Store) (s₀ : Shared) {α : Type} (t : Sem α) (m : Loc) (σ : Store) (Q : α → Loc → Store → Prop) : Prop :=
  ∀ s, StT g A env env' m₀ σ₀ s₀ m σ s → wpAny (model g.prog g.w) (A.deeper env') t (fun r s' => ∃ m' σ', StT g A env env' m₀ σ₀ s₀ m' σ' s' ∧ Q r m' σ') (fun _ _ => False) s
section
variable {n : Nat} {g : Pg} {A : Around} {env env' : Env} {m₀ m : Loc} {σ₀ σ : Store} {s₀ s : Shared} {α : Type}
theorem CtT.gnd (T : CtT n g A env env') {h₀ : Heap} (B : Below A g.h [env] h₀) : Gnd n (inX g A env' h₀) := by
  have G := T.G
  refine ⟨⟨A, [env], B, ?_⟩, T.fr, T.knd, T.glob, T.bi, G.XB.keeps B.stays, G.TB.keeps B.stays, G.hh, ?_, ?_, G.baseB.at fun o e => B.stays _ o e, G.XB, G.TB, G.baseB⟩
  · show (A.frames.map _) = _; rw [T.hA]; rfl
  · have := G.dep
    show A.depth + 1 + 2 * n < recursionLimit
    dsimp only at this; omega
  · have := G.un
    show A.units + 3 + 20 * n + 20 < cLine
    dsimp only at this; omega
theorem StT.offL (K : StT g A env env' m₀ σ₀ s₀ m σ s) {a : Addr} {o : Obj} (h : s₀.heap.get? a = some o) : a ≠ env'.locals := fun q => by rw [q, K.new] at h; cases h
/-- what of s₀ is untold stands -/
theorem StT.none_of (K : StT g A env env' m₀ σ₀ s₀ m σ s) {a : Addr} {o : Obj} (h : s₀.heap.get? a = some o) (h0 : σ₀ a = none) : σ a = none := by
  cases q : σ a with
  | none => rfl
  | some o' =>
    rcases K.fra.grow a o' q with z | z
    · exact absurd h0 z
    · rw [h] at z; cases z
/-- the frame's tables: the law's cells and table are not the callee's -/
theorem StT.fa (K : StT g A env env' m₀ σ₀ s₀ m σ s) (cl : env'.cells = []) (h : ∃ o, s₀.heap.get? env.locals = some o) (hc : ∀ x a, env.cells.lookup x = some a → ∃ o, s₀.heap.get? a = some o) {a : Addr} (ha : FA (lawX g A env) a) {h₀ : Heap} : ¬ FA (inX g A env' h₀) a := fun q => by
  rcases q with q | ⟨x, hx⟩
  · have q : a = env'.locals := q
    subst q
    rcases ha with z | ⟨x, hx⟩
    · have z : env'.locals = env.locals := z
      obtain ⟨o, ho⟩ := h
      rw [← z, K.new] at ho; cases ho
    · obtain ⟨o, ho⟩ := hc x _ hx
      rw [K.new] at ho; cases ho
  · have hx : env'.cells.lookup x = some a := hx
    rw [cl] at hx; cases hx
end
/-- the law's frame at its call -/
structure At0 (g : Pg) (A : Around) (env : Env) (s₀ : Shared) : Prop where
  t : ∃ o, s₀.heap.get? env.locals = some o
  c : ∀ x a, env.cells.lookup x = some a → ∃ o, s₀.heap.get? a = some o
section
variable {n : Nat} {g : Pg} {A : Around} {env env' : Env} {m₀ m : Loc} {σ₀ σ : Store} {s₀ s : Shared} {α : Type}
theorem StT.step (T : CtT n g A env env') (K0 : At0 g A env s₀) (K : StT g A env env' m₀ σ₀ s₀ m σ s) {h₀ : Heap} (B : Below A g.h [env] h₀) (S : Sto (inX g A env' h₀) s.heap σ) (F : Frm (inX g A env' h₀) s.heap m) {s' : Shared} {P : Loc → Store → Prop} (a : After (inX g A env' h₀) σ s s' P) :
    ∃ m' σ', StT g A env env' m₀ σ₀ s₀ m' σ' s' ∧ P m' σ' := by
  obtain ⟨h', tk, m', σ', rfl, F', S', x, p⟩ := a
  have ne : ∀ a o, s₀.heap.get? a = some o → σ₀ a = none → ¬ FA (lawX g A env) a → h'.get? a = some o := fun a o e z l => by
    refine x.kept a o (K.fra.kept a o e z l) (K.none_of e z) fun q => ?_
    rcases q with q | ⟨y, hy⟩
    · exact K.offL e q
    · have hy : env'.cells.lookup y = some a := hy
      rw [T.cl] at hy; cases hy
  have fan : ∀ a, FA (lawX g A env) a → σ a = none := fun a q => by
    cases z : σ a with
    | none => rfl
    | some o => exact absurd q (K.off a o z)
  -- the law's table
  obtain ⟨hbn, oT, hT, _⟩ := B.frames.mem (b := env.locals) (List.mem_filterMap.mpr ⟨env, .head _, T.G.fr⟩)
  have hL1 : s.heap.get? env.locals = some oT := F.keep _ _ hT
  have hL2 : h'.get? env.locals = some oT := F'.keep _ _ hT
  have F0' : Frm (lawX g A env) h' m₀ := by
    refine K.F0.on ⟨?_, fun b o e => F'.keep b o (B.stays b o e), K.F0.F.above⟩ fun y a hy o e => ?_
    · obtain ⟨oL, es, ep, hL, r⟩ := K.F0.F.ns
      have z := (show s.heap.get? env.locals = some oL from hL).symm.trans hL1
      cases z
      exact ⟨_, es, ep, hL2, r⟩
    · exact x.kept a o e (fan a (.inr ⟨y, hy⟩)) (K.fa T.cl K0.t K0.c (.inr ⟨y, hy⟩))
  have off' : ∀ a o, σ' a = some o → ¬ FA (lawX g A env) a := fun a o e q => by
    rcases x.grow a o e with z | z
    · exact z (fan a q)
    · obtain ⟨o', ho'⟩ := K.F0.has q
      rw [ho'] at z; cases z
  refine ⟨m', σ', ⟨⟨h₀, B, F', S'⟩, ?_, F0', off', ⟨ne, fun a o e => ?_⟩, K.new⟩, p⟩
  · have := K.eq
    show ({ s with heap := h', toks := tk } : Shared) = { s₀ with heap := h', toks := tk }
    rw [this]
  · cases z0 : σ₀ a with
    | some _ => exact .inl fun q => nomatch q
    | none =>
      right
      cases k : s₀.heap.get? a with
      | none => rfl
      | some o' =>
        exfalso
        rcases x.grow a o e with z | z
        · exact z (K.none_of k z0)
        · rw [K.fra.kept a o' k z0 (off' a o e)] at z; cases z
theorem WT.of (T : CtT n g A env env') (K0 : At0 g A env s₀) {t : Sem α} {Q : α → Loc → Store → Prop} (h : ∀ h₀, Gnd n (inX g A env' h₀) → W (inX g A env' h₀) t m σ Q NoX) : WT g A env env' m₀ σ₀ s₀ t m σ Q := fun s K => by
  obtain ⟨h₀, B, F, S⟩ := K.here
  exact wpAny_mono (h h₀ (T.gnd B) s F S) (fun r s' a => K.step T K0 B S F a) fun _ _ a => a.no
theorem WT.cons {st : Stmt} {rest : List Stmt} {Q : Flow → Loc → Store → Prop} (h : WT g A env env' m₀ σ₀ s₀ (exec st env') m σ (fun f m' σ' => match f with | .next => WT g A env env' m₀ σ₀ s₀ (execs rest env') m' σ' Q | f => Q f m' σ')) : WT g A env env' m₀ σ₀ s₀ (execs (st :: rest) env') m σ Q := fun s K =>
  wpAny_execs_cons (wpAny_mono (h s K) (fun f s' a => by
    obtain ⟨m', σ', K', q⟩ := a
    cases f with
    | next => exact q s' K'
    | cont => exact ⟨m', σ', K', q⟩
    | brk => exact ⟨m', σ', K', q⟩
    | ret r => exact ⟨m', σ', K', q⟩) fun _ _ a => a)
theorem WT.nil {Q : Flow → Loc → Store → Prop} (h : Q .next m σ) : WT g A env env' m₀ σ₀ s₀ (execs [] env') m σ Q := fun _ K => wpAny_execs_nil ⟨m, σ, K, h⟩
/-- a try whose body throws, caught by a suite that writes nothing -/
theorem WT.try (T : CtT n g A env env') (K0 : At0 g A env s₀) {C D : Addr} {body suite : List Stmt} {b₀ : Stmt} {y : Str} {np hp tp : Pos} {fl : Flow} {Q : Flow → Loc → Store → Prop}
    (hbody : ∀ h₀, Gnd n (inX g A env' h₀) → W (inX g A env' h₀) (execs body env') m σ (fun _ _ _ => False) (fun v m' σ' => v = .int (C : Nat) 0 ∧ m' = m ∧ Sub σ σ'))
    (hy : nsIn g.K mainGlobals y = some (some (.ref D))) (hyk : env'.scope.names.lookup y = some .globalImplicit) (hyd : (y == ("__debug__" : Str)) = false) (hmt : exmOne g.K (.ref C) (.ref D) = some true)
    (hsuite : ∀ (A' : Around) (Q' : Flow → Shared → Prop) (E' : Value → Shared → Prop) (s' : Shared), Q' fl s' → wpAny (model g.prog g.w) A' (execs (b₀ :: suite) env') Q' E' s')
    (h : ∀ σ', Sub σ σ' → Q fl m σ') : WT g A env env' m₀ σ₀ s₀ (exec (.Try body [.ExceptHandler (some (.Name y np)) none (b₀ :: suite) hp] [] [] tp) env') m σ Q := fun s K => by
  obtain ⟨h₀, B, F, S⟩ := K.here
  have G' := T.gnd B
  have hfr' : (A.deeper env').frames = some (env' :: env :: []) := by show (A.frames.map _) = _; rw [T.hA]; rfl
  have hloc0 : ∀ m : Loc, loc (inX g A env' h₀) m = m := fun m => by
    funext x
    show (if (env'.cells.lookup x).isSome = true then none else m x) = m x
    rw [T.cl]; rfl
  have hfrL : env.frame = some env.locals := T.G.fr
  have fan : ∀ a, FA (lawX g A env) a → σ a = none := fun a q => by
    cases z : σ a with
    | none => rfl
    | some o => exact absurd q (K.off a o z)
  refine wpAny_Try_except (wpAny_mono (hbody h₀ G' s F S) (fun fl s' Aft => ?_) fun e s' Aft => ?_)
  · obtain ⟨_, _, _, _, _, _, _, _, q⟩ := Aft; exact q.elim
  rcases Aft with ⟨⟨_, _, _, _, _, _, _, _, q, _⟩, e', rfl⟩ | ⟨h', tk, m', σ', e, C', rfl, rfl, ⟨⟨Bh, a0, outer', f1, f2, f3, f4, f5, f6⟩, ns, off, grow⟩, qC, rfl, sb⟩
  · cases q
  have hCC : C' = C := by
    injection qC with q1 q2
    exact Int.ofNat.inj q1
  subst hCC
  rw [show (inX g A env' h₀).A.frames = some (env' :: env :: []) from hfr'] at f1
  injection f1 with f1
  injection f1 with _ f1
  subst f1
  obtain ⟨hbn, oT, hT, hTf⟩ := B.frames.mem (b := env.locals) (List.mem_filterMap.mpr ⟨env, .head _, hfrL⟩)
  have hL1 : s.heap.get? env.locals = some oT := F.keep _ _ hT
  have lawNo : ¬ FA (inX g A env' h₀) env.locals := K.fa T.cl K0.t K0.c (.inl rfl)
  have hσL : σ env.locals = none := fan _ (.inl rfl)
  have hBe : Bh.get? e = none := f2.2.1
  have hBL : Bh.get? env.locals = none := (f2.2.2.1.mem (List.mem_filterMap.mpr ⟨env, .tail _ (.head _), hfrL⟩)).1
  have tab : ∀ a, a ≠ env.locals → a ∉ [env].filterMap (·.frame) := fun a ha hm => by
    obtain ⟨ev, he, hev⟩ := List.mem_filterMap.mp hm
    rcases List.mem_cons.mp he with rfl | he
    · rw [hfrL] at hev; exact ha (Option.some.inj hev).symm
    · cases he
  obtain ⟨slL, hLh'⟩ := f6 env.locals oT hL1 hσL lawNo
  refine wpAny_looks_onW hfr' T.fr f2 fun h₄ held₄ sm₄ => ?_
  refine wpAny_landsW held₄ fun h₅ fl₅ sm₅ => ?_
  have gB : ∀ b o, g.h.get? b = some o → h₅.get? b = some o := fun b o e => fl₅.1 b o (f3 b o e)
  have X5 : g.K.In h₅ := T.G.XB.keeps gB
  obtain ⟨ob, hob, hobc⟩ := fl₅.there
  have LT : Looks (model g.prog g.w) h₅ (typeOf (.ref e)) (.ref C') := by rw [← hobc]; exact (Looks.ld hob).andThen .now
  refine wpAny_handleBy_cons (codeAny_handlers_test (Name_function_global (show env'.scope.kind = .function from T.knd) (kind_is (c := inX g A env' h₀) rfl hyk) (loadGlobal_global (mg := g.mg) (by rw [T.glob]; exact T.G.TB.g.keeps gB) (mg_of T.G.XB T.G.TB.g hy) ?_) hyd)) (by intro q; cases q)
  refine (exm_one X5 LT hmt).here ?_
  show codeAny _ _ _ _ _
  refine codeAny_handlers_suite ?_
  refine lands_againW fl₅ fun h₆ fl₆ sm₆ => ?_
  refine hsuite _ _ _ _ ?_
  dsimp only
  have up : ∀ {a o}, h'.get? a = some o → (∀ vs, o.data ≠ .fields vs) → ∃ sl, h₆.get? a = some { o with slots := sl } := fun ha hnf => by
    obtain ⟨s1, q1⟩ := sm₄ _ _ ha hnf
    obtain ⟨s2, q2⟩ := sm₅ _ _ q1 hnf
    obtain ⟨s3, q3⟩ := sm₆ _ _ q2 hnf
    exact ⟨s3, q3⟩
  have ns6 : h₆.Ns env'.locals (loc (inX g A env' h₀) m') := Heap.UpToSlots.ns sm₆ (Heap.UpToSlots.ns sm₅ (Heap.UpToSlots.ns sm₄ ns))
  obtain ⟨sl6, hL6⟩ := up hLh' (show ∀ vs, oT.data ≠ .fields vs from hTf)
  have hL6' : h₆.get? env.locals = some { oT with slots := sl6 } := hL6
  clear hL6
  -- the new ground
  let k₀ : Heap := h₀.update env.locals fun o => { o with slots := sl6 }
  have sbk : Heap.SameBut env.locals h₀ k₀ := Heap.SameBut.update ..
  have hkL : k₀.get? env.locals = some { oT with slots := sl6 } := Heap.get?_update_self _ hT (by
    have := (Heap.get?_some_iff.mp hT).2
    obtain ⟨_, _, dd, _⟩ := oT
    cases dd <;> exact this)
  have Bk : Below A g.h [env] k₀ := by
    refine ⟨B.stack, fun b o q => ?_, B.frames.of_keeps fun b o q _ => ?_⟩
    · have hb : b ≠ env.locals := fun z => by rw [z, hbn] at q; cases q
      exact (sbk.2 b hb).trans (B.stays b o q)
    · by_cases hb : b = env.locals
      · subst hb; rw [hT] at q; cases q; exact ⟨_, hkL, rfl⟩
      · exact ⟨o, (sbk.2 b hb).trans q, rfl⟩
  have old : ∀ a o, s.heap.get? a = some o → σ a = none → ¬ FA (inX g A env' h₀) a → a ≠ env.locals → h₆.get? a = some o := fun a o ha hn hf hl => fl₆.1 a o (f5 a o ha hn hf (tab a hl))
  have h0lt : ∀ b o, h₀.get? b = some o → ¬ FA (inX g A env' h₀) b := fun b o q z => by
    rcases z with z | ⟨x, hx⟩
    · have z : b = env'.locals := z
      exact absurd (Nat.lt_of_lt_of_le (Heap.lt_size q) F.F.above) (by rw [z]; exact Nat.lt_irrefl _)
    · have hx : env'.cells.lookup x = some b := hx
      rw [T.cl] at hx; cases hx
  have h0σ : ∀ b o, h₀.get? b = some o → σ b = none := fun b o q => by
    cases z : σ b with
    | none => rfl
    | some o' => rw [(S b o' z).2.2] at q; cases q
  have Fk : Frm (inX g A env' k₀) h₆ m' := by
    refine ⟨⟨ns6, fun b o q => ?_, ?_⟩, fun x a hx => ?_, fun x a hx => ?_, fun x y a hx => ?_⟩
    · by_cases hb : b = env.locals
      · subst hb
        have q : k₀.get? env.locals = some o := q
        rw [hkL] at q; cases q; exact hL6'
      · have q : h₀.get? b = some o := (sbk.2 b hb).symm.trans q
        exact old b o (F.keep b o q) (h0σ b o q) (h0lt b o q) hb
    · show k₀.objs.size ≤ env'.locals
      rw [sbk.1]; exact F.F.above
    · have hx : env'.cells.lookup x = some a := hx
      rw [T.cl] at hx; cases hx
    · have hx : env'.cells.lookup x = some a := hx
      rw [T.cl] at hx; cases hx
    · have hx : env'.cells.lookup x = some a := hx
      rw [T.cl] at hx; cases hx
  have off0 : ∀ a o, σ' a = some o → ¬ FA (lawX g A env) a := fun a o ha q => by
    rcases grow a o ha with z | z
    · exact z (fan a q)
    · obtain ⟨o', ho'⟩ := K.F0.has q
      rw [ho'] at z; cases z
  have Sk : Sto (inX g A env' k₀) h₆ σ' := fun a o ha => by
    refine ⟨fl₆.1 a o (f4 a o ha), off a o ha, ?_⟩
    have hl : a ≠ env.locals := fun q => off0 a o ha (.inl q)
    show k₀.get? a = none
    rw [sbk.2 a hl]
    rcases grow a o ha with z | z
    · cases q : σ a with
      | none => exact absurd q z
      | some o' => exact (S a o' q).2.2
    · cases q : h₀.get? a with
      | none => rfl
      | some o' => rw [F.keep a o' q] at z; cases z
  refine ⟨m', σ', ⟨⟨k₀, Bk, Fk, Sk⟩, ?_, ?_, off0, ⟨fun a o ha hn hf => ?_, fun a o ha => ?_⟩, K.new⟩, h σ' sb⟩
  · have := K.eq
    show ({ s with heap := h₆, toks := _ } : Shared) = { s₀ with heap := h₆, toks := _ }
    rw [this]
  · refine K.F0.on ⟨?_, fun b o q => fl₆.1 b o (f3 b o q), K.F0.F.above⟩ fun x a hx o ho => ?_
    · obtain ⟨oL, es, ep, hL, r1, r2, r3⟩ := K.F0.F.ns
      have z := (show s.heap.get? env.locals = some oL from hL).symm.trans hL1
      cases z
      exact ⟨_, es, ep, hL6', r1, r2, r3⟩
    · exact old a o ho (fan a (.inr ⟨x, hx⟩)) (K.fa T.cl K0.t K0.c (.inr ⟨x, hx⟩)) (K.F0.off x a hx).1
  · refine old a o (K.fra.kept a o ha hn hf) (K.none_of ha hn) (fun q => ?_) fun q => hf (.inl q)
    rcases q with q | ⟨y, hy⟩
    · exact K.offL ha q
    · have hy : env'.cells.lookup y = some a := hy
      rw [T.cl] at hy; cases hy
  · cases z0 : σ₀ a with
    | some _ => exact .inl fun q => nomatch q
    | none =>
      right
      cases k : s₀.heap.get? a with
      | none => rfl
      | some o' =>
        exfalso
        rcases grow a o ha with z | z
        · exact z (K.none_of k z0)
        · rw [K.fra.kept a o' k z0 (off0 a o ha)] at z; cases z
theorem WT.of' {scope : Scope} (T : CtT n g A env env') (K0 : At0 g A env s₀) (hsc : env'.scope = scope) (hin : interactive env' = false) {t : Env → Sem α} {Q : α → Loc → Store → Prop} (h : ∀ c : Cx, c.g = g → Gnd n c → c.env.scope = scope → c.env.cells = [] → interactive c.env = false → W c (t c.env) m σ Q NoX) : WT g A env env' m₀ σ₀ s₀ (t env') m σ Q :=
  WT.of T K0 fun h₀ G => h (inX g A env' h₀) rfl G hsc T.cl hin
theorem WT.try' {scope : Scope} (T : CtT n g A env env') (K0 : At0 g A env s₀) (hsc : env'.scope = scope) (hin : interactive env' = false) {C D : Addr} {body suite : List Stmt} {b₀ : Stmt} {y : Str} {np hp tp : Pos} {fl : Flow} {Q : Flow → Loc → Store → Prop}
    (hbody : ∀ c : Cx, c.g = g → Gnd n c → c.env.scope = scope → c.env.cells = [] → interactive c.env = false → W c (execs body c.env) m σ (fun _ _ _ => False) (fun v m' σ' => v = .int (C : Nat) 0 ∧ m' = m ∧ Sub σ σ'))
    (hy : nsIn g.K mainGlobals y = some (some (.ref D))) (hyk : scope.names.lookup y = some .globalImplicit) (hyd : (y == ("__debug__" : Str)) = false) (hmt : exmOne g.K (.ref C) (.ref D) = some true)
    (hsuite : ∀ (A' : Around) (Q' : Flow → Shared → Prop) (E' : Value → Shared → Prop) (s' : Shared), Q' fl s' → wpAny (model g.prog g.w) A' (execs (b₀ :: suite) env') Q' E' s')
    (h : ∀ σ', Sub σ σ' → Q fl m σ') : WT g A env env' m₀ σ₀ s₀ (exec (.Try body [.ExceptHandler (some (.Name y np)) none (b₀ :: suite) hp] [] [] tp) env') m σ Q :=
  WT.try T K0 (fun h₀ G => hbody (inX g A env' h₀) rfl G hsc T.cl hin) hy (hsc ▸ hyk) hyd hmt hsuite h
/-- a for over a list that is told -/
theorem WT.for (T : CtT n g A env env') (K0 : At0 g A env s₀) {x : Str} {tp pos : Pos} {iter : Expr} {body : List Stmt} {Q : Flow → Loc → Store → Prop} (hx : env'.kindOf x = some .local) (Km : Loc → Prop)
    (hs : ∀ x, foldedSetIterable iter env' x = Pure.pure x)
    (h : WT g A env env' m₀ σ₀ s₀ (eval iter env') m σ (fun v m₁ σ₁ => ∃ l vs k, v = .ref l ∧ σ₁ l = some (lstO vs k) ∧ Km m₁ ∧
      (∀ (i : Nat) (v : Value) (m' : Loc) (σ' : Store), vs[i]? = some v → Km m' → Sub σ₁ σ' → WT g A env env' m₀ σ₀ s₀ (execs body env') (setM m' x v) σ' (fun f m'' σ'' => f = .next ∧ Km m'' ∧ Sub σ' σ'')) ∧
      (∀ m' σ', Km m' → Sub σ₁ σ' → Q .next m' σ'))) : WT g A env env' m₀ σ₀ s₀ (exec (.For (.Name x tp) iter body [] pos) env') m σ Q := fun s K => by
  refine wpAny_For (wpAny_mono (h s K) (fun v s₁ A1 => ?_) fun _ _ a => a.elim) hs
  obtain ⟨m₁, σ₁, K1, l, vs, k, rfl, hl, km, turn, done⟩ := A1
  obtain ⟨h₁, B₁, F₁, S₁⟩ := K1.here
  have hls := isList_of S₁ hl
  refine wpAny_pyIter_list hls ?_
  have hI1 : σ₁ s₁.heap.objs.size = none := S₁.fresh
  -- the iterator, told
  obtain ⟨mI, σI, KI, rfl, rfl⟩ : ∃ m' σ', StT g A env env' m₀ σ₀ s₀ m' σ' { s₁ with heap := s₁.heap.push (litO l) } ∧ m' = m₁ ∧ σ' = upd σ₁ s₁.heap.objs.size (litO l) := by
    obtain ⟨P1, P2, P3⟩ := pushed F₁ S₁ (litO l) rfl
    exact K1.step T K0 B₁ S₁ F₁ ⟨_, s₁.toks, m₁, _, rfl, P1, P2, P3, rfl, rfl⟩
  generalize hIe : s₁.heap.objs.size = I at *
  have hlI : l ≠ I := fun q => by rw [q, hI1] at hl; cases hl
  refine codeAny_forLoop (fun k' s' => ∃ i m' σ' oI, k' = vs.length - i ∧ i ≤ vs.length ∧ StT g A env env' m₀ σ₀ s₀ m' σ' s' ∧ Km m' ∧ Sub σ₁ σ' ∧ σ' I = some oI ∧ oI.cls = .type "list_iterator" ∧ oI.data = .fields #[.ref l, .int (i : Nat) 0]) ?_ vs.length ?_
  · rintro k' s' ⟨i, m', σ', oI, rfl, hi, K', km', sb, hoI, hc, hd⟩
    obtain ⟨h', B', F', S'⟩ := K'.here
    have hit : s'.heap.IsListIter I l i := ⟨oI, (S' I _ hoI).1, hc, hd⟩
    have hls' := isList_of S' (sb _ _ hl)
    rcases Nat.lt_or_ge i vs.length with hlt | hge
    · have hv : vs.toArray[i]? = some vs[i] := by simp [hlt]
      refine wpAny_pyNext_list_item hit hls' hv fun h2 hit2 hs2 => ?_
      dsimp only
      obtain ⟨o2, ho2, hc2, hd2⟩ := hit2
      obtain ⟨m2, σ2, K2, rfl, rfl⟩ : ∃ m2 σ2, StT g A env env' m₀ σ₀ s₀ m2 σ2 { s' with heap := h2 } ∧ m2 = m' ∧ σ2 = upd σ' I o2 := by
        have IL := (S' I _ hoI).2
        refine K'.step T K0 B' S' F' ⟨h2, s'.toks, m', _, rfl, ?_, ?_, ⟨fun a o e z l => ?_, fun a o e => ?_⟩, rfl, rfl⟩
        · refine F'.on ⟨?_, fun b o e => (hs2.2 b fun q => ?_).trans (F'.keep b o e), F'.F.above⟩ fun y a hy o e => ?_
          · obtain ⟨oL, es, ep, hL, r⟩ := F'.F.ns
            exact ⟨oL, es, ep, (hs2.2 _ fun q => IL.1 (.inl q.symm)).trans hL, r⟩
          · rw [q, IL.2] at e; cases e
          · have hy : env'.cells.lookup y = some a := hy
            rw [T.cl] at hy; cases hy
        · intro a o e
          by_cases q : a = I
          · subst q; rw [upd_same] at e; cases e; exact ⟨ho2, IL⟩
          · rw [upd_ne q] at e; exact ⟨(hs2.2 a q).trans (S' a o e).1, (S' a o e).2⟩
        · exact (hs2.2 a fun q => by rw [q, hoI] at z; cases z).trans e
        · by_cases q : a = I
          · subst q; exact .inl (by rw [hoI]; exact fun z => nomatch z)
          · rw [upd_ne q] at e; exact .inl (by rw [e]; exact fun z => nomatch z)
      have sb2 : Sub σ₁ (upd σ' I o2) := fun a o e => by
        have : a ≠ I := fun q => by rw [q, hI1] at e; cases e
        rw [upd_ne this]; exact sb a o e
      have sto : WT g A env env' m₀ σ₀ s₀ (assign (.Name x tp) env' vs[i]) m2 (upd σ' I o2) (fun _ m3 σ3 => m3 = setM m2 x vs[i] ∧ σ3 = upd σ' I o2) :=
        WT.of T K0 fun h₀ G => w_asn_name (w_store (c := inX g A env' h₀) T.knd hx (by show env'.cells.lookup x = none; rw [T.cl]; rfl) ⟨rfl, rfl⟩)
      refine wpAny_mono (sto _ K2) (fun _ s3 A3 => ?_) fun _ _ a => a.elim
      obtain ⟨m3, σ3, K3, rfl, rfl⟩ := A3
      refine wpAny_mono (turn i vs[i] m2 _ (List.getElem?_eq_getElem hlt) km' sb2 s3 K3) (fun f s4 A4 => ?_) fun _ _ a => a.elim
      obtain ⟨m4, σ4, K4, rfl, km4, sb4⟩ := A4
      exact ⟨vs.length - (i + 1), by omega, i + 1, m4, σ4, o2, rfl, by omega, K4, km4, sb2.trans sb4, sb4 _ _ upd_same, hc2, hd2⟩
    · have : i = vs.length := by omega
      subst this
      have hv : vs.toArray[vs.length]? = none := by simp
      have hh : (A.deeper env').handled = none := T.G.hh
      refine wpAny_pyNext_list_end hh hit hls' (by simp) fun h2 he2 => wpAny_execs_nil ?_
      have IL := (S' I _ hoI).2
      obtain ⟨m2, σ2, K2, rfl, rfl⟩ : ∃ m2 σ2, StT g A env env' m₀ σ₀ s₀ m2 σ2 { s' with heap := h2 } ∧ m2 = m' ∧ σ2 = drop I σ' := by
        refine K'.step T K0 B' S' F' ⟨h2, s'.toks, m', _, rfl, ?_, ?_, ⟨fun a o e z l => ?_, fun a o e => ?_⟩, rfl, rfl⟩
        · refine F'.on ⟨?_, fun b o e => he2 b o (fun q => ?_) (F'.keep b o e), F'.F.above⟩ fun y a hy o e => ?_
          · obtain ⟨oL, es, ep, hL, r⟩ := F'.F.ns
            exact ⟨oL, es, ep, he2 _ _ (fun q => IL.1 (.inl q.symm)) hL, r⟩
          · rw [q, IL.2] at e; cases e
          · have hy : env'.cells.lookup y = some a := hy
            rw [T.cl] at hy; cases hy
        · intro a o e
          have q : a ≠ I := fun q => by rw [q, drop_same] at e; cases e
          rw [drop_ne q] at e; exact ⟨he2 _ _ q (S' a o e).1, (S' a o e).2⟩
        · exact he2 a o (fun q => by rw [q, hoI] at z; cases z) e
        · have q : a ≠ I := fun q => by rw [q, drop_same] at e; cases e
          rw [drop_ne q] at e; exact .inl (by rw [e]; exact fun z => nomatch z)
      have sb2 : Sub σ₁ (drop I σ') := sub_drop sb hI1
      exact ⟨m2, _, K2, done m2 _ km' sb2⟩
  · exact ⟨0, _, _, litO l, rfl, Nat.zero_le _, KI, km, sub_upd hI1, upd_same, rfl, rfl⟩
end
/-- a callee of the law's frame, by its body -/
theorem fn_tries {n : Nat} {σ : Store} {g : Pg} {f : Addr} {args : List Value} {Q : Value → Store → Prop} {name qual : Str} {params : Arguments} {body : List Stmt} {scope : Scope} {dV kV doc pm cdv ct oc : Value} {an od : Option Addr} {osl : Array (Option Value)} (binds : List (Str × Value))
    (ho : g.K.lookup f = some ⟨oc, od, .func (fnX name qual params body scope [] dV kV doc pm an cdv ct), osl⟩) (hcd : codeIn g.K cdv qual = true)
    (hb : bindArgs (fnX name qual params body scope [] dV kV doc pm an cdv ct) ⟨args, []⟩ = pure binds) (hloc : ∀ y ∈ binds, scope.names.lookup y.1 = some .local) (hcell : ∀ x ∈ scope.names, x.2 ≠ .cell)
    (hco : scope.isCoroutine = false) (hgen : scope.isGenerator = false) (hk : scope.kind = .function)
    (h : ∀ (A : Around) (env env' : Env) (m₀ m : Loc) (s₀ : Shared), CtT n g A env env' → At0 g A env s₀ → env'.scope = scope → interactive env' = false → (∀ y, m y = binds.reverse.lookup y) →
      WT g A env env' m₀ σ s₀ (execs body env') m σ (fun fl _ σ' => ∃ v, fl = .ret v ∧ Q v σ')) :
    FnT g (n + 1) (.ref f) args σ Q := by
  intro A env m s G hA F S
  obtain ⟨A₀, outer, B, hA'⟩ := G.B
  dsimp only at B hA'
  have hout : outer = [] := by rw [hA] at hA'; injection hA' with q; injection q with _ q; exact q.symm
  subst hout
  have hfr : env.frame = some env.locals := G.fr
  have hke : env.scope.kind = .function := G.knd
  have N := all_news ⟨g, A, env, g.h⟩ s.heap
  have KX : g.K.In s.heap := G.now F
  obtain ⟨FG, BG, stg, _⟩ := groundX (R := fun _ _ => True) B F.F N hA hfr hke
  refine codeAny_call_def (fd := fnX name qual params body scope [] dV kV doc pm an cdv ct) (body := body) (binds := binds) (by have := G.dep; dsimp only at this; omega) (KX _ _ ho) rfl (G.T.nolimit.keeps F.keep) (codeRec_of KX hcd) rfl (BindsTo.of_eq hb) hcell hloc (fun h₁ hns hk₁ => ?_) hco hgen hk
  generalize hg' : hideAll s.heap ((allOf ⟨g, A, env, g.h⟩ s.heap).map (·.1)) = g' at FG BG stg
  have hgs : ∀ b o, g'.get? b = some o → s.heap.get? b = some o := fun b o e => by rw [← hg'] at e; exact of_hideAll _ e
  have hgn : ∀ p ∈ allOf ⟨g, A, env, g.h⟩ s.heap, g'.get? p.1 = none := fun p hp => by rw [← hg']; exact hideAll_none _ (List.mem_map_of_mem hp)
  have hgz : g'.objs.size = s.heap.objs.size := by rw [← hg']; exact hideAll_size _ _
  clear hg'
  let L' := s.heap.objs.size
  let env' := envX qual scope L' f cdv []
  have F' : Fr g' L' h₁ (fun y => binds.reverse.lookup y) := ⟨hns, fun b o e => hk₁ b o (hgs b o e), Nat.le_of_eq hgz⟩
  have hloc0 : ∀ m : Loc, loc (inX g A env' g') m = m := fun m => by funext x; rfl
  have F1 : Frm (inX g A env' g') h₁ (fun y => binds.reverse.lookup y) := ⟨by rw [hloc0]; exact F', fun x a hx => (by cases hx), fun x a hx => (by cases hx), fun x y a hx => (by cases hx)⟩
  have yng : ∀ b o, s.heap.get? b = some o → ¬ FA (inX g A env' g') b := fun b o e q => by
    rcases q with q | ⟨x, hx⟩
    · have q : b = s.heap.objs.size := q
      exact absurd (Heap.lt_size e) (by rw [q]; exact Nat.lt_irrefl _)
    · cases hx
  have S1 : Sto (inX g A env' g') h₁ σ := fun a o e => by
    have mem : (a, o) ∈ allOf ⟨g, A, env, g.h⟩ s.heap := mem_lst.mpr ⟨S.lt e, S.full (c := ⟨g, A, env, g.h⟩) a o e⟩
    exact ⟨hk₁ _ _ (S a o e).1, yng a o (S a o e).1, hgn _ mem⟩
  have Ct : CtT n g A env env' := ⟨G, hA, rfl, rfl, hk, rfl, rfl⟩
  have At : At0 g A env s := ⟨let ⟨oL, _, _, hL, _⟩ := F.F.ns; ⟨oL, hL⟩, fun x a hx => let ⟨o, ho, _⟩ := F.cell x a hx; ⟨o, ho⟩⟩
  have St : StT g A env env' m σ s (fun y => binds.reverse.lookup y) σ { s with heap := h₁, toks := s.toks + binds.length } :=
    ⟨⟨g', BG, F1, S1⟩, rfl, F.keeps hk₁, fun a o e => (S a o e).2.1, ⟨fun a o e _ _ => hk₁ _ _ e, fun a o e => .inl (by rw [e]; exact fun z => nomatch z)⟩, no_end _⟩
  refine wpAny_mono (h A env env' m _ s Ct At rfl (by unfold interactive; rw [show env'.scope = scope from rfl, hk]; rfl) (fun _ => rfl) _ St) (fun fl s' q => ?_) fun _ _ q => q.elim
  obtain ⟨m', σ', K, v, rfl, hq⟩ := q
  obtain ⟨h₀, B', F'', S''⟩ := K.here
  refine ⟨s'.heap, s'.toks, m, σ', K.eq, K.F0, fun a o e => ⟨(S'' a o e).1, K.off a o e, ?_⟩, K.fra, rfl, hq⟩
  cases q : g.h.get? a with
  | none => rfl
  | some o' => have := (S'' a o e).2.2; rw [show (inX g A env' h₀).h₀ = h₀ from rfl, B'.stays a o' q] at this; cases this
end Mine

open PySem PySem.W PySem.Calls PyProof.Rows
namespace Mine
/-! ## the program's things as Python holds them -/
def ent (P : Params) (x : Str) (t : Tok) (v : Value) : DictEntry := ⟨PyData.keyHash P x, .str x t, v⟩
def optV (o : Option Nat) (t : Tok) : Value := match o with | none => .none | some s => .int (s : Int) t
def optI (o : Option Int) (t : Tok) : Value := match o with | none => .none | some s => .int s t
def handD (P : Params) (k : Nat → Tok) (h : Hnd) : List DictEntry :=
  [ent P (Str.ofString "number") (k 0) (.int h.num (k 7)), ent P (Str.ofString "at_stage") (k 1) (optV h.stage (k 8)), ent P (Str.ofString "far") (k 2) (.int (h.far : Int) (k 9)), ent P (Str.ofString "had") (k 3) (.int (h.had : Int) (k 10)),
   ent P (Str.ofString "lost") (k 4) (.bool h.lost), ent P (Str.ofString "won") (k 5) (.bool h.won), ent P (Str.ofString "greatest") (k 6) (optI h.top (k 11))]
def setT (k : Nat → Tok) (i : Nat) (t : Tok) : Nat → Tok := fun j => if j = i then t else k j
def ringD (P : Params) (k : Nat → Tok) (lh lr : Addr) (many : Nat) : List DictEntry :=
  [ent P (Str.ofString "hands") (k 0) (.ref lh), ent P (Str.ofString "road") (k 1) (.ref lr), ent P (Str.ofString "many") (k 2) (.int (many : Int) (k 3))]
section
variable {P : Params} {k : Nat → Tok} {h : Hnd} {hs : Int} {key : Value} {t : Tok}
theorem g_number : getL (Str.ofString "number") (handD P k h) = some (some (.int h.num (k 7))) := rfl
theorem g_stage : getL (Str.ofString "at_stage") (handD P k h) = some (some (optV h.stage (k 8))) := rfl
theorem g_far : getL (Str.ofString "far") (handD P k h) = some (some (.int (h.far : Int) (k 9))) := rfl
theorem g_had : getL (Str.ofString "had") (handD P k h) = some (some (.int (h.had : Int) (k 10))) := rfl
theorem g_lost : getL (Str.ofString "lost") (handD P k h) = some (some (.bool h.lost)) := rfl
theorem g_won : getL (Str.ofString "won") (handD P k h) = some (some (.bool h.won)) := rfl
theorem g_top : getL (Str.ofString "greatest") (handD P k h) = some (some (optI h.top (k 11))) := rfl
theorem p_stage {s : Nat} : putL (Str.ofString "at_stage") hs key (.int (s : Int) t) (handD P k h) = handD P (setT k 8 t) { h with stage := some s } := rfl
theorem p_far {s : Nat} : putL (Str.ofString "far") hs key (.int (s : Int) t) (handD P k h) = handD P (setT k 9 t) { h with far := s } := rfl
theorem p_had {s : Nat} : putL (Str.ofString "had") hs key (.int (s : Int) t) (handD P k h) = handD P (setT k 10 t) { h with had := s } := rfl
theorem p_lost {b : Bool} : putL (Str.ofString "lost") hs key (.bool b) (handD P k h) = handD P k { h with lost := b } := rfl
theorem p_won {b : Bool} : putL (Str.ofString "won") hs key (.bool b) (handD P k h) = handD P k { h with won := b } := rfl
theorem p_top {x : Int} : putL (Str.ofString "greatest") hs key (.int x t) (handD P k h) = handD P (setT k 11 t) { h with top := some x } := rfl
theorem pn_stage {j : Nat} : putN (Str.ofString "at_stage") (handD P k h) j = j := rfl
theorem pn_far {j : Nat} : putN (Str.ofString "far") (handD P k h) j = j := rfl
theorem pn_had {j : Nat} : putN (Str.ofString "had") (handD P k h) j = j := rfl
theorem pn_lost {j : Nat} : putN (Str.ofString "lost") (handD P k h) j = j := rfl
theorem pn_won {j : Nat} : putN (Str.ofString "won") (handD P k h) j = j := rfl
theorem pn_top {j : Nat} : putN (Str.ofString "greatest") (handD P k h) j = j := rfl
theorem g_hands {lh lr : Addr} {many : Nat} : getL (Str.ofString "hands") (ringD P k lh lr many) = some (some (.ref lh)) := rfl
theorem g_road {lh lr : Addr} {many : Nat} : getL (Str.ofString "road") (ringD P k lh lr many) = some (some (.ref lr)) := rfl
theorem g_many {lh lr : Addr} {many : Nat} : getL (Str.ofString "many") (ringD P k lh lr many) = some (some (.int (many : Int) (k 3))) := rfl
theorem p_many {lh lr : Addr} {many s : Nat} : putL (Str.ofString "many") hs key (.int (s : Int) t) (ringD P k lh lr many) = ringD P (setT k 3 t) lh lr s := rfl
theorem pn_many {lh lr : Addr} {many j : Nat} : putN (Str.ofString "many") (ringD P k lh lr many) j = j := rfl
end

def wordS : Word → Str
  | .ask => Str.ofString "ask"
  | .answer => Str.ofString "answer"
  | .crown => Str.ofString "crown"
def ltrV (l : Ltr) (k : Nat → Tok) : List Value := [.int l.way (k 0), .str (wordS l.word) (k 1), .int l.num (k 2), .int (l.stage : Int) (k 3), .int (l.steps : Int) (k 4)]
def LtrAt (σ : Store) (a : Addr) (l : Ltr) : Prop := ∃ k, σ a = some (tupO (ltrV l k))
def MailAt (σ : Store) (a : Addr) (p : Nat × Ltr) : Prop := ∃ t k, σ a = some (tupO (.int (p.1 : Int) t :: ltrV p.2 k))
def HandAt (P : Params) (C : Addr) (σ : Store) (x dx : Addr) (h : Hnd) : Prop := ∃ k, σ x = some (instObj C dx) ∧ σ dx = some (dictOf (handD P k h) 7)

inductive All2 {α β : Type} (R : α → β → Prop) : List α → List β → Prop
  | nil : All2 R [] []
  | cons {a b as bs} : R a b → All2 R as bs → All2 R (a :: as) (b :: bs)
theorem All2.len {α β : Type} {R : α → β → Prop} {as : List α} {bs : List β} (h : All2 R as bs) : as.length = bs.length := by
  induction h with
  | nil => rfl
  | cons _ _ ih => simp [ih]
theorem All2.mono {α β : Type} {R R' : α → β → Prop} {as : List α} {bs : List β} (h : All2 R as bs) (k : ∀ a b, R a b → R' a b) : All2 R' as bs := by
  induction h with
  | nil => exact .nil
  | cons r _ ih => exact .cons (k _ _ r) ih
theorem All2.append {α β : Type} {R : α → β → Prop} {as as' : List α} {bs bs' : List β} (h : All2 R as bs) (h' : All2 R as' bs') : All2 R (as ++ as') (bs ++ bs') := by
  induction h with
  | nil => exact h'
  | cons r _ ih => exact .cons r ih
theorem All2.get {α β : Type} {R : α → β → Prop} {as : List α} {bs : List β} (h : All2 R as bs) : ∀ {i : Nat} {b : β}, bs[i]? = some b → ∃ a, as[i]? = some a ∧ R a b := by
  induction h with
  | nil => intro i b e; simp at e
  | cons r _ ih =>
    intro i b e
    cases i with
    | zero => simp at e; subst e; exact ⟨_, rfl, r⟩
    | succ i => simpa using ih (by simpa using e)
theorem All2.erase {α β : Type} {R : α → β → Prop} {as : List α} {bs : List β} (h : All2 R as bs) : ∀ i : Nat, All2 R (as.eraseIdx i) (bs.eraseIdx i) := by
  induction h with
  | nil => intro i; exact .nil
  | cons r h ih =>
    intro i
    cases i with
    | zero => exact h
    | succ i => exact .cons r (ih i)
theorem All2.get' {α β : Type} {R : α → β → Prop} {as : List α} {bs : List β} (h : All2 R as bs) : ∀ {i : Nat} {a : α}, as[i]? = some a → ∃ b, bs[i]? = some b ∧ R a b := by
  induction h with
  | nil => intro i b e; simp at e
  | cons r _ ih =>
    intro i b e
    cases i with
    | zero => simp at e; subst e; exact ⟨_, rfl, r⟩
    | succ i => simpa using ih (by simpa using e)

/-- all but some is kept -/
def Keep (D : Addr → Prop) (σ σ' : Store) : Prop := ∀ a o, σ a = some o → ¬ D a → σ' a = some o
theorem Keep.refl {D : Addr → Prop} {σ : Store} : Keep D σ σ := fun _ _ e _ => e
theorem Keep.trans {D : Addr → Prop} {σ σ₁ σ₂ : Store} (x : Keep D σ σ₁) (y : Keep D σ₁ σ₂) : Keep D σ σ₂ := fun a o e n => y a o (x a o e n) n
theorem Keep.wide {D D' : Addr → Prop} {σ σ' : Store} (x : Keep D σ σ') (k : ∀ a, D a → D' a) : Keep D' σ σ' := fun a o e n => x a o e fun q => n (k a q)
theorem Keep.of_sub {D : Addr → Prop} {σ σ' : Store} (x : Sub σ σ') : Keep D σ σ' := fun a o e _ => x a o e
theorem Keep.upd {D : Addr → Prop} {σ σ' : Store} (x : Keep D σ σ') {a : Addr} {o : Obj} (h : D a ∨ σ' a = none) : Keep D σ (upd σ' a o) := fun b q e n => by
  have := x b q e n
  rw [upd_ne fun z => ?_]
  · exact this
  · subst z
    rcases h with h | h
    · exact n h
    · rw [h] at this; cases this
theorem LtrAt.keep {D : Addr → Prop} {σ σ' : Store} {a : Addr} {l : Ltr} (h : LtrAt σ a l) (x : Keep D σ σ') (n : ¬ D a) : LtrAt σ' a l := let ⟨k, e⟩ := h; ⟨k, x a _ e n⟩
theorem LtrAt.sub {σ σ' : Store} {a : Addr} {l : Ltr} (h : LtrAt σ a l) (x : Sub σ σ') : LtrAt σ' a l := let ⟨k, e⟩ := h; ⟨k, x a _ e⟩
theorem MailAt.sub {σ σ' : Store} {a : Addr} {l : Nat × Ltr} (h : MailAt σ a l) (x : Sub σ σ') : MailAt σ' a l := let ⟨t, k, e⟩ := h; ⟨t, k, x a _ e⟩
theorem HandAt.sub {P : Params} {C x dx : Addr} {σ σ' : Store} {h : Hnd} (H : HandAt P C σ x dx h) (s : Sub σ σ') : HandAt P C σ' x dx h := let ⟨k, h1, h2⟩ := H; ⟨k, s _ _ h1, s _ _ h2⟩
/-- a tuple is no dict -/
theorem tup_ne {σ : Store} {a d : Addr} {vs : List Value} {es : List DictEntry} {n : Nat} (h1 : σ a = some (tupO vs)) (h2 : σ d = some (dictOf es n)) : a ≠ d := fun q => by
  subst q
  have e := congrArg Obj.cls (Option.some.inj (h1.symm.trans h2))
  exact absurd (Value.type.inj e) (by decide)
theorem lst_ne {σ : Store} {a d : Addr} {vs : List Value} {es : List DictEntry} {n k : Nat} (h1 : σ a = some (lstO vs k)) (h2 : σ d = some (dictOf es n)) : a ≠ d := fun q => by
  subst q
  have e := congrArg Obj.cls (Option.some.inj (h1.symm.trans h2))
  exact absurd (Value.type.inj e) (by decide)
theorem tup_lst {σ : Store} {a d : Addr} {vs ws : List Value} {k : Nat} (h1 : σ a = some (tupO vs)) (h2 : σ d = some (lstO ws k)) : a ≠ d := fun q => by
  subst q
  have e := congrArg Obj.cls (Option.some.inj (h1.symm.trans h2))
  exact absurd (Value.type.inj e) (by decide)
theorem inst_ne {σ : Store} {a d C dx : Addr} {es : List DictEntry} {n : Nat} (h1 : σ a = some (instObj C dx)) (h2 : σ d = some (dictOf es n)) : a ≠ d := fun q => by
  subst q
  have e := congrArg Obj.cls (Option.some.inj (h1.symm.trans h2))
  exact nomatch e
theorem inst_lst {σ : Store} {a d C dx : Addr} {ws : List Value} {n : Nat} (h1 : σ a = some (instObj C dx)) (h2 : σ d = some (lstO ws n)) : a ≠ d := fun q => by
  subst q
  have e := congrArg Obj.cls (Option.some.inj (h1.symm.trans h2))
  exact nomatch e
theorem new_ne {σ : Store} {a b : Addr} {o : Obj} (h1 : σ a = some o) (h2 : σ b = none) : a ≠ b := fun q => by
  subst q; rw [h2] at h1; cases h1

/-- what a hand's word to its neighbours comes to -/
def Gives (P : Params) (C : Addr) (σ : Store) (x dx : Addr) (h : Hnd) (ls : List Ltr) (v : Value) (σ' : Store) : Prop :=
  ∃ la as k, v = .ref la ∧ σ la = none ∧ σ' la = some (lstO (as.map .ref) k) ∧ All2 (LtrAt σ') as ls ∧ HandAt P C σ' x dx h ∧ Keep (· = dx) σ σ'

/-! ## the fields of a hand, of a ring -/
section
variable {n : Nat} {c : Cx} {m : Loc} {σ : Store} {X : Value → Loc → Store → Prop} {Q : Value → Loc → Store → Prop} {R : Unit → Loc → Store → Prop} {x dx C : Addr} {k : Nat → Tok} {h : Hnd} {t : Tok}
theorem get_number (g : Gnd n c) (f : FieldOk c.g.K C (Str.ofString "number")) (hx : σ x = some (instObj C dx)) (hd : σ dx = some (dictOf (handD c.g.w.params k h) 7)) (q : Q (.int h.num (k 7)) m σ) : W c (getAttr (.ref x) (Str.ofString "number") true) m σ Q X :=
  w_get g f hx hd g_number rfl q
theorem get_far (g : Gnd n c) (f : FieldOk c.g.K C (Str.ofString "far")) (hx : σ x = some (instObj C dx)) (hd : σ dx = some (dictOf (handD c.g.w.params k h) 7)) (q : Q (.int (h.far : Int) (k 9)) m σ) : W c (getAttr (.ref x) (Str.ofString "far") true) m σ Q X :=
  w_get g f hx hd g_far rfl q
theorem get_had (g : Gnd n c) (f : FieldOk c.g.K C (Str.ofString "had")) (hx : σ x = some (instObj C dx)) (hd : σ dx = some (dictOf (handD c.g.w.params k h) 7)) (q : Q (.int (h.had : Int) (k 10)) m σ) : W c (getAttr (.ref x) (Str.ofString "had") true) m σ Q X :=
  w_get g f hx hd g_had rfl q
theorem get_lost (g : Gnd n c) (f : FieldOk c.g.K C (Str.ofString "lost")) (hx : σ x = some (instObj C dx)) (hd : σ dx = some (dictOf (handD c.g.w.params k h) 7)) (q : Q (.bool h.lost) m σ) : W c (getAttr (.ref x) (Str.ofString "lost") true) m σ Q X :=
  w_get g f hx hd g_lost rfl q
theorem get_won (g : Gnd n c) (f : FieldOk c.g.K C (Str.ofString "won")) (hx : σ x = some (instObj C dx)) (hd : σ dx = some (dictOf (handD c.g.w.params k h) 7)) (q : Q (.bool h.won) m σ) : W c (getAttr (.ref x) (Str.ofString "won") true) m σ Q X :=
  w_get g f hx hd g_won rfl q
theorem get_stage {s : Nat} (g : Gnd n c) (f : FieldOk c.g.K C (Str.ofString "at_stage")) (hx : σ x = some (instObj C dx)) (hd : σ dx = some (dictOf (handD c.g.w.params k h) 7)) (hs : h.stage = some s) (q : Q (.int (s : Int) (k 8)) m σ) : W c (getAttr (.ref x) (Str.ofString "at_stage") true) m σ Q X :=
  w_get g f hx hd (by rw [g_stage, hs]; rfl) rfl q
theorem get_stage0 (g : Gnd n c) (f : FieldOk c.g.K C (Str.ofString "at_stage")) (hx : σ x = some (instObj C dx)) (hd : σ dx = some (dictOf (handD c.g.w.params k h) 7)) (hs : h.stage = none) (q : Q (.none) m σ) : W c (getAttr (.ref x) (Str.ofString "at_stage") true) m σ Q X :=
  w_get g f hx hd (by rw [g_stage, hs]; rfl) rfl q
theorem get_top {s : Int} (g : Gnd n c) (f : FieldOk c.g.K C (Str.ofString "greatest")) (hx : σ x = some (instObj C dx)) (hd : σ dx = some (dictOf (handD c.g.w.params k h) 7)) (hs : h.top = some s) (q : Q (.int s (k 11)) m σ) : W c (getAttr (.ref x) (Str.ofString "greatest") true) m σ Q X :=
  w_get g f hx hd (by rw [g_top, hs]; rfl) rfl q
theorem get_top0 (g : Gnd n c) (f : FieldOk c.g.K C (Str.ofString "greatest")) (hx : σ x = some (instObj C dx)) (hd : σ dx = some (dictOf (handD c.g.w.params k h) 7)) (hs : h.top = none) (q : Q (.none) m σ) : W c (getAttr (.ref x) (Str.ofString "greatest") true) m σ Q X :=
  w_get g f hx hd (by rw [g_top, hs]; rfl) rfl q
theorem set_stage (s : Nat) {a : Int} (g : Gnd n c) (f : FieldOk c.g.K C (Str.ofString "at_stage")) (hx : σ x = some (instObj C dx)) (hd : σ dx = some (dictOf (handD c.g.w.params k h) 7)) (e : a = (s : Int)) (q : ∀ k', R () m (upd σ dx (dictOf (handD c.g.w.params k' { h with stage := some s }) 7))) : W c (setAttr (.ref x) (Str.ofString "at_stage") (.int a t)) m σ R X := by
  subst e; exact w_set g f hx hd rfl (show 7 < 1000 by decide) fun _ => (by rw [p_stage, pn_stage]; exact q _)
theorem set_far (s : Nat) {a : Int} (g : Gnd n c) (f : FieldOk c.g.K C (Str.ofString "far")) (hx : σ x = some (instObj C dx)) (hd : σ dx = some (dictOf (handD c.g.w.params k h) 7)) (e : a = (s : Int)) (q : ∀ k', R () m (upd σ dx (dictOf (handD c.g.w.params k' { h with far := s }) 7))) : W c (setAttr (.ref x) (Str.ofString "far") (.int a t)) m σ R X := by
  subst e; exact w_set g f hx hd rfl (show 7 < 1000 by decide) fun _ => (by rw [p_far, pn_far]; exact q _)
theorem set_had (s : Nat) {a : Int} (g : Gnd n c) (f : FieldOk c.g.K C (Str.ofString "had")) (hx : σ x = some (instObj C dx)) (hd : σ dx = some (dictOf (handD c.g.w.params k h) 7)) (e : a = (s : Int)) (q : ∀ k', R () m (upd σ dx (dictOf (handD c.g.w.params k' { h with had := s }) 7))) : W c (setAttr (.ref x) (Str.ofString "had") (.int a t)) m σ R X := by
  subst e; exact w_set g f hx hd rfl (show 7 < 1000 by decide) fun _ => (by rw [p_had, pn_had]; exact q _)
theorem set_lost {b : Bool} (g : Gnd n c) (f : FieldOk c.g.K C (Str.ofString "lost")) (hx : σ x = some (instObj C dx)) (hd : σ dx = some (dictOf (handD c.g.w.params k h) 7)) (q : R () m (upd σ dx (dictOf (handD c.g.w.params k { h with lost := b }) 7))) : W c (setAttr (.ref x) (Str.ofString "lost") (.bool b)) m σ R X :=
  w_set g f hx hd rfl (show 7 < 1000 by decide) fun _ => (by rw [p_lost, pn_lost]; exact q)
theorem set_won {b : Bool} (g : Gnd n c) (f : FieldOk c.g.K C (Str.ofString "won")) (hx : σ x = some (instObj C dx)) (hd : σ dx = some (dictOf (handD c.g.w.params k h) 7)) (q : R () m (upd σ dx (dictOf (handD c.g.w.params k { h with won := b }) 7))) : W c (setAttr (.ref x) (Str.ofString "won") (.bool b)) m σ R X :=
  w_set g f hx hd rfl (show 7 < 1000 by decide) fun _ => (by rw [p_won, pn_won]; exact q)
theorem set_top {b : Int} (g : Gnd n c) (f : FieldOk c.g.K C (Str.ofString "greatest")) (hx : σ x = some (instObj C dx)) (hd : σ dx = some (dictOf (handD c.g.w.params k h) 7)) (q : ∀ k', R () m (upd σ dx (dictOf (handD c.g.w.params k' { h with top := some b }) 7))) : W c (setAttr (.ref x) (Str.ofString "greatest") (.int b t)) m σ R X :=
  w_set g f hx hd rfl (show 7 < 1000 by decide) fun _ => (by rw [p_top, pn_top]; exact q _)
theorem meth_hand {name : Str} {f : Addr} {pl : Sem Bool} {Q : Value × List Value → Loc → Store → Prop} (g : Gnd n c) (o : MethOk c.g.K C name f) (hx : σ x = some (instObj C dx)) (hd : σ dx = some (dictOf (handD c.g.w.params k h) 7))
    (hl : getL name (handD c.g.w.params k h) = some none) (q : Q (.ref f, [.ref x]) m σ) : W c (getMethod (.ref x) name pl) m σ Q X := w_getMeth g o hx hd hl q
variable {lh lr : Addr} {many : Nat}
theorem get_hands (g : Gnd n c) (f : FieldOk c.g.K C (Str.ofString "hands")) (hx : σ x = some (instObj C dx)) (hd : σ dx = some (dictOf (ringD c.g.w.params k lh lr many) 3)) (q : Q (.ref lh) m σ) : W c (getAttr (.ref x) (Str.ofString "hands") true) m σ Q X :=
  w_get g f hx hd g_hands rfl q
theorem get_road (g : Gnd n c) (f : FieldOk c.g.K C (Str.ofString "road")) (hx : σ x = some (instObj C dx)) (hd : σ dx = some (dictOf (ringD c.g.w.params k lh lr many) 3)) (q : Q (.ref lr) m σ) : W c (getAttr (.ref x) (Str.ofString "road") true) m σ Q X :=
  w_get g f hx hd g_road rfl q
theorem get_many (g : Gnd n c) (f : FieldOk c.g.K C (Str.ofString "many")) (hx : σ x = some (instObj C dx)) (hd : σ dx = some (dictOf (ringD c.g.w.params k lh lr many) 3)) (q : Q (.int (many : Int) (k 3)) m σ) : W c (getAttr (.ref x) (Str.ofString "many") true) m σ Q X :=
  w_get g f hx hd g_many rfl q
theorem set_many (s : Nat) {a : Int} (g : Gnd n c) (f : FieldOk c.g.K C (Str.ofString "many")) (hx : σ x = some (instObj C dx)) (hd : σ dx = some (dictOf (ringD c.g.w.params k lh lr many) 3)) (e : a = (s : Int)) (q : ∀ k', R () m (upd σ dx (dictOf (ringD c.g.w.params k' lh lr s) 3))) : W c (setAttr (.ref x) (Str.ofString "many") (.int a t)) m σ R X := by
  subst e; exact w_set g f hx hd rfl (show 3 < 1000 by decide) fun _ => (by rw [p_many, pn_many]; exact q _)
theorem meth_ring {name : Str} {f : Addr} {pl : Sem Bool} {Q : Value × List Value → Loc → Store → Prop} (g : Gnd n c) (o : MethOk c.g.K C name f) (hx : σ x = some (instObj C dx)) (hd : σ dx = some (dictOf (ringD c.g.w.params k lh lr many) 3))
    (hl : getL name (ringD c.g.w.params k lh lr many) = some none) (q : Q (.ref f, [.ref x]) m σ) : W c (getMethod (.ref x) name pl) m σ Q X := w_getMeth g o hx hd hl q
-- the parts of a letter
variable {value slice : Expr} {l : Ltr} {a : Addr}
theorem part_way (hl : σ a = some (tupO (ltrV l k))) (q : Q (.int l.way (k 0)) m σ) (hs : subscripted slice false (.ref a) (.int 0 t) = operate [.ref a, .int 0 t] (getItem (.ref a) (.int 0 t))) : W c (subscriptTail value slice (.ref a) (.int 0 t)) m σ Q X :=
  w_item_tup (j := 0) hl (by decide) (by decide) rfl rfl q hs
theorem part_word (hl : σ a = some (tupO (ltrV l k))) (q : Q (.str (wordS l.word) (k 1)) m σ) (hs : subscripted slice false (.ref a) (.int 1 t) = operate [.ref a, .int 1 t] (getItem (.ref a) (.int 1 t))) : W c (subscriptTail value slice (.ref a) (.int 1 t)) m σ Q X :=
  w_item_tup (j := 1) hl (by decide) (by decide) rfl rfl q hs
theorem part_num (hl : σ a = some (tupO (ltrV l k))) (q : Q (.int l.num (k 2)) m σ) (hs : subscripted slice false (.ref a) (.int 2 t) = operate [.ref a, .int 2 t] (getItem (.ref a) (.int 2 t))) : W c (subscriptTail value slice (.ref a) (.int 2 t)) m σ Q X :=
  w_item_tup (j := 2) hl (by decide) (by decide) rfl rfl q hs
theorem part_lstage (hl : σ a = some (tupO (ltrV l k))) (q : Q (.int (l.stage : Int) (k 3)) m σ) (hs : subscripted slice false (.ref a) (.int 3 t) = operate [.ref a, .int 3 t] (getItem (.ref a) (.int 3 t))) : W c (subscriptTail value slice (.ref a) (.int 3 t)) m σ Q X :=
  w_item_tup (j := 3) hl (by decide) (by decide) rfl rfl q hs
theorem part_steps (hl : σ a = some (tupO (ltrV l k))) (q : Q (.int (l.steps : Int) (k 4)) m σ) (hs : subscripted slice false (.ref a) (.int 4 t) = operate [.ref a, .int 4 t] (getItem (.ref a) (.int 4 t))) : W c (subscriptTail value slice (.ref a) (.int 4 t)) m σ Q X :=
  w_item_tup (j := 4) hl (by decide) (by decide) rfl rfl q hs
theorem part_dest {d : Nat} {t₀ : Tok} (hl : σ a = some (tupO (.int (d : Int) t₀ :: ltrV l k))) (q : Q (.int (d : Int) t₀) m σ) (hs : subscripted slice false (.ref a) (.int 0 t) = operate [.ref a, .int 0 t] (getItem (.ref a) (.int 0 t))) : W c (subscriptTail value slice (.ref a) (.int 0 t)) m σ Q X :=
  w_item_tup (j := 0) hl (by decide) (by decide) rfl rfl q hs
end

theorem upd_none {σ : Store} {a b : Addr} {o : Obj} (h : upd σ a o b = none) : σ b = none := by
  by_cases q : b = a
  · subst q; rw [upd_same] at h; cases h
  · rw [upd_ne q] at h; exact h
theorem Keep.none {D : Addr → Prop} {σ σ' : Store} (x : Keep D σ σ') {b : Addr} (h : σ' b = none) (n : ¬ D b) : σ b = none := by
  cases e : σ b with
  | none => rfl
  | some o => rw [x b o e n] at h; cases h
theorem ltr_at {σ : Store} {a : Addr} {l : Ltr} {t0 t1 t2 t3 t4 : Tok} (h : σ a = some (tupO [.int l.way t0, .str (wordS l.word) t1, .int l.num t2, .int (l.stage : Int) t3, .int (l.steps : Int) t4])) : LtrAt σ a l :=
  ⟨fun i => [t0, t1, t2, t3, t4].getD i 0, h⟩
/-- the hand itself is never the list or the letters it gives -/
theorem Gives.mk {P : Params} {C : Addr} {σ : Store} {x dx : Addr} {h : Hnd} {ls : List Ltr} {σ' : Store} {la : Addr} {k : Nat} (as : List Addr) (h1 : σ la = none) (h2 : σ' la = some (lstO (as.map .ref) k)) (h3 : All2 (LtrAt σ') as ls) (h4 : HandAt P C σ' x dx h) (h5 : Keep (· = dx) σ σ') :
    Gives P C σ x dx h ls (.ref la) σ' := ⟨la, as, k, rfl, h1, h2, h3, h4, h5⟩
theorem app_nil {c : Cx} {env : Env} {m : Loc} {σ : Store} {L : List Stmt} {Q : Flow → Loc → Store → Prop} {X : Value → Loc → Store → Prop} (h : W c (execs L env) m σ Q X) : W c (execs ([] ++ L) env) m σ Q X := h
theorem app_cons {c : Cx} {env : Env} {m : Loc} {σ : Store} {s : Stmt} {L R : List Stmt} {Q : Flow → Loc → Store → Prop} {X : Value → Loc → Store → Prop} (h : W c (execs (s :: (L ++ R)) env) m σ Q X) : W c (execs ((s :: L) ++ R) env) m σ Q X := h
theorem ltr_of {σ : Store} {a : Addr} {l : Ltr} {w nm st sp : Int} {wd : Str} {t0 t1 t2 t3 t4 : Tok} (h : σ a = some (tupO [.int w t0, .str wd t1, .int nm t2, .int st t3, .int sp t4]))
    (h1 : w = l.way) (h2 : wd = wordS l.word) (h3 : nm = l.num) (h4 : st = (l.stage : Int)) (h5 : sp = (l.steps : Int)) : LtrAt σ a l := by
  subst h1 h2 h3 h4 h5
  exact ltr_at h
theorem wake_len (h : Hnd) : h.wake.2.length ≤ 2 := by
  unfold Hnd.wake; cases h.stage <;> simp [Hnd.asks]
theorem came_len (h : Hnd) (l : Ltr) : (h.came l).2.length ≤ 2 := by
  unfold Hnd.came
  cases l.word with
  | ask =>
    simp only; unfold Hnd.askCame
    repeat' split
    all_goals simp
  | answer =>
    simp only; unfold Hnd.answerCame
    repeat' split
    all_goals simp
  | crown =>
    simp only; unfold Hnd.crownCame
    split <;> simp
theorem All2.tups {σ σ' : Store} {dx : Addr} {es : List DictEntry} {n : Nat} {as : List Addr} {ls : List Ltr} (h : All2 (LtrAt σ) as ls) (hd : σ dx = some (dictOf es n)) (k : Keep (· = dx) σ σ') : All2 (LtrAt σ') as ls :=
  h.mono fun a l r => let ⟨kk, e⟩ := r; ⟨kk, k a _ e (tup_ne e hd)⟩
theorem give_add {P : Params} {C : Addr} {c : Cx} {m : Loc} {σ σ₁ σ₂ : Store} {x dx la₁ la₂ : Addr} {h₁ h₂ : Hnd} {ls₁ ls₂ : List Ltr} {Q : Value → Loc → Store → Prop} {X : Value → Loc → Store → Prop} (G₁ : Gives P C σ x dx h₁ ls₁ (.ref la₁) σ₁) (G₂ : Gives P C σ₁ x dx h₂ ls₂ (.ref la₂) σ₂)
    (hz : ls₁.length + ls₂.length ≤ 100) (q : ∀ la σ₃, Gives P C σ x dx h₂ (ls₁ ++ ls₂) (.ref la) σ₃ → Q (.ref la) m σ₃) : W c (binaryOp .Add (.ref la₁) (.ref la₂)) m σ₂ Q X := by
  obtain ⟨_, as, k, e, f1, f2, f3, ⟨k1, fx, fd⟩, f5⟩ := G₁
  cases e
  obtain ⟨_, as', k', e, g1, g2, g3, ⟨k2, gx, gd⟩, g5⟩ := G₂
  cases e
  have l1 : σ₂ la₁ = some (lstO (as.map .ref) k) := g5 _ _ f2 (lst_ne f2 fd)
  refine add_lists l1 g2 ?_ fun la hf => q la _ ?_
  · rw [List.length_map, List.length_map, f3.len, g3.len, sizeLine_eq]; omega
  · have s3 := sub_upd (o := lstO (as.map .ref ++ as'.map .ref) 0) hf
    refine ⟨la, as ++ as', 0, rfl, ?_, by rw [List.map_append]; exact upd_same, ?_, ⟨k2, s3 _ _ gx, s3 _ _ gd⟩, ?_⟩
    · have n1 : la ≠ dx := fun e => by rw [e, gd] at hf; cases hf
      exact (f5.trans g5).none hf n1
    · exact ((f3.tups fd g5).append g3).mono fun a l r => r.sub s3
    · exact (f5.trans g5).upd (.inr hf)
end Mine

open PySem PySem.W PySem.Calls PyProof.Rows
namespace Mine
/-- where a ring lies -/
structure RL where
  r : Addr
  dR : Addr
  lh : Addr
  lr : Addr
  xs : List Addr
  dxs : List Addr
def RL.D (L : RL) (a : Addr) : Prop := a = L.dR ∨ a = L.lr ∨ a ∈ L.dxs
structure RingAt (P : Params) (CH CR : Addr) (L : RL) (σ : Store) (R : Rng) : Prop where
  top : σ L.r = some (instObj CR L.dR)
  dict : ∃ k, σ L.dR = some (dictOf (ringD P k L.lh L.lr R.many) 3)
  hl : ∃ k, σ L.lh = some (lstO (L.xs.map .ref) k)
  road : ∃ ms k, σ L.lr = some (lstO (ms.map .ref) k) ∧ All2 (MailAt σ) ms R.road
  lenx : L.xs.length = R.hands.length
  lend : L.dxs.length = R.hands.length
  hand : ∀ (i : Nat) (x dx : Addr) (h : Hnd), L.xs[i]? = some x → L.dxs[i]? = some dx → R.hands[i]? = some h → HandAt P CH σ x dx h
  nd : (L.dR :: L.dxs).Nodup
  ne : L.lr ≠ L.lh
section
variable {P : Params} {CH CR : Addr} {L : RL} {σ σ' : Store} {R : Rng}
theorem RingAt.sub (A : RingAt P CH CR L σ R) (s : Sub σ σ') : RingAt P CH CR L σ' R :=
  ⟨s _ _ A.top, A.dict.imp fun k e => s _ _ e, A.hl.imp fun k e => s _ _ e, let ⟨ms, k, e, a⟩ := A.road; ⟨ms, k, s _ _ e, a.mono fun _ _ r => r.sub s⟩, A.lenx, A.lend, fun i x dx h h1 h2 h3 => (A.hand i x dx h h1 h2 h3).sub s, A.nd, A.ne⟩
theorem RingAt.dxAt (A : RingAt P CH CR L σ R) {dx : Addr} (h : dx ∈ L.dxs) : ∃ es, σ dx = some (dictOf es 7) := by
  obtain ⟨i, hi, e⟩ := List.getElem_of_mem h
  have h3 : i < R.hands.length := A.lend ▸ hi
  have h1 : i < L.xs.length := by rw [A.lenx]; exact h3
  obtain ⟨k, _, hd⟩ := A.hand i L.xs[i] L.dxs[i] R.hands[i] (List.getElem?_eq_getElem h1) (List.getElem?_eq_getElem hi) (List.getElem?_eq_getElem h3)
  rw [e] at hd
  exact ⟨_, hd⟩
/-- an address of another kind, or young, is not among the ring's own -/
theorem RingAt.notD_inst (A : RingAt P CH CR L σ R) {a C dx : Addr} (h : σ a = some (instObj C dx)) : ¬ L.D a := by
  rintro (q | q | q)
  · obtain ⟨k, e⟩ := A.dict; exact inst_ne h e q
  · obtain ⟨ms, k, e, _⟩ := A.road; exact inst_lst h e q
  · obtain ⟨es, e⟩ := A.dxAt q; exact inst_ne h e rfl
theorem RingAt.notD_tup (A : RingAt P CH CR L σ R) {a : Addr} {vs : List Value} (h : σ a = some (tupO vs)) : ¬ L.D a := by
  rintro (q | q | q)
  · obtain ⟨k, e⟩ := A.dict; exact tup_ne h e q
  · obtain ⟨ms, k, e, _⟩ := A.road; exact tup_lst h e q
  · obtain ⟨es, e⟩ := A.dxAt q; exact tup_ne h e rfl
theorem RingAt.notD_lst (A : RingAt P CH CR L σ R) {a : Addr} {vs : List Value} {k : Nat} (h : σ a = some (lstO vs k)) (n : a ≠ L.lr) : ¬ L.D a := by
  rintro (q | q | q)
  · obtain ⟨k, e⟩ := A.dict; exact lst_ne h e q
  · exact n q
  · obtain ⟨es, e⟩ := A.dxAt q; exact lst_ne h e rfl
theorem RingAt.notD_new (A : RingAt P CH CR L σ R) {a : Addr} (h : σ a = none) : ¬ L.D a := by
  rintro (q | q | q)
  · obtain ⟨k, e⟩ := A.dict; rw [← q, h] at e; cases e
  · obtain ⟨ms, k, e, _⟩ := A.road; rw [← q, h] at e; cases e
  · obtain ⟨es, e⟩ := A.dxAt q; rw [h] at e; cases e
theorem RingAt.has (A : RingAt P CH CR L σ R) {a : Addr} (h : L.D a) : σ a ≠ none := fun e => A.notD_new e h
/-- a hand's own turn -/
theorem RingAt.gives (A : RingAt P CH CR L σ R) {p : Nat} {x dx : Addr} {h h' : Hnd} (hx : L.xs[p]? = some x) (hdx : L.dxs[p]? = some dx) (hh : R.hands[p]? = some h) (H : HandAt P CH σ' x dx h') (K : Keep (· = dx) σ σ') :
    RingAt P CH CR L σ' { R with hands := R.hands.set p h' } := by
  have H0 := A.hand p x dx h hx hdx hh
  obtain ⟨k0, hx0, hd0⟩ := H0
  obtain ⟨kd, ed⟩ := A.dict
  obtain ⟨kh, eh⟩ := A.hl
  obtain ⟨ms, kr, er, am⟩ := A.road
  have hmem : dx ∈ L.dxs := List.mem_of_getElem? hdx
  have n1 : L.dR ≠ dx := fun e => (List.nodup_cons.mp A.nd).1 (e ▸ hmem)
  refine ⟨K _ _ A.top (inst_ne A.top hd0), ⟨kd, K _ _ ed n1⟩, ⟨kh, K _ _ eh (lst_ne eh hd0)⟩, ⟨ms, kr, K _ _ er (lst_ne er hd0), am.mono fun a l r => let ⟨t, k, e⟩ := r; ⟨t, k, K a _ e (tup_ne e hd0)⟩⟩, by simpa using A.lenx, by simpa using A.lend, fun i x' dx' g h1 h2 h3 => ?_, A.nd, A.ne⟩
  by_cases hi : i = p
  · subst hi
    rw [hx] at h1; cases h1
    rw [hdx] at h2; cases h2
    have hlt : i < R.hands.length := by
      rcases Nat.lt_or_ge i R.hands.length with q | q
      · exact q
      · rw [List.getElem?_eq_none q] at hh; cases hh
    have e : g = h' := by
      have h3' : (R.hands.set i h')[i]? = some g := h3
      rw [List.getElem?_set_self hlt] at h3'; exact (Option.some.inj h3').symm
    subst e
    exact H
  · have h3' : R.hands[i]? = some g := by
      have h3' : (R.hands.set p h')[i]? = some g := h3
      rwa [List.getElem?_set_ne (Ne.symm hi)] at h3'
    obtain ⟨k2, e1, e2⟩ := A.hand i x' dx' g h1 h2 h3'
    refine ⟨k2, K _ _ e1 (inst_ne e1 hd0), K _ _ e2 fun q => hi ?_⟩
    have nd2 := (List.nodup_cons.mp A.nd).2
    have hi' : i < L.dxs.length := by
      rcases Nat.lt_or_ge i L.dxs.length with z | z
      · exact z
      · rw [List.getElem?_eq_none z] at h2; cases h2
    have hp' : p < L.dxs.length := by
      rcases Nat.lt_or_ge p L.dxs.length with z | z
      · exact z
      · rw [List.getElem?_eq_none z] at hdx; cases hdx
    rw [List.getElem?_eq_getElem hi'] at h2
    rw [List.getElem?_eq_getElem hp'] at hdx
    exact (List.getElem_inj nd2).mp ((Option.some.inj h2).trans (q.trans (Option.some.inj hdx).symm))
theorem RingAt.keepGives (A : RingAt P CH CR L σ R) {p : Nat} {dx : Addr} (hdx : L.dxs[p]? = some dx) (K : Keep (· = dx) σ σ') : Keep L.D σ σ' := K.wide fun a e => .inr (.inr (e ▸ List.mem_of_getElem? hdx))
/-- a mail off the road -/
theorem RingAt.popped (A : RingAt P CH CR L σ R) {ms : List Addr} {kr : Nat} (er : σ L.lr = some (lstO (ms.map .ref) kr)) (am : All2 (MailAt σ) ms R.road) (k k' : Nat) :
    RingAt P CH CR L (upd σ L.lr (lstO ((ms.map .ref).eraseIdx k) k')) { R with road := R.road.eraseIdx k } := by
  obtain ⟨kd, ed⟩ := A.dict
  obtain ⟨kh, eh⟩ := A.hl
  have km : ∀ as ls, All2 (MailAt σ) as ls → All2 (MailAt (upd σ L.lr (lstO ((ms.map .ref).eraseIdx k) k'))) as ls := fun as ls a => a.mono fun b l r => let ⟨t, k, e⟩ := r; ⟨t, k, look_off (tup_lst e er) e⟩
  refine ⟨look_off (inst_lst A.top er) A.top, ⟨kd, look_off (fun q => lst_ne er ed q.symm) ed⟩, ⟨kh, look_off (Ne.symm A.ne) eh⟩, ⟨ms.eraseIdx k, k', ?_, km _ _ (am.erase k)⟩, A.lenx, A.lend, fun i x dx h h1 h2 h3 => ?_, A.nd, A.ne⟩
  · rw [upd_same, map_eraseIdx]
  · obtain ⟨kk, e1, e2⟩ := A.hand i x dx h h1 h2 h3
    exact ⟨kk, look_off (inst_lst e1 er) e1, look_off (fun q => lst_ne er e2 q.symm) e2⟩
/-- a mail more, and its count -/
theorem RingAt.posted (A : RingAt P CH CR L σ R) {ms : List Addr} {kr k' : Nat} {kd : Nat → Tok} {b : Addr} {d : Nat} {l : Ltr} (er : σ L.lr = some (lstO (ms.map .ref) kr)) (am : All2 (MailAt σ) ms R.road) (hb : MailAt σ b (d, l)) :
    RingAt P CH CR L (upd (upd σ L.lr (lstO (ms.map .ref ++ [.ref b]) k')) L.dR (dictOf (ringD P kd L.lh L.lr (R.many + 1)) 3)) { R with road := R.road ++ [(d, l)], many := R.many + 1 } := by
  obtain ⟨kd0, ed⟩ := A.dict
  obtain ⟨kh, eh⟩ := A.hl
  have n1 : L.lr ≠ L.dR := lst_ne er ed
  have tupK : ∀ a vs, σ a = some (tupO vs) → upd (upd σ L.lr (lstO (ms.map .ref ++ [.ref b]) k')) L.dR (dictOf (ringD P kd L.lh L.lr (R.many + 1)) 3) a = some (tupO vs) := fun a vs e => look_off (tup_ne e ed) (look_off (tup_lst e er) e)
  refine ⟨look_off (inst_ne A.top ed) (look_off (inst_lst A.top er) A.top), ⟨kd, upd_same⟩, ⟨kh, look_off (lst_ne eh ed) (look_off (Ne.symm A.ne) eh)⟩, ⟨ms ++ [b], k', ?_, ?_⟩, A.lenx, A.lend, fun i x dx h h1 h2 h3 => ?_, A.nd, A.ne⟩
  · rw [upd_ne n1, upd_same, List.map_append]; rfl
  · refine (am.mono fun a l r => let ⟨t, k, e⟩ := r; ⟨t, k, tupK _ _ e⟩).append (.cons ?_ .nil)
    obtain ⟨t, k, e⟩ := hb
    exact ⟨t, k, tupK _ _ e⟩
  · obtain ⟨kk, e1, e2⟩ := A.hand i x dx h h1 h2 h3
    have hmem : dx ∈ L.dxs := List.mem_of_getElem? h2
    have n2 : dx ≠ L.dR := fun e => (List.nodup_cons.mp A.nd).1 (e ▸ hmem)
    exact ⟨kk, look_off (inst_ne e1 ed) (look_off (inst_lst e1 er) e1), look_off n2 (look_off (fun q => lst_ne er e2 q.symm) e2)⟩
end
theorem u_not {c : Cx} {m : Loc} {σ : Store} {X : Value → Loc → Store → Prop} {Q : Value → Loc → Store → Prop} {v : Value} (h : W c (truthy v) m σ (fun b m' σ' => Q (.bool (!b)) m' σ') X) : W c (unaryOp .Not v) m σ Q X :=
  fun s F S => not_of (h s F S)
theorem w_getappend {c : Cx} {m : Loc} {σ : Store} {X : Value → Loc → Store → Prop} {l : Addr} {vs : List Value} {k : Nat} {pl : Sem Bool} {Q : Value × List Value → Loc → Store → Prop} (hl : σ l = some (lstO vs k)) (h : Q (.builtin "list.append", [.ref l]) m σ) : W c (getMethod (.ref l) (Str.ofString "append") pl) m σ Q X :=
  w_lmeth hl PySem.F.slot_list_append PySem.F.type_list_append h
theorem w_getpop {c : Cx} {m : Loc} {σ : Store} {X : Value → Loc → Store → Prop} {l : Addr} {vs : List Value} {k : Nat} {pl : Sem Bool} {Q : Value × List Value → Loc → Store → Prop} (hl : σ l = some (lstO vs k)) (h : Q (.builtin "list.pop", [.ref l]) m σ) : W c (getMethod (.ref l) (Str.ofString "pop") pl) m σ Q X :=
  w_lmeth hl PySem.F.slot_list_pop PySem.F.type_list_pop h
theorem call_nil {c : Cx} {m : Loc} {σ : Store} {X : Value → Loc → Store → Prop} {Q : Value → Loc → Store → Prop} {f : Value} {vs : List Value} (h : W c (call f vs) m σ Q X) : W c (call f ([] ++ vs)) m σ Q X := h
theorem call_one {c : Cx} {m : Loc} {σ : Store} {X : Value → Loc → Store → Prop} {Q : Value → Loc → Store → Prop} {f x : Value} {vs : List Value} (h : W c (call f (x :: vs)) m σ Q X) : W c (call f ([x] ++ vs)) m σ Q X := h
theorem post_succ {R : Rng} {p j : Nat} {ls : List Ltr} {l : Ltr} (hl : ls[j]? = some l) : R.post p (ls.take (j + 1)) = { R.post p (ls.take j) with road := (R.post p (ls.take j)).road ++ [(dest R.hands.length p l.way, l)], many := (R.post p (ls.take j)).many + 1 } := by
  have e : ls.take (j + 1) = ls.take j ++ [l] := by rw [List.take_succ, hl]; rfl
  unfold Rng.post
  rw [e]
  simp [Nat.add_assoc]
theorem post_road_le {R : Rng} {p : Nat} {ls : List Ltr} : (R.post p ls).road.length = R.road.length + ls.length := by unfold Rng.post; simp
theorem dest_fmod {n p : Nat} (hn : 0 < n) (w : Int) : Int.fmod ((p : Int) + w) (n : Int) = (dest n p w : Int) := by
  unfold dest
  rw [emod_toNat_cast hn, Int.fmod_eq_emod_of_nonneg _ (by omega)]
theorem ev_part {c : Cx} {env : Env} {m : Loc} {σ : Store} {X : Value → Loc → Store → Prop} {Q : Value → Loc → Store → Prop} {e : Expr} (h : W c (eval e env) m σ Q X) : W c (evalPart (some e) env) m σ Q X := h
theorem wake_same {R : Rng} {p : Nat} {h : Hnd} (hh : R.hands[p]? = some h) (hs : h.stage ≠ none) : R.wake p = R := by
  unfold Rng.wake
  rw [hh]
  simp only [wake_awake hs, set_same hh]
  unfold Rng.post
  simp
theorem wake_is {R : Rng} {p : Nat} {h : Hnd} (hh : R.hands[p]? = some h) : R.wake p = ({ R with hands := R.hands.set p h.wake.1 } : Rng).post p h.wake.2 := by unfold Rng.wake; rw [hh]
theorem bring_is {R : Rng} {k p : Nat} {l : Ltr} {h : Hnd} (hk : R.road[k]? = some (p, l)) (hh : R.hands[p]? = some h) : R.bring k = ({ R with hands := R.hands.set p (h.take l).1, road := R.road.eraseIdx k } : Rng).post p (h.take l).2 := by unfold Rng.bring; rw [hk]; simp only; rw [hh]
theorem RingAt.at {P : Params} {CH CR : Addr} {L : RL} {σ : Store} {R : Rng} (A : RingAt P CH CR L σ R) {p : Nat} {h : Hnd} (hh : R.hands[p]? = some h) : ∃ x dx, L.xs[p]? = some x ∧ L.dxs[p]? = some dx ∧ HandAt P CH σ x dx h := by
  have hlt : p < R.hands.length := by
    rcases Nat.lt_or_ge p R.hands.length with q | q
    · exact q
    · rw [List.getElem?_eq_none q] at hh; cases hh
  have h1 : p < L.xs.length := by rw [A.lenx]; exact hlt
  have h2 : p < L.dxs.length := by rw [A.lend]; exact hlt
  exact ⟨_, _, List.getElem?_eq_getElem h1, List.getElem?_eq_getElem h2, A.hand p _ _ h (List.getElem?_eq_getElem h1) (List.getElem?_eq_getElem h2) hh⟩
end Mine

open PySem PySem.W PySem.Calls PyProof.Rows
namespace Mine
theorem put_new {name : Str} {hs : Int} {key v : Value} : ∀ {es : List DictEntry}, getL name es = some none → putL name hs key v es = es ++ [⟨hs, key, v⟩] ∧ es.any (·.key.isStr name) = false
  | [], _ => ⟨rfl, rfl⟩
  | e :: r, h => by
    have hf : (e :: r).find? (·.key.isStr name) = none := by
      cases q : (e :: r).find? (·.key.isStr name) with
      | none => rfl
      | some y => unfold getL at h; rw [q] at h; cases h
    have h1 : e.key.isStr name = false := by
      cases z : e.key.isStr name with
      | false => rfl
      | true => rw [List.find?_cons, z] at hf; cases hf
    have h2 : r.find? (·.key.isStr name) = none := by rw [List.find?_cons, h1] at hf; exact hf
    have h3 : getL name r = some none := by
      unfold getL at h ⊢
      rw [h2]
      rw [hf] at h
      have hno : (e :: r).any (·.refKey) = false := by
        cases q : (e :: r).any (·.refKey) with
        | false => rfl
        | true => simp only [q, if_true] at h; cases h
      rw [List.any_cons] at hno
      rw [(Bool.or_eq_false_iff.mp hno).2]
      rfl
    obtain ⟨a, b⟩ := put_new h3
    refine ⟨?_, by rw [List.any_cons, h1, b]; rfl⟩
    show (if e.key.isStr name = true then _ else e :: putL name hs key v r) = _
    rw [h1, if_neg Bool.false_ne_true, a]
    rfl
theorem set_new {n : Nat} {c : Cx} {m : Loc} {σ : Store} {X : Value → Loc → Store → Prop} {R : Unit → Loc → Store → Prop} {x C dx : Addr} {name : Str} {es : List DictEntry} {k : Nat} {v : Value} (g : Gnd n c) (f : FieldOk c.g.K C name) (hx : σ x = some (instObj C dx)) (hd : σ dx = some (dictOf es k))
    (hn : getL name es = some none) (hz : es.length < 1000) (h : ∀ tk, R () m (upd σ dx (dictOf (es ++ [ent c.g.w.params name tk v]) (k + 1)))) : W c (setAttr (.ref x) name v) m σ R X :=
  w_set g f hx hd (by rw [hn]; rfl) hz fun tk => by
    obtain ⟨a, b⟩ := put_new (hs := PyData.keyHash c.g.w.params name) (key := .str name tk) (v := v) hn
    rw [a]
    unfold putN
    rw [b, if_neg Bool.false_ne_true]
    exact h tk
theorem nofree {c : Cx} {names : List (Str × NameKind)} (h : (names.all fun y => y.2 != .free) = true) : ∀ y ∈ names, y.2 = NameKind.free → ∃ a, c.env.cells.lookup y.1 = some a := fun y hy e => by
  have := List.all_eq_true.mp h y hy
  rw [e] at this
  exact absurd this (by decide)
theorem ints_get {vs : List Value} {ns : List Int} (h : IntsAre vs ns) : ∀ {j : Nat} {v : Value}, vs[j]? = some v → ∃ a t, ns[j]? = some a ∧ v = .int a t := by
  induction h with
  | nil => intro j v e; simp at e
  | cons n t _ ih =>
    intro j v e
    cases j with
    | zero => simp at e; subst e; exact ⟨n, t, rfl, rfl⟩
    | succ j => simpa using ih (by simpa using e)

/-- the hands made so far -/
def HandsTo (P : Params) (C : Addr) (σ₀ : Store) (ns : List Int) (i : Nat) (ys : List Value) (σ : Store) : Prop :=
  ∃ xs dxs : List Addr, ys = xs.map .ref ∧ xs.length = i ∧ dxs.length = i ∧ dxs.Nodup ∧ (∀ (j : Nat) (x dx : Addr) (a : Int), xs[j]? = some x → dxs[j]? = some dx → ns[j]? = some a → HandAt P C σ x dx { num := a }) ∧ ∀ d ∈ dxs, σ₀ d = none
theorem HandsTo.mono {P : Params} {C : Addr} {σ₀ : Store} {ns : List Int} {i : Nat} {ys : List Value} {τ τ' : Store} (s : Sub τ τ') (h : HandsTo P C σ₀ ns i ys τ) : HandsTo P C σ₀ ns i ys τ' := by
  obtain ⟨xs, dxs, h1, h2, h3, h4, h5, h6⟩ := h
  exact ⟨xs, dxs, h1, h2, h3, h4, fun j x dx a e1 e2 e3 => (h5 j x dx a e1 e2 e3).sub s, h6⟩
theorem HandsTo.succ {P : Params} {C : Addr} {σ₀ : Store} {ns : List Int} {i : Nat} {ys : List Value} {τ τ' : Store} {x dx : Addr} {a : Int} (h : HandsTo P C σ₀ ns i ys τ) (s : Sub τ τ') (hi : i < ns.length) (ha : ns[i]? = some a) (hx : τ dx = none) (s0 : Sub σ₀ τ) (H : HandAt P C τ' x dx { num := a }) :
    HandsTo P C σ₀ ns (i + 1) (ys ++ [.ref x]) τ' := by
  obtain ⟨xs, dxs, rfl, h2, h3, h4, h5, h6⟩ := h
  have no : ∀ d ∈ dxs, d ≠ dx := fun d hd q => by
    obtain ⟨j, hj, e⟩ := List.getElem_of_mem hd
    have j1 : j < xs.length := by omega
    have j2 : j < ns.length := by omega
    obtain ⟨_, _, e2⟩ := h5 j xs[j] dxs[j] ns[j] (List.getElem?_eq_getElem j1) (List.getElem?_eq_getElem hj) (List.getElem?_eq_getElem j2)
    rw [e, q, hx] at e2; cases e2
  refine ⟨xs ++ [x], dxs ++ [dx], by rw [List.map_append]; rfl, by simp [h2], by simp [h3], ?_, fun j x' dx' a' e1 e2 e3 => ?_, fun d hd => ?_⟩
  · rw [List.nodup_append]
    refine ⟨h4, by simp, fun p hp q hq => ?_⟩
    rw [List.mem_singleton.mp hq]
    exact no p hp
  · rcases Nat.lt_or_ge j i with q | q
    · rw [List.getElem?_append_left (by omega)] at e1 e2
      exact (h5 j x' dx' a' e1 e2 e3).sub s
    · have : j = i := by
        rcases Nat.lt_or_ge i j with z | z
        · rw [List.getElem?_eq_none (by simp; omega)] at e1; cases e1
        · omega
      subst this
      rw [List.getElem?_append_right (by omega)] at e1 e2
      simp [h2] at e1
      simp [h3] at e2
      subst e1 e2
      rw [ha] at e3; cases e3
      exact H
  · rcases List.mem_append.mp hd with q | q
    · exact h6 d q
    · rw [List.mem_singleton.mp q]
      cases z : σ₀ dx with
      | none => rfl
      | some o => rw [s0 dx o z] at hx; cases hx
end Mine

open PySem PySem.W PySem.Calls PyProof.Rows
namespace Mine
/-! ## names of a frame with cells -/
section
variable {n : Nat} {c : Cx} {sc scope : Scope} {m : Loc} {σ : Store} {X : Value → Loc → Store → Prop} {x : Str} {pos : Pos} {v : Value}
theorem cell_has (hs : c.env.scope = sc) (hc : c.env.cells = cellsFrom (c.env.locals + 1) sc.names []) (hx : sc.names.lookup x = some .cell) : ∃ a, c.env.cells.lookup x = some a := by
  rw [hc]; exact Option.isSome_iff_exists.mp (cellsFrom_some _ _ _ (.inl hx))
theorem cell_no {k : NameKind} (hc : c.env.cells = cellsFrom (c.env.locals + 1) sc.names []) (hx : sc.names.lookup x = some k) (hk : k ≠ .cell) (nd : (sc.names.map (·.1)).Nodup) : c.env.cells.lookup x = none := by
  rw [hc]
  cases e : (cellsFrom (c.env.locals + 1) sc.names []).lookup x with
  | none => rfl
  | some a =>
    rcases cf_kind sc.names (c.env.locals + 1) [] (x, a) (mem_of_look e) with q | q
    · cases q
    · rw [look_mem_nodup nd q] at hx; exact absurd (Option.some.inj hx).symm hk
theorem n_cell {Q : Value → Loc → Store → Prop} (g : Gnd n c) (hs : c.env.scope = sc) (hc : c.env.cells = cellsFrom (c.env.locals + 1) sc.names []) (hx : sc.names.lookup x = some .cell) (hd : (x == ("__debug__" : Str)) = false) (hv : m x = some v) (h : Q v m σ) :
    W c (eval (.Name x pos) c.env) m σ Q X := let ⟨_, ha⟩ := cell_has hs hc hx; w_cell g.knd (kind_is hs hx) ha hd hv h
theorem n_setcell {Q : Unit → Loc → Store → Prop} (g : Gnd n c) (hs : c.env.scope = sc) (hc : c.env.cells = cellsFrom (c.env.locals + 1) sc.names []) (hx : sc.names.lookup x = some .cell) (h : Q () (setM m x v) σ) : W c (storeName c.env x v) m σ Q X :=
  let ⟨_, ha⟩ := cell_has hs hc hx; w_store_cell g.knd (kind_is hs hx) ha h
theorem n_localC {Q : Value → Loc → Store → Prop} (g : Gnd n c) (hs : c.env.scope = sc) (hc : c.env.cells = cellsFrom (c.env.locals + 1) sc.names []) (nd : (sc.names.map (·.1)).Nodup) (hx : sc.names.lookup x = some .local) (hd : (x == ("__debug__" : Str)) = false) (hv : m x = some v) (h : Q v m σ) :
    W c (eval (.Name x pos) c.env) m σ Q X := w_local g.knd (kind_is hs hx) (cell_no hc hx (fun q => nomatch q) nd) hd hv h
theorem n_storeC {Q : Unit → Loc → Store → Prop} (g : Gnd n c) (hs : c.env.scope = sc) (hc : c.env.cells = cellsFrom (c.env.locals + 1) sc.names []) (nd : (sc.names.map (·.1)).Nodup) (hx : sc.names.lookup x = some .local) (h : Q () (setM m x v) σ) : W c (storeName c.env x v) m σ Q X :=
  w_store g.knd (kind_is hs hx) (cell_no hc hx (fun q => nomatch q) nd) h
theorem cn_cellC {e : Env} {C : Addr} {Q : Value → Loc → Store → Prop} (E : CompEnv c scope e C) (hs : c.env.scope = sc) (hc : c.env.cells = cellsFrom (c.env.locals + 1) sc.names []) (hx : scope.names.lookup x = some .free) (hk : sc.names.lookup x = some .cell) (hd : (x == ("__debug__" : Str)) = false) (hv : m x = some v) (h : Q v m σ) :
    W c (eval (.Name x pos) e) m σ Q X := let ⟨_, ha⟩ := cell_has hs hc hk; cn_cell E hx (kind_is hs hk) ha hd hv h
theorem allfree (hs : c.env.scope = sc) (hc : c.env.cells = cellsFrom (c.env.locals + 1) sc.names []) {names : List (Str × NameKind)} (h : (names.all fun y => y.2 != .free || sc.names.lookup y.1 == some .cell) = true) : ∀ y ∈ names, y.2 = NameKind.free → ∃ a, c.env.cells.lookup y.1 = some a := fun y hy e => by
  have := List.all_eq_true.mp h y hy
  rw [e] at this
  exact cell_has hs hc (eq_of_beq (Bool.or_eq_true_iff.mp this |>.resolve_left (by decide)))
end

/-- the body of a def with cells that raises nothing -/
theorem fn_bodyC {n : Nat} {σ : Store} {g : Pg} {f : Addr} {args : List Value} {Q : Value → Store → Prop} {name qual : Str} {params : Arguments} {body : List Stmt} {scope : Scope} {dV kV doc pm cdv ct oc : Value} {an od : Option Addr} {osl : Array (Option Value)} (binds : List (Str × Value))
    (ho : g.K.lookup f = some ⟨oc, od, .func (fnX name qual params body scope [] dV kV doc pm an cdv ct), osl⟩) (hcd : codeIn g.K cdv qual = true)
    (hb : bindArgs (fnX name qual params body scope [] dV kV doc pm an cdv ct) ⟨args, []⟩ = pure binds) (hkind : (binds.all fun y => scope.names.lookup y.1 == some .local || scope.names.lookup y.1 == some .cell) = true)
    (hnd : (scope.names.map (·.1)).Nodup)
    (hco : scope.isCoroutine = false) (hgen : scope.isGenerator = false) (hk : scope.kind = .function)
    (h : ∀ (c : Cx) (m : Loc), c.g = g → Gnd n c → c.env.scope = scope → c.env.cells = cellsFrom (c.env.locals + 1) scope.names [] → (scope.names.map (·.1)).Nodup → interactive c.env = false → (∀ y, m y = binds.reverse.lookup y) → W c (execs body c.env) m σ (fun fl _ σ' => Q (match fl with | .ret v => v | _ => .none) σ') NoX) :
    Fn g (n + 1) (.ref f) args σ Q NoE :=
  fn_of_bodyC ho hcd hb hkind hnd hco hgen hk fun c h1 h2 h3 h4 => (h c _ h1 h2 h3 h4 hnd (by unfold interactive; rw [h3, hk]; rfl) fun _ => rfl).mono (fun _ _ _ q => q) fun _ _ _ q => q.elim

/-! ## a ring at work -/
structure Going (P : Params) (CH CR : Addr) (L : RL) (nums : List Int) (R : Rng) (σ : Store) : Prop where
  A : RingAt P CH CR L σ R
  G : Good nums R
  cnt : R.road.length ≤ R.many
theorem bnd_le : ∀ n, n ≤ 64 → bnd n ≤ 100000 := by
  intro n h
  have : ∀ k : Fin 65, bnd k.val ≤ 100000 := by decide +kernel
  exact this ⟨n, by omega⟩
section
variable {P : Params} {CH CR : Addr} {L : RL} {nums : List Int} {R : Rng} {σ σ' : Store}
theorem Going.road (H : Going P CH CR L nums R σ) (h : nums.length ≤ 64) : R.road.length ≤ 100000 := Nat.le_trans H.cnt (Nat.le_trans (H.G.bound h) (bnd_le _ h))
theorem Going.lenx (H : Going P CH CR L nums R σ) : L.xs.length = nums.length := H.A.lenx.trans H.G.len
end
theorem fmod_nat {n : Nat} (hn : 0 < n) (z : Int) : ∃ j : Nat, z.fmod (n : Int) = (j : Int) ∧ j < n := by
  have h1 := Int.fmod_nonneg_of_pos z (show (0 : Int) < (n : Int) by omega)
  have h2 := Int.fmod_lt_of_pos z (show (0 : Int) < (n : Int) by omega)
  exact ⟨(z.fmod n).toNat, by omega, by omega⟩
section
variable {P : Params} {CH CR : Addr} {L : RL} {nums : List Int} {R : Rng} {σ σ' : Store}
theorem Going.mail (H : Going P CH CR L nums R σ) {k : Nat} (hk : k < R.road.length) : ∃ d l h, R.road[k]? = some (d, l) ∧ R.hands[d]? = some h := by
  obtain ⟨h, e, _⟩ := H.G.mail (k := k) (p := (R.road[k]).1) (l := (R.road[k]).2) (List.getElem?_eq_getElem hk)
  exact ⟨_, _, h, List.getElem?_eq_getElem hk, e⟩
end
end Mine

open PySem PySem.W PySem.Calls PyProof.Rows
namespace Mine
theorem x_if_cut {c : Cx} {env : Env} {m : Loc} {σ : Store} {X : Value → Loc → Store → Prop} {Q : Flow → Loc → Store → Prop} {test : Expr} {body orelse rest : List Stmt} {pos : Pos} (J : Loc → Store → Prop)
    (h : W c (isTrue test env (eval test env)) m σ (fun b m' σ' => Br b (W c (execs body env) m' σ' (fun f m₂ σ₂ => match f with | .next => J m₂ σ₂ | f => Q f m₂ σ₂) X) (W c (execs orelse env) m' σ' (fun f m₂ σ₂ => match f with | .next => J m₂ σ₂ | f => Q f m₂ σ₂) X)) X)
    (hr : ∀ m σ, J m σ → W c (execs rest env) m σ Q X) : W c (execs (.If test body orelse pos :: rest) env) m σ Q X := by
  refine w_execs_cons (w_if (h.mono (fun b m' σ' q => ?_) fun _ _ _ q => q))
  cases b with
  | true => exact (q.1 rfl).mono (fun f m₂ σ₂ z => by
      cases f with
      | next => exact hr _ _ z
      | brk => exact z
      | cont => exact z
      | ret v => exact z) fun _ _ _ q => q
  | false => exact (q.2 rfl).mono (fun f m₂ σ₂ z => by
      cases f with
      | next => exact hr _ _ z
      | brk => exact z
      | cont => exact z
      | ret v => exact z) fun _ _ _ q => q

/-- a list of numbers for a ring -/
structure Fit (nums : List Int) : Prop where
  pos : 1 ≤ nums.length
  most : nums.length ≤ 64
  nn : ∀ a ∈ nums, 0 ≤ a
  nd : nums.Nodup
theorem fit_of {n : Nat} {f : Nat → Int} (h1 : 1 ≤ n) (h2 : n ≤ 64) (h3 : ∀ k, k < n → 0 ≤ f k) (h4 : ∀ j k, j < k → k < n → f j ≠ f k) : Fit ((List.range n).map f) := by
  refine ⟨by simpa using h1, by simpa using h2, fun a ha => ?_, ?_⟩
  · obtain ⟨k, hk, rfl⟩ := List.mem_map.mp ha
    exact h3 k (List.mem_range.mp hk)
  · rw [List.nodup_iff_pairwise_ne, List.pairwise_map]
    refine (List.pairwise_lt_range (n := n)).imp_of_mem fun {a b} ha hb hab => h4 a b hab (List.mem_range.mp hb)
theorem fmod_pos_eq {a n : Int} (h : 0 < n) : a.fmod n = a % n := Int.fmod_eq_emod_of_nonneg _ (by omega)
theorem shift_inj {n s : Int} (hn : 0 < n) {j k : Nat} (hjk : j < k) (hk : (k : Int) < n) : ((j : Int) + s).fmod n ≠ ((k : Int) + s).fmod n := by
  rw [fmod_pos_eq hn, fmod_pos_eq hn]
  intro e
  have e2 := Int.emod_emod_of_dvd ((k : Int) + s - ((j : Int) + s)) (Int.dvd_refl n)
  have : ((k : Int) + s - ((j : Int) + s)) % n = 0 := Int.emod_eq_emod_iff_emod_sub_eq_zero.mp e.symm
  rw [show (k : Int) + s - ((j : Int) + s) = (k : Int) - j by omega, Int.emod_eq_of_lt (by omega) (by omega)] at this
  omega
theorem nums1 {n : Nat} {s w : Int} (h1 : 1 ≤ n) (h2 : n ≤ 64) (hw : 0 < w) : Fit ((List.range n).map fun k : Nat => ((k : Int) + s).fmod (n : Int) * w) := by
  refine fit_of h1 h2 (fun k _ => Int.mul_nonneg (Int.fmod_nonneg_of_pos _ (by omega)) (by omega)) fun j k hjk hk e => ?_
  exact shift_inj (n := (n : Int)) (s := s) (by omega) hjk (by omega) (Int.eq_of_mul_eq_mul_right (by omega) e)
theorem nums2 {n : Nat} {s w : Int} (h1 : 1 ≤ n) (h2 : n ≤ 64) (hw : 0 < w) : Fit ((List.range n).map fun k : Nat => ((n : Int) - 1 - ((k : Int) + s).fmod (n : Int)) * w) := by
  refine fit_of h1 h2 (fun k _ => Int.mul_nonneg ?_ (by omega)) fun j k hjk hk e => ?_
  · have := Int.fmod_lt_of_pos ((k : Int) + s) (show (0 : Int) < n by omega)
    omega
  · have e2 := Int.eq_of_mul_eq_mul_right (by omega) e
    exact shift_inj (n := (n : Int)) (s := s) (by omega) hjk (by omega) (by omega)
theorem nums3 {n : Nat} {g : Nat → Int} {w : Int} (h1 : 1 ≤ n) (h2 : n ≤ 64) (hw : 0 < w) : Fit ((List.range n).map fun k : Nat => (g k).fmod w * 64 + (k : Int)) := by
  refine fit_of h1 h2 (fun k _ => ?_) fun j k hjk hk e => ?_
  · have := Int.fmod_nonneg_of_pos (g k) hw
    omega
  · omega
theorem ints_snoc {vs : List Value} {ns : List Int} (h : IntsAre vs ns) (a : Int) (t : Tok) : IntsAre (vs ++ [.int a t]) (ns ++ [a]) := by
  induction h with
  | nil => exact .cons a t .nil
  | cons n u _ ih => exact .cons n u ih
theorem ints_next {ys : List Value} {i : Nat} {f : Nat → Int} (h : IntsAre ys ((List.range i).map f)) {a : Int} {t : Tok} (e : a = f i) : IntsAre (ys ++ [.int a t]) ((List.range (i + 1)).map f) := by
  rw [List.range_succ, List.map_append, e]
  exact ints_snoc h _ _
end Mine

open PySem PySem.W PySem.Calls PyProof.Rows
namespace Mine
theorem ints_drop {vs : List Value} {ns : List Int} (h : IntsAre vs ns) : ∀ k : Nat, IntsAre (vs.drop k) (ns.drop k) := by
  induction h with
  | nil => intro k; simp; exact .nil
  | cons n t h ih =>
    intro k
    cases k with
    | zero => exact .cons n t h
    | succ k => exact ih k
end Mine

open PySem PySem.W PySem.Calls PyProof.Rows
namespace Mine
end Mine

open PySem PySem.W PySem.Calls PyProof.Rows
namespace Mine
theorem raised {C e t : Addr} {σ₀ σ : Store} {v : Value} {m : Loc} (sb : Sub σ₀ σ) (he : σ e = none) (ht : σ t = none) (hte : t ≠ e) : ThrB C σ₀ (.ref e) m (upd (upd σ t (tupO [v])) e (excO C t)) := by
  refine .inr ⟨e, t, [v], rfl, ?_, upd_same, by rw [upd_ne hte]; exact upd_same, (sb.trans (sub_upd ht)).trans (sub_upd (by rw [upd_ne (Ne.symm hte)]; exact he))⟩
  cases q : σ₀ e with
  | none => rfl
  | some o => rw [sb _ _ q] at he; cases he
end Mine

open PySem PySem.W PySem.Calls PyProof.Rows
namespace Mine
end Mine
namespace Mine
end Mine
namespace Mine
end Mine

open PySem PySem.W PySem.Calls PyProof.Rows
namespace Mine
section
variable {n : Nat} {c : Cx} {m : Loc} {σ : Store} {X : Value → Loc → Store → Prop} {Q : Value → Loc → Store → Prop}
theorem w_getclear {l : Addr} {vs : List Value} {k : Nat} {pl : Sem Bool} {Q : Value × List Value → Loc → Store → Prop} (hl : σ l = some (lstO vs k)) (h : Q (.builtin "list.clear", [.ref l]) m σ) : W c (getMethod (.ref l) (Str.ofString "clear") pl) m σ Q X :=
  w_lmeth hl PySem.F.slot_list_clear PySem.F.type_list_clear h
end
end Mine

open PySem PySem.W PySem.Calls PyProof.Rows
namespace Mine
section
variable {n : Nat} {c : Cx} {m : Loc} {σ : Store} {X : Value → Loc → Store → Prop} {Q : Value → Loc → Store → Prop}
theorem isTuple_of {h : Heap} {l : Addr} {vs : List Value} (S : Sto c h σ) (e : σ l = some (tupO vs)) : h.IsTuple l vs.toArray := ⟨_, (S l _ e).1, rfl, 0, rfl⟩
theorem isi_tup {l : Addr} {vs : List Value} (hl : σ l = some (tupO vs)) (h : Q (.bool true) m σ) : W c (call (.builtin "isinstance") [.ref l, .type "tuple"]) m σ Q X := fun _ F S => IsiPair.tuple_tuple (S l _ hl).1 rfl (After.here F S h)
theorem isi_str_int {x : Str} {t : Tok} (h : Q (.bool false) m σ) : W c (call (.builtin "isinstance") [.str x t, .type "int"]) m σ Q X := fun _ F S => IsiPair.str_int (After.tok F S h)
theorem isi_str_str {x : Str} {t : Tok} (h : Q (.bool true) m σ) : W c (call (.builtin "isinstance") [.str x t, .type "str"]) m σ Q X := fun _ F S => IsiPair.str_str (After.here F S h)
theorem turns_tup {x : Str} {tp : Pos} {body : List Stmt} {l : Addr} {vs : List Value} {Q : Flow → Loc → Store → Prop} (g : Gnd n c) (hx : c.env.kindOf x = some .local) (hxc : c.env.cells.lookup x = none) (J : Nat → Loc → Store → Prop)
    (hl : ∀ i m σ, J i m σ → σ l = some (tupO vs)) (h0 : J 0 m σ)
    (turn : ∀ j v m' σ', vs[j]? = some v → J j m' σ' → Turn c x body Q (J (j + 1)) v m' σ')
    (done : ∀ m' σ', J vs.length m' σ' → Q .next m' σ') : Turns c x tp body (.ref l) m σ Q := by
  refine turns_walk (N := vs.length) (P := fun j v => vs.toArray[j]? = some v) g hx hxc J (fun I => [I, l]) (fun I j h => h.IsTupleIter I l j ∧ h.IsTuple l vs.toArray) ?_ ?_ ?_ h0 ?_ done
  · intro s F S
    have hls := isTuple_of S (hl _ _ _ h0)
    have hne : l ≠ s.heap.objs.size := Nat.ne_of_lt (S.lt (hl _ _ _ h0))
    have Wk := Walks.tuple (prog := c.g.prog) (w := c.g.w) g.hh s.heap.objs.size l hne vs.toArray
    rw [List.size_toArray] at Wk
    exact ⟨{ cls := .type "tuple_iterator", data := .fields #[.ref l, .int 0 0] }, rfl, Wk, ⟨⟨_, Heap.get?_push_size _ rfl, rfl, rfl⟩, hls.at fun o e => Heap.get?_push_of_some _ e⟩, fun Q' E' hq => wpAny_pyIter_tuple hls hq⟩
  · rintro I j h ⟨⟨o, ho, _⟩, _⟩; rw [ho]; rfl
  · intro I b hb hne
    rcases List.mem_cons.mp hb with q | q
    · exact absurd q hne
    · rw [List.mem_singleton.mp q]; exact ⟨_, fun i m σ q => .inr (hl i m σ q)⟩
  · intro j v m' σ' _ hP hJ
    exact turn j v m' σ' (by simpa using hP) hJ
theorem eqAt_int {A : Around} {s : Shared} (a : Int) (t u : Tok) : PySem.SeqAt.EqAt A s (.int a t) (.int a u) true := by
  have := PySem.SeqAt.EqAt.int_int (A := A) (s := s) a t a u
  rwa [beq_self_eq_true] at this
theorem eqAt_str {A : Around} {s : Shared} (a : Str) (t u : Tok) : PySem.SeqAt.EqAt A s (.str a t) (.str a u) true := by
  have := PySem.SeqAt.EqAt.str_str (A := A) (s := s) a t a u
  rwa [beq_self_eq_true] at this
theorem eqAt_mail {A : Around} {s : Shared} {a b : Addr} {p : Nat × Ltr} (hu : A.units < cLine) (h1 : MailAt σ a p) (h2 : MailAt σ b p) (S : Sto c s.heap σ) : PySem.SeqAt.EqAt A s (.ref a) (.ref b) true := by
  by_cases e : a = b
  · subst e; exact PySem.SeqAt.EqAt.same _
  · obtain ⟨t, k, e1⟩ := h1
    obtain ⟨u, j, e2⟩ := h2
    refine PySem.SeqAt.EqAt.of_refs e ?_
    have := PySem.SeqAt.RcAt.tuples (A := A) (e := fun _ => true) (isTuple_of S e1) (isTuple_of S e2) hu (fun i h1 h2 => ?_)
    · exact this
    · match i, h1, h2 with
      | 0, _, _ => exact eqAt_int _ _ _
      | 1, _, _ => exact eqAt_int _ _ _
      | 2, _, _ => exact eqAt_str _ _ _
      | 3, _, _ => exact eqAt_int _ _ _
      | 4, _, _ => exact eqAt_int _ _ _
      | 5, _, _ => exact eqAt_int _ _ _
theorem eq_mails {l₁ l₂ : Addr} {as bs : List Addr} {ps : List (Nat × Ltr)} {k₁ k₂ : Nat} (g : Gnd n c) (h1 : σ l₁ = some (lstO (as.map .ref) k₁)) (h2 : σ l₂ = some (lstO (bs.map .ref) k₂)) (a1 : All2 (MailAt σ) as ps) (a2 : All2 (MailAt σ) bs ps)
    (h : Q (.bool true) m σ) : W c (compareOp .Eq (.ref l₁) (.ref l₂)) m σ Q X := fun s F S => by
  have hu : c.A.units + 1 < cLine := by have := g.un; omega
  refine PySem.SeqAt.eq_listAt (e := fun _ => true) (isList_of S h1) (isList_of S h2) ?_ (by omega) (fun j q1 q2 => ?_) (After.here F S ?_)
  · rw [List.size_toArray, List.size_toArray, List.length_map, List.length_map, a1.len, a2.len]
  · rw [List.getElem_toArray, List.getElem_toArray, List.getElem_map, List.getElem_map]
    have l1 : j < as.length := by simpa using q1
    have l2 : j < bs.length := by simpa using q2
    obtain ⟨p, hp, r1⟩ := a1.get' (List.getElem?_eq_getElem l1)
    obtain ⟨p', hp', r2⟩ := a2.get' (List.getElem?_eq_getElem l2)
    rw [hp] at hp'; cases hp'
    exact eqAt_mail (by show c.A.units + 1 < cLine; exact hu) r1 r2 S
  · rw [show (List.range (as.map Value.ref).toArray.size).all (fun _ => true) = true from List.all_eq_true.mpr fun _ _ => rfl]
    exact h
end
end Mine

open PySem PySem.W PySem.Calls PyProof.Rows
namespace Mine
section
variable {n : Nat} {c : Cx} {env : Env} {m : Loc} {σ : Store} {X : Value → Loc → Store → Prop} {Q : Value → Loc → Store → Prop}
end
theorem part_kind {p : Nat × Ltr} {t : Tok} {k : Nat → Tok} {j : Nat} {v : Value} (h : (Value.int (p.1 : Int) t :: ltrV p.2 k)[j]? = some v) : (∃ a t, v = .int a t) ∨ ∃ x t, v = .str x t := by
  match j, h with
  | 0, h => cases h; exact .inl ⟨_, _, rfl⟩
  | 1, h => cases h; exact .inl ⟨_, _, rfl⟩
  | 2, h => cases h; exact .inr ⟨_, _, rfl⟩
  | 3, h => cases h; exact .inl ⟨_, _, rfl⟩
  | 4, h => cases h; exact .inl ⟨_, _, rfl⟩
  | 5, h => cases h; exact .inl ⟨_, _, rfl⟩
  | j + 6, h => cases h

/-! ## a ring in which hands were woken, and no mail was brought -/
end Mine

open PySem PySem.W PySem.Calls PyProof.Rows
namespace Mine
section
variable {P : Params} {CH CR : Addr} {L : RL} {nl la lm tl : Addr} {nvs tvs : List Value} {kn : Nat} {σ σ' : Store} {R R' : Rng} {aw : List Int} {ps : List (Nat × Ltr)} {avs : List Value} {ka : Nat} {bs : List Addr} {km : Nat}
end
end Mine

open PySem PySem.W PySem.Calls PyProof.Rows
namespace Mine
theorem DicAt.newer {g : Pg} {σ : Store} {d a : Addr} {o : Obj} {kvs : List (Str × Value)} (ha : σ a = none) (h : DicAt g σ d kvs) : DicAt g (upd σ a o) d kvs := h.off fun q => by
  obtain ⟨o', e, _⟩ := h
  rw [q, ha] at e; cases e
section
variable {n : Nat} {c : Cx} {m : Loc} {σ : Store} {X : Value → Loc → Store → Prop} {Q : Value → Loc → Store → Prop} {s : LSt} {ld lp d : Addr} {k : Nat → Tok} {t : Tok} {value slice : Expr}

variable {R : Unit → Loc → Store → Prop}
end
end Mine

open PySem PySem.W PySem.Calls PyProof.Rows
namespace Mine
section
variable {n : Nat} {c : Cx} {m : Loc} {σ : Store} {X : Value → Loc → Store → Prop} {Q : Value → Loc → Store → Prop}
end
/-- the first seven pairs of the picture -/
def st7 (s : LSt) (k : Nat → Tok) : List (Str × Value) :=
  [((Str.ofString "number"), .int s.num (k 0)), ((Str.ofString "awake"), .bool s.awake), ((Str.ofString "beaten"), .bool s.beaten), ((Str.ofString "first"), .bool s.first), ((Str.ofString "stage"), .int (s.stage : Int) (k 1)), ((Str.ofString "came"), .int (s.came : Int) (k 2)), ((Str.ofString "known"), optI s.known (k 3))]
end Mine

open PySem PySem.W PySem.Calls PyProof.Rows
namespace Mine
def hsD (lh lm : Addr) (n : Int) (t : Tok) : List (Str × Value) := [((Str.ofString "hands"), .ref lh), ((Str.ofString "mails"), .ref lm), ((Str.ofString "sent"), .int n t)]
section
variable {n : Nat} {c : Cx} {m : Loc} {σ : Store} {X : Value → Loc → Store → Prop} {Q : Value → Loc → Store → Prop} {s : LSt} {d lh lm : Addr} {k : Nat → Tok} {t u : Tok} {j : Int} {value slice : Expr}

theorem e_number (hd : DicAt c.g σ d (st7 s k)) (h : Q (.int s.num (k 0)) m σ) (hs : subscripted slice false (.ref d) (.str (Str.ofString "number") t) = operate [.ref d, .str (Str.ofString "number") t] (getItem (.ref d) (.str (Str.ofString "number") t))) : W c (subscriptTail value slice (.ref d) (.str (Str.ofString "number") t)) m σ Q X := w_dget hd rfl h hs
theorem e_awake (hd : DicAt c.g σ d (st7 s k)) (h : Q (.bool s.awake) m σ) (hs : subscripted slice false (.ref d) (.str (Str.ofString "awake") t) = operate [.ref d, .str (Str.ofString "awake") t] (getItem (.ref d) (.str (Str.ofString "awake") t))) : W c (subscriptTail value slice (.ref d) (.str (Str.ofString "awake") t)) m σ Q X := w_dget hd rfl h hs
theorem e_beaten (hd : DicAt c.g σ d (st7 s k)) (h : Q (.bool s.beaten) m σ) (hs : subscripted slice false (.ref d) (.str (Str.ofString "beaten") t) = operate [.ref d, .str (Str.ofString "beaten") t] (getItem (.ref d) (.str (Str.ofString "beaten") t))) : W c (subscriptTail value slice (.ref d) (.str (Str.ofString "beaten") t)) m σ Q X := w_dget hd rfl h hs
theorem e_first (hd : DicAt c.g σ d (st7 s k)) (h : Q (.bool s.first) m σ) (hs : subscripted slice false (.ref d) (.str (Str.ofString "first") t) = operate [.ref d, .str (Str.ofString "first") t] (getItem (.ref d) (.str (Str.ofString "first") t))) : W c (subscriptTail value slice (.ref d) (.str (Str.ofString "first") t)) m σ Q X := w_dget hd rfl h hs
theorem e_stage (hd : DicAt c.g σ d (st7 s k)) (h : Q (.int (s.stage : Int) (k 1)) m σ) (hs : subscripted slice false (.ref d) (.str (Str.ofString "stage") t) = operate [.ref d, .str (Str.ofString "stage") t] (getItem (.ref d) (.str (Str.ofString "stage") t))) : W c (subscriptTail value slice (.ref d) (.str (Str.ofString "stage") t)) m σ Q X := w_dget hd rfl h hs
theorem e_came (hd : DicAt c.g σ d (st7 s k)) (h : Q (.int (s.came : Int) (k 2)) m σ) (hs : subscripted slice false (.ref d) (.str (Str.ofString "came") t) = operate [.ref d, .str (Str.ofString "came") t] (getItem (.ref d) (.str (Str.ofString "came") t))) : W c (subscriptTail value slice (.ref d) (.str (Str.ofString "came") t)) m σ Q X := w_dget hd rfl h hs
theorem e_known (hd : DicAt c.g σ d (st7 s k)) (h : Q (optI s.known (k 3)) m σ) (hs : subscripted slice false (.ref d) (.str (Str.ofString "known") t) = operate [.ref d, .str (Str.ofString "known") t] (getItem (.ref d) (.str (Str.ofString "known") t))) : W c (subscriptTail value slice (.ref d) (.str (Str.ofString "known") t)) m σ Q X := w_dget hd rfl h hs
theorem e_hands (hd : DicAt c.g σ d (hsD lh lm j u)) (h : Q (.ref lh) m σ) (hs : subscripted slice false (.ref d) (.str (Str.ofString "hands") t) = operate [.ref d, .str (Str.ofString "hands") t] (getItem (.ref d) (.str (Str.ofString "hands") t))) : W c (subscriptTail value slice (.ref d) (.str (Str.ofString "hands") t)) m σ Q X := w_dget hd rfl h hs
theorem e_mails (hd : DicAt c.g σ d (hsD lh lm j u)) (h : Q (.ref lm) m σ) (hs : subscripted slice false (.ref d) (.str (Str.ofString "mails") t) = operate [.ref d, .str (Str.ofString "mails") t] (getItem (.ref d) (.str (Str.ofString "mails") t))) : W c (subscriptTail value slice (.ref d) (.str (Str.ofString "mails") t)) m σ Q X := w_dget hd rfl h hs
theorem e_sent (hd : DicAt c.g σ d (hsD lh lm j u)) (h : Q (.int j u) m σ) (hs : subscripted slice false (.ref d) (.str (Str.ofString "sent") t) = operate [.ref d, .str (Str.ofString "sent") t] (getItem (.ref d) (.str (Str.ofString "sent") t))) : W c (subscriptTail value slice (.ref d) (.str (Str.ofString "sent") t)) m σ Q X := w_dget hd rfl h hs
variable {R : Unit → Loc → Store → Prop}
theorem st7_len : (st7 s k).length ≤ sizeLine := by rw [sizeLine_eq]; show 7 ≤ _; omega
theorem hsD_len : (hsD lh lm j u).length ≤ sizeLine := by rw [sizeLine_eq]; show 3 ≤ _; omega
theorem es_awake {b : Bool} (hd : DicAt c.g σ d (st7 s k)) (h : ∀ o', DicAt c.g (upd σ d o') d (st7 { s with awake := b } k) → R () m (upd σ d o')) : W c (setItem (.ref d) (.str (Str.ofString "awake") t) (.bool b)) m σ R X := w_dset hd st7_len fun o' q => h o' (DicAt.new q)
theorem es_beaten {b : Bool} (hd : DicAt c.g σ d (st7 s k)) (h : ∀ o', DicAt c.g (upd σ d o') d (st7 { s with beaten := b } k) → R () m (upd σ d o')) : W c (setItem (.ref d) (.str (Str.ofString "beaten") t) (.bool b)) m σ R X := w_dset hd st7_len fun o' q => h o' (DicAt.new q)
theorem es_first {b : Bool} (hd : DicAt c.g σ d (st7 s k)) (h : ∀ o', DicAt c.g (upd σ d o') d (st7 { s with first := b } k) → R () m (upd σ d o')) : W c (setItem (.ref d) (.str (Str.ofString "first") t) (.bool b)) m σ R X := w_dset hd st7_len fun o' q => h o' (DicAt.new q)
theorem es_stage {a : Nat} {u : Tok} (hd : DicAt c.g σ d (st7 s k)) (h : ∀ o', DicAt c.g (upd σ d o') d (st7 { s with stage := a } (setT k 1 u)) → R () m (upd σ d o')) : W c (setItem (.ref d) (.str (Str.ofString "stage") t) (.int (a : Int) u)) m σ R X := w_dset hd st7_len fun o' q => h o' (DicAt.new q)
theorem es_came {a : Nat} {u : Tok} (hd : DicAt c.g σ d (st7 s k)) (h : ∀ o', DicAt c.g (upd σ d o') d (st7 { s with came := a } (setT k 2 u)) → R () m (upd σ d o')) : W c (setItem (.ref d) (.str (Str.ofString "came") t) (.int (a : Int) u)) m σ R X := w_dset hd st7_len fun o' q => h o' (DicAt.new q)
theorem es_known {a : Int} {u : Tok} (hd : DicAt c.g σ d (st7 s k)) (h : ∀ o', DicAt c.g (upd σ d o') d (st7 { s with known := some a } (setT k 3 u)) → R () m (upd σ d o')) : W c (setItem (.ref d) (.str (Str.ofString "known") t) (.int a u)) m σ R X := w_dset hd st7_len fun o' q => h o' (DicAt.new q)
theorem es_sent {a : Int} {v : Tok} (hd : DicAt c.g σ d (hsD lh lm j u)) (h : ∀ o', DicAt c.g (upd σ d o') d (hsD lh lm a v) → R () m (upd σ d o')) : W c (setItem (.ref d) (.str (Str.ofString "sent") t) (.int a v)) m σ R X := w_dset hd hsD_len fun o' q => h o' (DicAt.new q)
end
theorem dicD_tup {g : Pg} {σ : Store} {d t : Addr} {kvs : List (Str × Value)} {vs : List Value} (hd : DicAt g σ d kvs) (h : σ t = some (tupO vs)) : t ≠ d := fun q => by
  obtain ⟨o, e, _, _, ex, _⟩ := hd
  rw [q, e] at h; cases h
  have := ex.1; injection this with this; exact absurd this (by decide)
theorem dicD_lst {g : Pg} {σ : Store} {d t : Addr} {kvs : List (Str × Value)} {vs : List Value} {n : Nat} (hd : DicAt g σ d kvs) (h : σ t = some (lstO vs n)) : t ≠ d := fun q => by
  obtain ⟨o, e, _, _, ex, _⟩ := hd
  rw [q, e] at h; cases h
  have := ex.1; injection this with this; exact absurd this (by decide)
/-! ## what lies apart from a ring -/
def RL.F (L : RL) (a : Addr) : Prop := a = L.r ∨ a = L.dR ∨ a = L.lh ∨ a = L.lr ∨ a ∈ L.xs ∨ a ∈ L.dxs
section
variable {P : Params} {CH CR : Addr} {L : RL} {σ σ' : Store} {R : Rng}
theorem RingAt.off {D : Addr → Prop} (A : RingAt P CH CR L σ R) (K : Keep D σ σ') (hD : ∀ b, D b → ¬ L.F b) (ht : ∀ b vs, D b → σ b ≠ some (tupO vs)) : RingAt P CH CR L σ' R := by
  refine ⟨K _ _ A.top fun q => hD _ q (.inl rfl), A.dict.imp fun k e => K _ _ e fun q => hD _ q (.inr (.inl rfl)), A.hl.imp fun k e => K _ _ e fun q => hD _ q (.inr (.inr (.inl rfl))), ?_, A.lenx, A.lend, fun i x dx h h1 h2 h3 => ?_, A.nd, A.ne⟩
  · obtain ⟨ms, k, e, a⟩ := A.road
    exact ⟨ms, k, K _ _ e fun q => hD _ q (.inr (.inr (.inr (.inl rfl)))), a.mono fun _ _ r => (let ⟨t, k, e⟩ := r; ⟨t, k, K _ _ e fun q => ht _ _ q e⟩)⟩
  · obtain ⟨k, e1, e2⟩ := A.hand i x dx h h1 h2 h3
    exact ⟨k, K _ _ e1 fun q => hD _ q (.inr (.inr (.inr (.inr (.inl (List.mem_of_getElem? h1)))))), K _ _ e2 fun q => hD _ q (.inr (.inr (.inr (.inr (.inr (List.mem_of_getElem? h2))))))⟩
theorem RingAt.hasF (A : RingAt P CH CR L σ R) {a : Addr} (h : L.F a) : σ a ≠ none := by
  rintro e
  rcases h with rfl | rfl | rfl | rfl | h | h
  · rw [A.top] at e; cases e
  · obtain ⟨k, e'⟩ := A.dict; rw [e'] at e; cases e
  · obtain ⟨k, e'⟩ := A.hl; rw [e'] at e; cases e
  · obtain ⟨ms, k, e', _⟩ := A.road; rw [e'] at e; cases e
  · obtain ⟨i, hi, rfl⟩ := List.getElem_of_mem h
    have h3 : i < R.hands.length := A.lenx ▸ hi
    have h2 : i < L.dxs.length := by rw [A.lend]; exact h3
    obtain ⟨k, e', _⟩ := A.hand i L.xs[i] L.dxs[i] R.hands[i] (List.getElem?_eq_getElem hi) (List.getElem?_eq_getElem h2) (List.getElem?_eq_getElem h3)
    rw [e'] at e; cases e
  · obtain ⟨es, e'⟩ := A.dxAt h; rw [e'] at e; cases e
theorem RL.D_F {a : Addr} (h : L.D a) : L.F a := h.elim (fun q => .inr (.inl q)) fun q => q.elim (fun q => .inr (.inr (.inr (.inl q)))) fun q => .inr (.inr (.inr (.inr (.inr q))))
end
theorem All2.mono' {α β : Type} {R R' : α → β → Prop} {as : List α} {bs : List β} (h : All2 R as bs) (k : ∀ a b, a ∈ as → R a b → R' a b) : All2 R' as bs := by
  induction h with
  | nil => exact .nil
  | cons r _ ih => exact .cons (k _ _ (List.mem_cons_self ..) r) (ih fun a b m => k a b (List.mem_cons_of_mem _ m))
theorem All2.set {α β : Type} {R R' : α → β → Prop} {as : List α} {bs : List β} (h : All2 R as bs) : ∀ {p : Nat} {a : α} {b' : β}, as[p]? = some a → R' a b' → (∀ (i : Nat) (a' : α) (b : β), as[i]? = some a' → i ≠ p → R a' b → R' a' b) → All2 R' as (bs.set p b') := by
  induction h with
  | nil => intro p a b' hp; simp at hp
  | @cons x y as bs r t ih =>
    intro p a b' hp hr k
    cases p with
    | zero =>
      have e : x = a := by simpa using hp
      subst e
      exact .cons hr (t.mono' fun a' b m q => by
        obtain ⟨i, hi, e⟩ := List.getElem_of_mem m
        exact k (i + 1) a' b (by rw [List.getElem?_cons_succ, List.getElem?_eq_getElem hi, e]) (by omega) q)
    | succ p =>
      exact .cons (k 0 x y rfl (by omega) r) (ih (by simpa using hp) hr fun i a' b e n q => k (i + 1) a' b (by simpa using e) (by omega) q)
/-! ## the house -/
structure HouseAt (g : Pg) (σ : Store) (ho lh lm : Addr) (ds : List Addr) (ss : List LSt) (ms : List (Nat × Ltr)) (n : Nat) : Prop where
  dic : ∃ t, DicAt g σ ho (hsD lh lm (n : Int) t)
  hands : ∃ k, σ lh = some (lstO (ds.map .ref) k)
  each : All2 (fun d s => ∃ k, DicAt g σ d (st7 s k)) ds ss
  mails : ∃ bs k, σ lm = some (lstO (bs.map .ref) k) ∧ All2 (MailAt σ) bs ms
  nd : (ho :: ds).Nodup
  ne : lm ≠ lh
/-- what of the house is turned -/
def HD (ho lm : Addr) (ds : List Addr) : Addr → Prop := fun b => b = ho ∨ b = lm ∨ b ∈ ds
section
variable {g : Pg} {σ σ' : Store} {ho lh lm : Addr} {ds : List Addr} {ss : List LSt} {ms : List (Nat × Ltr)} {n : Nat}
theorem HouseAt.sub (H : HouseAt g σ ho lh lm ds ss ms n) (s : Sub σ σ') : HouseAt g σ' ho lh lm ds ss ms n :=
  ⟨H.dic.imp fun _ q => q.sub s, H.hands.imp fun _ q => s _ _ q, H.each.mono fun _ _ q => q.imp fun _ q => q.sub s, let ⟨bs, k, e, a⟩ := H.mails; ⟨bs, k, s _ _ e, a.mono fun _ _ r => r.sub s⟩, H.nd, H.ne⟩
theorem HouseAt.off {D : Addr → Prop} (H : HouseAt g σ ho lh lm ds ss ms n) (K : Keep D σ σ') (h1 : ¬ D ho) (h2 : ¬ D lh) (h3 : ¬ D lm) (h4 : ∀ d ∈ ds, ¬ D d) (ht : ∀ b vs, D b → σ b ≠ some (tupO vs)) : HouseAt g σ' ho lh lm ds ss ms n := by
  refine ⟨let ⟨t, o, e, q⟩ := H.dic; ⟨t, o, K _ _ e h1, q⟩, let ⟨k, e⟩ := H.hands; ⟨k, K _ _ e h2⟩, ?_, let ⟨bs, k, e, a⟩ := H.mails; ⟨bs, k, K _ _ e h3, a.mono fun _ _ r => (let ⟨t, k, e⟩ := r; ⟨t, k, K _ _ e fun q => ht _ _ q e⟩)⟩, H.nd, H.ne⟩
  exact H.each.mono' fun d s hd q => let ⟨k, o, e, r⟩ := q; ⟨k, o, K _ _ e (h4 d hd), r⟩
/-- one hand's picture was turned -/
theorem HouseAt.turn (H : HouseAt g σ ho lh lm ds ss ms n) {p : Nat} {d : Addr} {s' : LSt} {k : Nat → Tok} (hp : ds[p]? = some d) (K : Keep (· = d) σ σ') (hd : DicAt g σ' d (st7 s' k)) : HouseAt g σ' ho lh lm ds (ss.set p s') ms n := by
  obtain ⟨s0, hs0, k0, hd0⟩ := H.each.get' hp
  have hm := List.mem_of_getElem? hp
  have n1 : ho ≠ d := fun q => (List.nodup_cons.mp H.nd).1 (q ▸ hm)
  refine ⟨let ⟨t, o, e, q⟩ := H.dic; ⟨t, o, K _ _ e n1, q⟩, let ⟨k, e⟩ := H.hands; ⟨k, K _ _ e (dicD_lst hd0 e)⟩, ?_, let ⟨bs, k, e, a⟩ := H.mails; ⟨bs, k, K _ _ e (dicD_lst hd0 e), a.mono fun _ _ r => (let ⟨t, k, e⟩ := r; ⟨t, k, K _ _ e (dicD_tup hd0 e)⟩)⟩, H.nd, H.ne⟩
  refine H.each.set hp ⟨k, hd⟩ fun i d' s e n q => ?_
  obtain ⟨k, o, e', r⟩ := q
  refine ⟨k, o, K _ _ e' fun z => n ?_, r⟩
  have nd := (List.nodup_cons.mp H.nd).2
  have hi := (List.getElem?_eq_some_iff.mp e)
  have hj := (List.getElem?_eq_some_iff.mp hp)
  obtain ⟨hi, ei⟩ := hi
  obtain ⟨hj, ej⟩ := hj
  exact (List.getElem_inj nd).mp (by rw [ei, ej]; exact z)
/-- a mail was put -/
theorem HouseAt.post (H : HouseAt g σ ho lh lm ds ss ms n) {bs : List Addr} {b : Addr} {pm : Nat × Ltr} {km k' : Nat} (em : σ lm = some (lstO (bs.map .ref) km)) (am : All2 (MailAt σ) bs ms) (hb : MailAt σ b pm) {o : Obj} {t : Tok} {n' : Nat}
    (hd : DicAt g (upd (upd σ lm (lstO (bs.map .ref ++ [.ref b]) k')) ho o) ho (hsD lh lm (n' : Int) t)) : HouseAt g (upd (upd σ lm (lstO (bs.map .ref ++ [.ref b]) k')) ho o) ho lh lm ds ss (ms ++ [pm]) n' := by
  obtain ⟨t0, hd0⟩ := H.dic
  obtain ⟨kh, eh⟩ := H.hands
  have up : ∀ {b' : Addr} {q : Obj}, σ b' = some q → b' ≠ lm → b' ≠ ho → upd (upd σ lm (lstO (bs.map .ref ++ [.ref b]) k')) ho o b' = some q := fun e n1 n2 => look_off n2 (look_off n1 e)
  refine ⟨⟨t, hd⟩, ⟨kh, up eh (Ne.symm H.ne) (dicD_lst hd0 eh)⟩, H.each.mono' fun d s m q => ?_, ⟨bs ++ [b], k', ?_, ?_⟩, H.nd, H.ne⟩
  · obtain ⟨k, o', e, r⟩ := q
    have n2 : d ≠ ho := fun q => (List.nodup_cons.mp H.nd).1 (q ▸ m)
    exact ⟨k, o', up e (fun z => dicD_lst ⟨o', e, r⟩ em z.symm) n2, r⟩
  · rw [List.map_append]; exact look_off (dicD_lst hd0 em) upd_same
  · exact ((am.append (.cons hb .nil)).mono fun _ _ r => (let ⟨t, k, e⟩ := r; ⟨t, k, up e (tup_lst e em) (dicD_tup hd0 e)⟩))
/-- a mail was taken off -/
theorem HouseAt.popped (H : HouseAt g σ ho lh lm ds ss ms n) {bs : List Addr} {km k' : Nat} (em : σ lm = some (lstO (bs.map .ref) km)) (am : All2 (MailAt σ) bs ms) (j : Nat) : HouseAt g (upd σ lm (lstO ((bs.map .ref).eraseIdx j) k')) ho lh lm ds ss (ms.eraseIdx j) n := by
  obtain ⟨t0, hd0⟩ := H.dic
  obtain ⟨kh, eh⟩ := H.hands
  refine ⟨⟨t0, hd0.off (Ne.symm (dicD_lst hd0 em))⟩, ⟨kh, look_off (Ne.symm H.ne) eh⟩, H.each.mono fun d s q => q.imp fun k q => q.off (Ne.symm (dicD_lst q em)), ⟨bs.eraseIdx j, k', ?_, ?_⟩, H.nd, H.ne⟩
  · rw [← map_eraseIdx]; exact upd_same
  · exact (am.erase j).mono fun _ _ r => (let ⟨t, k, e⟩ := r; ⟨t, k, look_off (tup_lst e em) e⟩)
end
end Mine

open PySem PySem.W PySem.Calls PyProof.Rows
namespace Mine
section
variable {n : Nat} {c : Cx} {m : Loc} {σ : Store} {X : Value → Loc → Store → Prop} {Q : Value → Loc → Store → Prop}
theorem ne_mails {l₁ l₂ : Addr} {as bs : List Addr} {ps : List (Nat × Ltr)} {k₁ k₂ : Nat} (g : Gnd n c) (h1 : σ l₁ = some (lstO (as.map .ref) k₁)) (h2 : σ l₂ = some (lstO (bs.map .ref) k₂)) (a1 : All2 (MailAt σ) as ps) (a2 : All2 (MailAt σ) bs ps)
    (h : Q (.bool false) m σ) : W c (compareOp .NotEq (.ref l₁) (.ref l₂)) m σ Q X := fun s F S => by
  have hu : c.A.units + 1 < cLine := by have := g.un; omega
  refine PySem.SeqAt.RcNeAt.lists (e := fun _ => true) (isList_of S h1) (isList_of S h2) ?_ (by omega) (fun j q1 q2 => ?_) _ _ _ _ (After.here F S ?_)
  · rw [List.size_toArray, List.size_toArray, List.length_map, List.length_map, a1.len, a2.len]
  · rw [List.getElem_toArray, List.getElem_toArray, List.getElem_map, List.getElem_map]
    have l1 : j < as.length := by simpa using q1
    have l2 : j < bs.length := by simpa using q2
    obtain ⟨p, hp, r1⟩ := a1.get' (List.getElem?_eq_getElem l1)
    obtain ⟨p', hp', r2⟩ := a2.get' (List.getElem?_eq_getElem l2)
    rw [hp] at hp'; cases hp'
    exact eqAt_mail (by show c.A.units + 1 < cLine; exact hu) r1 r2 S
  · rw [show (List.range (as.map Value.ref).toArray.size).all (fun _ => true) = true from List.all_eq_true.mpr fun _ _ => rfl]
    exact h
end
/-! ## the pictures of hands, made one by one -/
def DicsTo (g : Pg) (σ₀ : Store) (ns : List Int) (i : Nat) (ys : List Value) (σ : Store) : Prop :=
  ∃ ds : List Addr, ys = ds.map .ref ∧ ds.Nodup ∧ All2 (fun d s => ∃ k, DicAt g σ d (st7 s k)) ds ((ns.take i).map fun x => ({ num := x } : LSt)) ∧ ∀ d ∈ ds, σ₀ d = none
theorem DicsTo.mono {g : Pg} {σ₀ : Store} {ns : List Int} {i : Nat} {ys : List Value} {τ τ' : Store} (s : Sub τ τ') (h : DicsTo g σ₀ ns i ys τ) : DicsTo g σ₀ ns i ys τ' := by
  obtain ⟨ds, h1, h2, h3, h4⟩ := h
  exact ⟨ds, h1, h2, h3.mono fun _ _ q => q.imp fun _ q => q.sub s, h4⟩
theorem DicsTo.succ {g : Pg} {σ₀ : Store} {ns : List Int} {i : Nat} {ys : List Value} {τ τ' : Store} {d : Addr} {a : Int} {k : Nat → Tok} (h : DicsTo g σ₀ ns i ys τ) (s : Sub τ τ') (ha : ns[i]? = some a) (hx : τ d = none) (s0 : Sub σ₀ τ) (hd : DicAt g τ' d (st7 { num := a } k)) :
    DicsTo g σ₀ ns (i + 1) (ys ++ [.ref d]) τ' := by
  obtain ⟨ds, rfl, h2, h3, h4⟩ := h
  have no : ∀ d' ∈ ds, d' ≠ d := fun d' hd' q => by
    obtain ⟨j, hj, e⟩ := List.getElem_of_mem hd'
    obtain ⟨s', _, k', o, e', _⟩ := h3.get' (List.getElem?_eq_getElem hj)
    rw [e, q, hx] at e'; cases e'
  refine ⟨ds ++ [d], by rw [List.map_append]; rfl, ?_, ?_, fun d' hd' => ?_⟩
  · rw [List.nodup_append]
    refine ⟨h2, by simp, fun p hp q hq => ?_⟩
    rw [List.mem_singleton.mp hq]
    exact no p hp
  · rw [List.take_add_one, ha, List.map_append]
    exact (h3.mono fun _ _ q => q.imp fun _ q => q.sub s).append (.cons ⟨k, hd⟩ .nil)
  · rcases List.mem_append.mp hd' with q | q
    · exact h4 d' q
    · rw [List.mem_singleton.mp q]
      cases z : σ₀ d with
      | none => rfl
      | some o => rw [s0 _ _ z] at hx; cases hx
/-! ## what the law holds -/
def PairAt (D : Addr → Prop) (hl : Addr) (σ : Store) (a : Addr) : Prop :=
  ∃ (l1 l2 : Addr) (k1 k2 : Nat) (as bs : List Addr) (ms : List (Nat × Ltr)), σ a = some (tupO [.ref l1, .ref l2]) ∧ σ l1 = some (lstO (as.map .ref) k1) ∧ σ l2 = some (lstO (bs.map .ref) k2) ∧ ¬ D l1 ∧ ¬ D l2 ∧ l1 ≠ hl ∧ l2 ≠ hl ∧ All2 (MailAt σ) as ms ∧ All2 (MailAt σ) bs ms
def HeldAt (D : Addr → Prop) (σ : Store) (hl : Addr) (j : Nat) : Prop :=
  ∃ (as : List Addr) (k : Nat), σ hl = some (lstO (as.map .ref) k) ∧ as.length ≤ j ∧ ¬ D hl ∧ ∀ a ∈ as, PairAt D hl σ a
theorem mails_keep {D : Addr → Prop} {σ σ' : Store} {as : List Addr} {ms : List (Nat × Ltr)} (a : All2 (MailAt σ) as ms) (K : Keep D σ σ') (ht : ∀ b vs, D b → σ b ≠ some (tupO vs)) : All2 (MailAt σ') as ms :=
  a.mono fun _ _ r => (let ⟨t, k, e⟩ := r; ⟨t, k, K _ _ e fun q => ht _ _ q e⟩)
theorem PairAt.keep {D : Addr → Prop} {hl a : Addr} {σ σ' : Store} (h : PairAt D hl σ a) (K : Keep D σ σ') (ht : ∀ b vs, D b → σ b ≠ some (tupO vs)) : PairAt D hl σ' a := by
  obtain ⟨l1, l2, k1, k2, as, bs, ms, e1, e2, e3, e4, e5, e6, e7, e8, e9⟩ := h
  exact ⟨l1, l2, k1, k2, as, bs, ms, K _ _ e1 fun q => ht _ _ q e1, K _ _ e2 e4, K _ _ e3 e5, e4, e5, e6, e7, mails_keep e8 K ht, mails_keep e9 K ht⟩
theorem PairAt.sub {D : Addr → Prop} {hl a : Addr} {σ σ' : Store} (h : PairAt D hl σ a) (s : Sub σ σ') : PairAt D hl σ' a := by
  obtain ⟨l1, l2, k1, k2, as, bs, ms, e1, e2, e3, e4, e5, e6, e7, e8, e9⟩ := h
  exact ⟨l1, l2, k1, k2, as, bs, ms, s _ _ e1, s _ _ e2, s _ _ e3, e4, e5, e6, e7, e8.mono fun _ _ r => r.sub s, e9.mono fun _ _ r => r.sub s⟩
theorem HeldAt.keep {D : Addr → Prop} {hl : Addr} {j : Nat} {σ σ' : Store} (h : HeldAt D σ hl j) (K : Keep D σ σ') (ht : ∀ b vs, D b → σ b ≠ some (tupO vs)) : HeldAt D σ' hl j := by
  obtain ⟨as, k, e1, e2, e3, e4⟩ := h
  exact ⟨as, k, K _ _ e1 e3, e2, e3, fun a ha => (e4 a ha).keep K ht⟩
theorem HeldAt.sub {D : Addr → Prop} {hl : Addr} {j : Nat} {σ σ' : Store} (h : HeldAt D σ hl j) (s : Sub σ σ') : HeldAt D σ' hl j := by
  obtain ⟨as, k, e1, e2, e3, e4⟩ := h
  exact ⟨as, k, s _ _ e1, e2, e3, fun a ha => (e4 a ha).sub s⟩
theorem HeldAt.more {D : Addr → Prop} {hl : Addr} {i j : Nat} {σ : Store} (h : HeldAt D σ hl i) (q : i ≤ j) : HeldAt D σ hl j := by
  obtain ⟨as, k, e1, e2, e3⟩ := h
  exact ⟨as, k, e1, Nat.le_trans e2 q, e3⟩
theorem PairAt.put {D : Addr → Prop} {hl a : Addr} {σ : Store} {vs ws : List Value} {k k' : Nat} (hh : σ hl = some (lstO vs k)) (h : PairAt D hl σ a) : PairAt D hl (upd σ hl (lstO ws k')) a := by
  obtain ⟨l1, l2, k1, k2, as, bs, ms, e1, e2, e3, e4, e5, e6, e7, e8, e9⟩ := h
  have mv : ∀ {as : List Addr} {ms : List (Nat × Ltr)}, All2 (MailAt σ) as ms → All2 (MailAt (upd σ hl (lstO ws k'))) as ms := fun a => a.mono fun _ _ r => (let ⟨t, k, e⟩ := r; ⟨t, k, look_off (tup_lst e hh) e⟩)
  exact ⟨l1, l2, k1, k2, as, bs, ms, look_off (tup_lst e1 hh) e1, look_off e6 e2, look_off e7 e3, e4, e5, e6, e7, mv e8, mv e9⟩
section
variable {n : Nat} {c : Cx} {m : Loc} {σ : Store} {X : Value → Loc → Store → Prop} {Q : Value → Loc → Store → Prop}
theorem kl_clear0 {prog : Program} {w : World} {A : Around} {E : Value → Shared → Prop} {s : Shared} {h₀ : Heap} {L D : Addr} {m : Str → Option Value} {news news' : List (Addr × Obj)} {n : Nat} {Q : Value → Shared → Prop} (F : Fr h₀ L s.heap m) (N : News h₀ L s.heap news) (U : Upd D (listOf #[] n) (listOf #[] n) news news')
    (h : ∀ h', Fr h₀ L h' m → News h₀ L h' news' → Q .none { s with heap := h' }) : wpAny (model prog w) A (call (.builtin "list.clear") [.ref D]) Q E s := by
  obtain ⟨pre, post, rfl, rfl, a, c⟩ := U.split
  have z := N (D, listOf #[] n) (List.mem_append.mpr (.inr (.head _)))
  exact call_meets PySem.F.slot_list_clear ⟨_, z.1, rfl⟩ PySem.F.entry_list_clear (PySem.F.args_list_clear_1 _) (PySem.AutoSeq1.list_clear_list_0 D #[] n (Nat.zero_le _)) ⟨z.1, h _ (F.change (Heap.SameBut.update ..) z.2.1 z.2.2) (kl_turn0 (fun _ => #[]) N a c rfl rfl)⟩
/-- a list emptied, whatever it held -/
theorem w_clearA {l : Addr} {vs : List Value} {k : Nat} (hl : σ l = some (lstO vs k)) (hz : vs.length ≤ sizeLine) (h : ∀ k', Q .none m (upd σ l (lstO [] k'))) : W c (call (.builtin "list.clear") [.ref l]) m σ Q X := by
  cases vs with
  | cons v vs => exact w_clear hl (by simp) hz (h _)
  | nil =>
    intro s F S
    obtain ⟨l', U, back⟩ := turned (o' := lstO [] k) F S hl
    exact kl_clear0 F.F (all_news c s.heap) U fun h' F' N' => After.at (back h' F' N') (h _)
end
end Mine

open PySem PySem.W PySem.Calls PyProof.Rows
namespace Mine
/-! ## what the classes give -/
theorem fo_h_number {g : Pg} (hK : g.K = heap g.w.params) : FieldOk g.K 150 (Str.ofString "number") := ⟨by rw [hK]; k_is, by rw [hK]; k_is, by rw [hK]; k_is, by rw [hK]; k_is, by rw [hK]; k_is⟩
theorem fo_h_at_stage {g : Pg} (hK : g.K = heap g.w.params) : FieldOk g.K 150 (Str.ofString "at_stage") := ⟨by rw [hK]; k_is, by rw [hK]; k_is, by rw [hK]; k_is, by rw [hK]; k_is, by rw [hK]; k_is⟩
theorem fo_h_far {g : Pg} (hK : g.K = heap g.w.params) : FieldOk g.K 150 (Str.ofString "far") := ⟨by rw [hK]; k_is, by rw [hK]; k_is, by rw [hK]; k_is, by rw [hK]; k_is, by rw [hK]; k_is⟩
theorem fo_h_had {g : Pg} (hK : g.K = heap g.w.params) : FieldOk g.K 150 (Str.ofString "had") := ⟨by rw [hK]; k_is, by rw [hK]; k_is, by rw [hK]; k_is, by rw [hK]; k_is, by rw [hK]; k_is⟩
theorem fo_h_lost {g : Pg} (hK : g.K = heap g.w.params) : FieldOk g.K 150 (Str.ofString "lost") := ⟨by rw [hK]; k_is, by rw [hK]; k_is, by rw [hK]; k_is, by rw [hK]; k_is, by rw [hK]; k_is⟩
theorem fo_h_won {g : Pg} (hK : g.K = heap g.w.params) : FieldOk g.K 150 (Str.ofString "won") := ⟨by rw [hK]; k_is, by rw [hK]; k_is, by rw [hK]; k_is, by rw [hK]; k_is, by rw [hK]; k_is⟩
theorem fo_h_greatest {g : Pg} (hK : g.K = heap g.w.params) : FieldOk g.K 150 (Str.ofString "greatest") := ⟨by rw [hK]; k_is, by rw [hK]; k_is, by rw [hK]; k_is, by rw [hK]; k_is, by rw [hK]; k_is⟩
theorem mo_h_two_asks {g : Pg} (hK : g.K = heap g.w.params) : MethOk g.K 150 (Str.ofString "two_asks") 84 := ⟨by rw [hK]; k_is, by rw [hK]; k_is, by rw [hK]; k_is, by rw [hK]; k_is⟩
theorem mo_h_wake {g : Pg} (hK : g.K = heap g.w.params) : MethOk g.K 150 (Str.ofString "wake") 91 := ⟨by rw [hK]; k_is, by rw [hK]; k_is, by rw [hK]; k_is, by rw [hK]; k_is⟩
theorem mo_h_take {g : Pg} (hK : g.K = heap g.w.params) : MethOk g.K 150 (Str.ofString "take") 98 := ⟨by rw [hK]; k_is, by rw [hK]; k_is, by rw [hK]; k_is, by rw [hK]; k_is⟩
theorem mo_h_ask_came {g : Pg} (hK : g.K = heap g.w.params) : MethOk g.K 150 (Str.ofString "ask_came") 105 := ⟨by rw [hK]; k_is, by rw [hK]; k_is, by rw [hK]; k_is, by rw [hK]; k_is⟩
theorem mo_h_answer_came {g : Pg} (hK : g.K = heap g.w.params) : MethOk g.K 150 (Str.ofString "answer_came") 112 := ⟨by rw [hK]; k_is, by rw [hK]; k_is, by rw [hK]; k_is, by rw [hK]; k_is⟩
theorem mo_h_crown_came {g : Pg} (hK : g.K = heap g.w.params) : MethOk g.K 150 (Str.ofString "crown_came") 119 := ⟨by rw [hK]; k_is, by rw [hK]; k_is, by rw [hK]; k_is, by rw [hK]; k_is⟩
theorem mo_h_is_awake {g : Pg} (hK : g.K = heap g.w.params) : MethOk g.K 150 (Str.ofString "is_awake") 126 := ⟨by rw [hK]; k_is, by rw [hK]; k_is, by rw [hK]; k_is, by rw [hK]; k_is⟩
theorem mo_h_is_first {g : Pg} (hK : g.K = heap g.w.params) : MethOk g.K 150 (Str.ofString "is_first") 133 := ⟨by rw [hK]; k_is, by rw [hK]; k_is, by rw [hK]; k_is, by rw [hK]; k_is⟩
theorem mo_h_stage {g : Pg} (hK : g.K = heap g.w.params) : MethOk g.K 150 (Str.ofString "stage") 140 := ⟨by rw [hK]; k_is, by rw [hK]; k_is, by rw [hK]; k_is, by rw [hK]; k_is⟩
theorem mo_h_knows {g : Pg} (hK : g.K = heap g.w.params) : MethOk g.K 150 (Str.ofString "knows") 147 := ⟨by rw [hK]; k_is, by rw [hK]; k_is, by rw [hK]; k_is, by rw [hK]; k_is⟩
theorem fo_r_hands {g : Pg} (hK : g.K = heap g.w.params) : FieldOk g.K 260 (Str.ofString "hands") := ⟨by rw [hK]; k_is, by rw [hK]; k_is, by rw [hK]; k_is, by rw [hK]; k_is, by rw [hK]; k_is⟩
theorem fo_r_road {g : Pg} (hK : g.K = heap g.w.params) : FieldOk g.K 260 (Str.ofString "road") := ⟨by rw [hK]; k_is, by rw [hK]; k_is, by rw [hK]; k_is, by rw [hK]; k_is, by rw [hK]; k_is⟩
theorem fo_r_many {g : Pg} (hK : g.K = heap g.w.params) : FieldOk g.K 260 (Str.ofString "many") := ⟨by rw [hK]; k_is, by rw [hK]; k_is, by rw [hK]; k_is, by rw [hK]; k_is, by rw [hK]; k_is⟩
theorem mo_r_hand_at {g : Pg} (hK : g.K = heap g.w.params) : MethOk g.K 260 (Str.ofString "hand_at") 187 := ⟨by rw [hK]; k_is, by rw [hK]; k_is, by rw [hK]; k_is, by rw [hK]; k_is⟩
theorem mo_r_posted {g : Pg} (hK : g.K = heap g.w.params) : MethOk g.K 260 (Str.ofString "posted") 194 := ⟨by rw [hK]; k_is, by rw [hK]; k_is, by rw [hK]; k_is, by rw [hK]; k_is⟩
theorem mo_r_wake {g : Pg} (hK : g.K = heap g.w.params) : MethOk g.K 260 (Str.ofString "wake") 201 := ⟨by rw [hK]; k_is, by rw [hK]; k_is, by rw [hK]; k_is, by rw [hK]; k_is⟩
theorem mo_r_mails {g : Pg} (hK : g.K = heap g.w.params) : MethOk g.K 260 (Str.ofString "mails") 208 := ⟨by rw [hK]; k_is, by rw [hK]; k_is, by rw [hK]; k_is, by rw [hK]; k_is⟩
theorem mo_r_bring {g : Pg} (hK : g.K = heap g.w.params) : MethOk g.K 260 (Str.ofString "bring") 215 := ⟨by rw [hK]; k_is, by rw [hK]; k_is, by rw [hK]; k_is, by rw [hK]; k_is⟩
theorem mo_r_rest {g : Pg} (hK : g.K = heap g.w.params) : MethOk g.K 260 (Str.ofString "rest") 222 := ⟨by rw [hK]; k_is, by rw [hK]; k_is, by rw [hK]; k_is, by rw [hK]; k_is⟩
theorem mo_r_sent {g : Pg} (hK : g.K = heap g.w.params) : MethOk g.K 260 (Str.ofString "sent") 229 := ⟨by rw [hK]; k_is, by rw [hK]; k_is, by rw [hK]; k_is, by rw [hK]; k_is⟩
theorem mo_r_is_awake {g : Pg} (hK : g.K = heap g.w.params) : MethOk g.K 260 (Str.ofString "is_awake") 236 := ⟨by rw [hK]; k_is, by rw [hK]; k_is, by rw [hK]; k_is, by rw [hK]; k_is⟩
theorem mo_r_is_first {g : Pg} (hK : g.K = heap g.w.params) : MethOk g.K 260 (Str.ofString "is_first") 243 := ⟨by rw [hK]; k_is, by rw [hK]; k_is, by rw [hK]; k_is, by rw [hK]; k_is⟩
theorem mo_r_stage {g : Pg} (hK : g.K = heap g.w.params) : MethOk g.K 260 (Str.ofString "stage") 250 := ⟨by rw [hK]; k_is, by rw [hK]; k_is, by rw [hK]; k_is, by rw [hK]; k_is⟩
theorem mo_r_knows {g : Pg} (hK : g.K = heap g.w.params) : MethOk g.K 260 (Str.ofString "knows") 257 := ⟨by rw [hK]; k_is, by rw [hK]; k_is, by rw [hK]; k_is, by rw [hK]; k_is⟩
local macro_rules | `(tactic| walk_at "FO") => `(tactic| first | with_reducible exact fo_h_number (by assumption) | with_reducible exact fo_h_at_stage (by assumption) | with_reducible exact fo_h_far (by assumption) | with_reducible exact fo_h_had (by assumption) | with_reducible exact fo_h_lost (by assumption) | with_reducible exact fo_h_won (by assumption) | with_reducible exact fo_h_greatest (by assumption) | with_reducible exact fo_r_hands (by assumption) | with_reducible exact fo_r_road (by assumption) | with_reducible exact fo_r_many (by assumption))
local macro_rules | `(tactic| walk_at "MO") => `(tactic| first | with_reducible exact mo_h_two_asks (by assumption) | with_reducible exact mo_h_wake (by assumption) | with_reducible exact mo_h_take (by assumption) | with_reducible exact mo_h_ask_came (by assumption) | with_reducible exact mo_h_answer_came (by assumption) | with_reducible exact mo_h_crown_came (by assumption) | with_reducible exact mo_h_is_awake (by assumption) | with_reducible exact mo_h_is_first (by assumption) | with_reducible exact mo_h_stage (by assumption) | with_reducible exact mo_h_knows (by assumption) | with_reducible exact mo_r_hand_at (by assumption) | with_reducible exact mo_r_posted (by assumption) | with_reducible exact mo_r_wake (by assumption) | with_reducible exact mo_r_mails (by assumption) | with_reducible exact mo_r_bring (by assumption) | with_reducible exact mo_r_rest (by assumption) | with_reducible exact mo_r_sent (by assumption) | with_reducible exact mo_r_is_awake (by assumption) | with_reducible exact mo_r_is_first (by assumption) | with_reducible exact mo_r_stage (by assumption) | with_reducible exact mo_r_knows (by assumption))
theorem g_eval {c : Cx} {a0 : Expr} {a1 : Env} {m : Loc} {σ : Store} {Q : _ → Loc → Store → Prop} {X : Value → Loc → Store → Prop} (h : W c (@PySem.eval a0 a1) m σ Q X) : W c (@PySem.eval a0 a1) m σ Q X := h
theorem g_call {c : Cx} {a0 : Value} {a1 : List Value} {a2 : _} {m : Loc} {σ : Store} {Q : _ → Loc → Store → Prop} {X : Value → Loc → Store → Prop} (h : W c (@PySem.call a0 a1 a2) m σ Q X) : W c (@PySem.call a0 a1 a2) m σ Q X := h
theorem g_compareOp {c : Cx} {a0 : CmpOp} {a1 : Value} {a2 : Value} {m : Loc} {σ : Store} {Q : _ → Loc → Store → Prop} {X : Value → Loc → Store → Prop} (h : W c (@PySem.compareOp a0 a1 a2) m σ Q X) : W c (@PySem.compareOp a0 a1 a2) m σ Q X := h
theorem g_binaryOp {c : Cx} {a0 : Operator} {a1 : Value} {a2 : Value} {m : Loc} {σ : Store} {Q : _ → Loc → Store → Prop} {X : Value → Loc → Store → Prop} (h : W c (@PySem.binaryOp a0 a1 a2) m σ Q X) : W c (@PySem.binaryOp a0 a1 a2) m σ Q X := h
theorem g_subscriptTail {c : Cx} {a0 : Expr} {a1 : Expr} {a2 : Value} {a3 : Value} {m : Loc} {σ : Store} {Q : _ → Loc → Store → Prop} {X : Value → Loc → Store → Prop} (h : W c (@PyProof.Rows.subscriptTail a0 a1 a2 a3) m σ Q X) : W c (@PyProof.Rows.subscriptTail a0 a1 a2 a3) m σ Q X := h
theorem g_getAttr {c : Cx} {a0 : _} {a1 : _} {a2 : _} {m : Loc} {σ : Store} {Q : _ → Loc → Store → Prop} {X : Value → Loc → Store → Prop} (h : W c (@PySem.getAttr a0 a1 a2) m σ Q X) : W c (@PySem.getAttr a0 a1 a2) m σ Q X := h
theorem g_setItem {c : Cx} {a0 : Value} {a1 : Value} {a2 : Value} {m : Loc} {σ : Store} {Q : _ → Loc → Store → Prop} {X : Value → Loc → Store → Prop} (h : W c (@PySem.setItem a0 a1 a2) m σ Q X) : W c (@PySem.setItem a0 a1 a2) m σ Q X := h
theorem g_callWith {c : Cx} {a0 : _} {a1 : _} {a2 : _} {a3 : _} {a4 : _} {m : Loc} {σ : Store} {Q : _ → Loc → Store → Prop} {X : Value → Loc → Store → Prop} (h : W c (@PySem.callWith a0 a1 a2 a3 a4) m σ Q X) : W c (@PySem.callWith a0 a1 a2 a3 a4) m σ Q X := h
theorem g_getMethod {c : Cx} {a0 : _} {a1 : _} {a2 : _} {m : Loc} {σ : Store} {Q : _ → Loc → Store → Prop} {X : Value → Loc → Store → Prop} (h : W c (@PySem.getMethod a0 a1 a2) m σ Q X) : W c (@PySem.getMethod a0 a1 a2) m σ Q X := h
theorem g_setAttr {c : Cx} {a0 : _} {a1 : _} {a2 : _} {m : Loc} {σ : Store} {Q : _ → Loc → Store → Prop} {X : Value → Loc → Store → Prop} (h : W c (@PySem.setAttr a0 a1 a2) m σ Q X) : W c (@PySem.setAttr a0 a1 a2) m σ Q X := h
theorem g_execs {c : Cx} {a0 : List Stmt} {a1 : Env} {m : Loc} {σ : Store} {Q : _ → Loc → Store → Prop} {X : Value → Loc → Store → Prop} (h : W c (@PySem.execs a0 a1) m σ Q X) : W c (@PySem.execs a0 a1) m σ Q X := h
theorem g_isTrue {c : Cx} {a0 : _} {a1 : _} {a2 : _} {m : Loc} {σ : Store} {Q : _ → Loc → Store → Prop} {X : Value → Loc → Store → Prop} (h : W c (@PySem.isTrue a0 a1 a2) m σ Q X) : W c (@PySem.isTrue a0 a1 a2) m σ Q X := h
theorem g_name {c : Cx} {x : Str} {p : Pos} {env : Env} {m : Loc} {σ : Store} {Q : Value → Loc → Store → Prop} {X : Value → Loc → Store → Prop} (h : W c (eval (.Name x p) env) m σ Q X) : W c (eval (.Name x p) env) m σ Q X := h
/-! ## the walk's own steps -/
set_option hygiene false in
local macro_rules | `(tactic| walk_at "m") => `(tactic| first | with_reducible assumption | with_reducible exact setM_same | ((with_reducible refine setM_ne (by decide +kernel) ?_); walk_at "m"))
set_option hygiene false in
local macro_rules | `(tactic| walk_at "D") => `(tactic| first | with_reducible assumption | ((with_reducible refine DicAt.newer (by assumption) ?_); walk_at "D") | ((with_reducible refine DicAt.off ?_ (by assumption)); walk_at "D"))
set_option hygiene false in
local macro_rules | `(tactic| walk_at "K") => `(tactic| (rw [hK]; k_is))
set_option hygiene false in
local macro_rules | `(tactic| walk_at "o") => `(tactic| first | with_reducible assumption | with_reducible exact upd_same | ((with_reducible refine look_new (by assumption) ?_); walk_at "o") | ((with_reducible refine look_off (by assumption) ?_); walk_at "o"))
set_option hygiene false in
local macro_rules | `(tactic| walk_at "enter") => `(tactic| ((case k6 => walk_at "K"); (case k7 => walk_at "K"); (case k9 => exact rfl); (case kB => exact locs rfl); (case c5 => decide +kernel); (case c2 => exact rfl); (case c3 => exact rfl); (case c4 => exact rfl)))
set_option hygiene false in
local macro_rules | `(tactic| walk_at "stmt") => `(tactic| first
  | with_reducible refine app_nil ?_
  | with_reducible refine app_cons ?_
  | ((with_reducible refine x_assign ?hs ?_); (case hs => exact rfl))
  | with_reducible refine x_ret ?_
  | ((with_reducible refine x_attr ?hs ?_); (case hs => exact rfl))
  | ((with_reducible refine x_expr (by assumption) ?hs ?_); (case hs => exact rfl))
  | ((with_reducible refine x_sub ?hs ?_); (case hs => exact rfl))
  | with_reducible refine x_nil ?_
  | ((with_reducible refine x_for ?_ rfl ?hs); rotate_left; (case hs => intro _; exact rfl))
  | ((with_reducible refine' x_raise ?k0 ?k1 ?k2 ?k3 ?k4 ?k5 (fun _ _ _ _ _ _ => ?_)); (case k0 => assumption); (case k1 => assumption); (case k2 => decide +kernel); (case k3 => decide +kernel); (case k4 => walk_at "K"); (case k5 => rw [hK]; kernel_rfl)))
set_option hygiene false in
local macro_rules | `(tactic| walk_at "name") => `(tactic| first
  | with_reducible refine n_local (by assumption) (by assumption) (by assumption) (by decide +kernel) (by decide +kernel) (by walk_at "m") ?_
  | with_reducible refine n_cell (by assumption) (by assumption) (by assumption) (by decide +kernel) (by decide +kernel) (by walk_at "m") ?_
  | with_reducible refine n_localC (by assumption) (by assumption) (by assumption) (by assumption) (by decide +kernel) (by decide +kernel) (by walk_at "m") ?_
  | ((with_reducible refine' n_glob ?k1 ?k2 ?k3 ?k4 ?k5 ?_); (case k1 => assumption); (case k2 => assumption); (case k3 => decide +kernel); (case k4 => decide +kernel); (case k5 => walk_at "K"))
  | ((with_reducible refine' n_built ?k1 ?k2 ?k3 ?k4 ?k5 ?k6 ?k7 ?_); (case k1 => assumption); (case k2 => assumption); (case k3 => decide +kernel); (case k4 => decide +kernel); (case k5 => walk_at "K"); (case k6 => decide +kernel); (case k7 => boot_fast))
  | with_reducible refine cn_cellC (by assumption) (by assumption) (by assumption) (by decide +kernel) (by decide +kernel) (by decide +kernel) (by walk_at "m") ?_
  | with_reducible refine cn_local (by assumption) (by decide +kernel) (by decide +kernel) (by walk_at "o") (by assumption) (by assumption) ?_
  | ((with_reducible refine' cn_glob ?k0 ?k1 ?k2 ?k3 ?k4 ?_); (case k0 => assumption); (case k1 => assumption); (case k2 => decide +kernel); (case k3 => decide +kernel); (case k4 => walk_at "K"))
  | ((with_reducible refine' n_builtS ?k1 ?k2 ?k3 ?k4 ?k5 ?k6 ?k7 ?_); (case k1 => assumption); (case k2 => assumption); (case k3 => decide +kernel); (case k4 => decide +kernel); (case k5 => walk_at "K"); (case k6 => decide +kernel); (case k7 => boot_fast)))
set_option hygiene false in
local macro_rules | `(tactic| walk_at "expr") => `(tactic| first
  | with_reducible refine w_int fun _ => ?_
  | with_reducible refine w_none ?_
  | with_reducible refine w_bool ?_
  | with_reducible refine w_str fun _ => ?_
  | with_reducible refine w_binop ?_
  | ((with_reducible refine w_attr ?_ ?he); rotate_left; (case he => with_unfolding_all exact rfl))
  | ((with_reducible refine w_cmp ?_ ?he); rotate_left; (case he => with_unfolding_all exact rfl))
  | with_reducible refine w_tuple ?_
  | with_reducible refine w_list ?_
  | walk_at "sl"
  | with_reducible refine w_sub ?_
  | ((with_reducible refine' w_meth ?_ ?he); (case he => exact rfl))
  | ((with_reducible refine' w_call ?_ ?he); (case he => exact rfl))
  | with_reducible refine w_unop ?_
  | with_reducible refine e_and ?_
  | with_reducible refine w_one ?_
  | with_reducible refine e_if ?_
  | with_reducible refine w_dict1 (fun _ _ _ _ => ?_))
set_option hygiene false in
local macro_rules | `(tactic| walk_at "test") => `(tactic| first
  | with_reducible refine t_not ?_
  | with_reducible refine b_and ?_
  | with_reducible refine t_and_nil ?_
  | with_reducible refine b_or ?_
  | with_reducible refine t_or_nil ?_
  | ((with_reducible refine t_chain ?_ ?he); rotate_left; (case he => with_unfolding_all exact rfl))
  | ((with_reducible refine t_cmp ?_ ?he); rotate_left; (case he => with_unfolding_all exact rfl))
  | ((with_reducible refine t_plain ?_ ?he); rotate_left; (case he => exact rfl)))
set_option hygiene false in
local macro_rules | `(tactic| walk_at "p_call") => `(tactic| first
  | ((with_reducible refine' w_set_ints ?k1 ?k2 ?k3 ?k4 (fun _ _ _ _ => ?_)); (case k1 => assumption); (case k2 => walk_at "o"); (case k3 => assumption); (case k4 => walk_at "z"))
  | with_reducible refine call_nil ?_
  | with_reducible refine call_one ?_
  | ((with_reducible refine' i_min2 ?k0 (fun _ => ?_)); (case k0 => assumption))
  | with_reducible refine isi_int_int ?_
  | with_reducible refine isi_int_bool ?_
  | with_reducible refine isi_bool_bool ?_
  | ((with_reducible refine' isi_list ?k1 ?_); (case k1 => walk_at "o"))
  | ((with_reducible refine' w_len ?k1 ?k2 (fun _ => ?_)); (case k1 => walk_at "o"); (case k2 => walk_at "z"))
  | ((with_reducible refine' w_len_base ?k1 ?k2 (fun _ => ?_)); (case k1 => exact Gnd.base (by assumption)); (case k2 => walk_at "z"))
  | ((with_reducible refine' w_range1 (fun _ _ _ _ _ => ?_)))
  | ((with_reducible refine' w_range2 (fun _ _ _ _ _ => ?_)))
  | ((with_reducible refine' w_copy ?k1 ?k2 (fun _ _ _ => ?_)); (case k1 => walk_at "o"); (case k2 => walk_at "z")))
set_option hygiene false in
local macro_rules | `(tactic| walk_at "p_compareOp") => `(tactic| first
  | ((with_reducible refine' eq_nil ?k0 ?k1 ?k2 ?_); (case k0 => assumption); (case k1 => walk_at "o"); (case k2 => walk_at "o"))
  | ((with_reducible refine' ne_nil ?k0 ?k1 ?k2 ?_); (case k0 => assumption); (case k1 => walk_at "o"); (case k2 => walk_at "o"))
  | with_reducible refine eq_bools ?_
  | with_reducible refine i_eq ?_
  | with_reducible refine i_ne ?_
  | with_reducible refine i_lt ?_
  | with_reducible refine i_gt ?_
  | with_reducible refine i_le ?_
  | with_reducible refine i_ge ?_
  | with_reducible refine s_eq ?_
  | with_reducible refine s_ne ?_
  | with_reducible refine is_no ?_
  | with_reducible refine isnot_no ?_
  | with_reducible refine is_no_int ?_
  | with_reducible refine isnot_no_int ?_
  | with_reducible refine isnot_no_ref ?_)
set_option hygiene false in
local macro_rules | `(tactic| walk_at "p_binaryOp") => `(tactic| first
  | ((with_reducible refine' i_pow ?k1 ?k2 ?k3 (fun _ => ?_)); (case k1 => decide); (case k2 => decide); (case k3 => decide))
  | ((with_reducible refine' i_mod ?k1 (fun _ => ?_)); (case k1 => walk_at "z"))
  | ((with_reducible refine' i_div ?k1 ?k2 (fun _ => ?_)); (case k1 => walk_at "z"); (case k2 => walk_at "z"))
  | ((with_reducible refine' i_mul (fun _ => ?_) ?k1); (case k1 => walk_at "mul"))
  | with_reducible refine i_add fun _ => ?_
  | with_reducible refine i_sub fun _ => ?_)
set_option hygiene false in
local macro_rules | `(tactic| walk_at "p_subscriptTail") => `(tactic| first
  | ((with_reducible refine' part_way ?k1 ?_ ?k6); rotate_right; (case k6 => with_unfolding_all exact rfl); (case k1 => walk_at "o"))
  | ((with_reducible refine' part_word ?k1 ?_ ?k6); rotate_right; (case k6 => with_unfolding_all exact rfl); (case k1 => walk_at "o"))
  | ((with_reducible refine' part_num ?k1 ?_ ?k6); rotate_right; (case k6 => with_unfolding_all exact rfl); (case k1 => walk_at "o"))
  | ((with_reducible refine' part_lstage ?k1 ?_ ?k6); rotate_right; (case k6 => with_unfolding_all exact rfl); (case k1 => walk_at "o"))
  | ((with_reducible refine' part_steps ?k1 ?_ ?k6); rotate_right; (case k6 => with_unfolding_all exact rfl); (case k1 => walk_at "o"))
  | ((with_reducible refine' part_dest ?k1 ?_ ?k6); rotate_right; (case k6 => with_unfolding_all exact rfl); (case k1 => walk_at "o"))
  | ((with_reducible refine' e_number ?k1 ?_ ?k6); rotate_right; (case k6 => with_unfolding_all exact rfl); (case k1 => walk_at "D"))
  | ((with_reducible refine' e_awake ?k1 ?_ ?k6); rotate_right; (case k6 => with_unfolding_all exact rfl); (case k1 => walk_at "D"))
  | ((with_reducible refine' e_beaten ?k1 ?_ ?k6); rotate_right; (case k6 => with_unfolding_all exact rfl); (case k1 => walk_at "D"))
  | ((with_reducible refine' e_first ?k1 ?_ ?k6); rotate_right; (case k6 => with_unfolding_all exact rfl); (case k1 => walk_at "D"))
  | ((with_reducible refine' e_stage ?k1 ?_ ?k6); rotate_right; (case k6 => with_unfolding_all exact rfl); (case k1 => walk_at "D"))
  | ((with_reducible refine' e_came ?k1 ?_ ?k6); rotate_right; (case k6 => with_unfolding_all exact rfl); (case k1 => walk_at "D"))
  | ((with_reducible refine' e_known ?k1 ?_ ?k6); rotate_right; (case k6 => with_unfolding_all exact rfl); (case k1 => walk_at "D"))
  | ((with_reducible refine' e_hands ?k1 ?_ ?k6); rotate_right; (case k6 => with_unfolding_all exact rfl); (case k1 => walk_at "D"))
  | ((with_reducible refine' e_mails ?k1 ?_ ?k6); rotate_right; (case k6 => with_unfolding_all exact rfl); (case k1 => walk_at "D"))
  | ((with_reducible refine' e_sent ?k1 ?_ ?k6); rotate_right; (case k6 => with_unfolding_all exact rfl); (case k1 => walk_at "D")))
set_option hygiene false in
local macro_rules | `(tactic| walk_at "p_getAttr") => `(tactic| first
  | ((with_reducible refine' get_number ?k1 ?k2 ?k3 ?k4 ?_); (case k1 => assumption); (case k3 => walk_at "o"); (case k4 => walk_at "o"); (case k2 => walk_at "FO"))
  | ((with_reducible refine' get_far ?k1 ?k2 ?k3 ?k4 ?_); (case k1 => assumption); (case k3 => walk_at "o"); (case k4 => walk_at "o"); (case k2 => walk_at "FO"))
  | ((with_reducible refine' get_had ?k1 ?k2 ?k3 ?k4 ?_); (case k1 => assumption); (case k3 => walk_at "o"); (case k4 => walk_at "o"); (case k2 => walk_at "FO"))
  | ((with_reducible refine' get_lost ?k1 ?k2 ?k3 ?k4 ?_); (case k1 => assumption); (case k3 => walk_at "o"); (case k4 => walk_at "o"); (case k2 => walk_at "FO"))
  | ((with_reducible refine' get_won ?k1 ?k2 ?k3 ?k4 ?_); (case k1 => assumption); (case k3 => walk_at "o"); (case k4 => walk_at "o"); (case k2 => walk_at "FO"))
  | ((with_reducible refine' get_hands ?k1 ?k2 ?k3 ?k4 ?_); (case k1 => assumption); (case k3 => walk_at "o"); (case k4 => walk_at "o"); (case k2 => walk_at "FO"))
  | ((with_reducible refine' get_road ?k1 ?k2 ?k3 ?k4 ?_); (case k1 => assumption); (case k3 => walk_at "o"); (case k4 => walk_at "o"); (case k2 => walk_at "FO"))
  | ((with_reducible refine' get_many ?k1 ?k2 ?k3 ?k4 ?_); (case k1 => assumption); (case k3 => walk_at "o"); (case k4 => walk_at "o"); (case k2 => walk_at "FO"))
  | ((with_reducible refine' get_stage ?k1 ?k2 ?k3 ?k4 ?k5 ?_); (case k1 => assumption); (case k3 => walk_at "o"); (case k4 => walk_at "o"); (case k2 => walk_at "FO"); (case k5 => first | assumption | exact rfl))
  | ((with_reducible refine' get_stage0 ?k1 ?k2 ?k3 ?k4 ?k5 ?_); (case k1 => assumption); (case k3 => walk_at "o"); (case k4 => walk_at "o"); (case k2 => walk_at "FO"); (case k5 => first | assumption | exact rfl))
  | ((with_reducible refine' get_top ?k1 ?k2 ?k3 ?k4 ?k5 ?_); (case k1 => assumption); (case k3 => walk_at "o"); (case k4 => walk_at "o"); (case k2 => walk_at "FO"); (case k5 => first | assumption | exact rfl))
  | ((with_reducible refine' get_top0 ?k1 ?k2 ?k3 ?k4 ?k5 ?_); (case k1 => assumption); (case k3 => walk_at "o"); (case k4 => walk_at "o"); (case k2 => walk_at "FO"); (case k5 => first | assumption | exact rfl)))
set_option hygiene false in
local macro_rules | `(tactic| walk_at "p_setItem") => `(tactic| first
  | ((with_reducible refine' es_awake ?k1 (fun _ _ => ?_)); (case k1 => walk_at "D"))
  | ((with_reducible refine' es_beaten ?k1 (fun _ _ => ?_)); (case k1 => walk_at "D"))
  | ((with_reducible refine' es_first ?k1 (fun _ _ => ?_)); (case k1 => walk_at "D"))
  | ((with_reducible refine' es_stage ?k1 (fun _ _ => ?_)); (case k1 => walk_at "D"))
  | ((with_reducible refine' es_came ?k1 (fun _ _ => ?_)); (case k1 => walk_at "D"))
  | ((with_reducible refine' es_known ?k1 (fun _ _ => ?_)); (case k1 => walk_at "D"))
  | ((with_reducible refine' es_sent ?k1 (fun _ _ => ?_)); (case k1 => walk_at "D")))
set_option hygiene false in
local macro_rules | `(tactic| walk_at "p_callWith") => `(tactic| first
  | ((with_reducible refine' w_with ?k1 ?k2 ?_ ?k3 ?k4); (case k1 => assumption); (case k2 => walk_at "K"); rotate_left; (case k3 => exact rfl); (case k4 => exact rfl))
  | ((with_reducible refine' w_with0 ?k1 ?k2 ?_); (case k1 => assumption); (case k2 => walk_at "K"))
  | ((with_reducible refine' w_bwith ?k2 ?_ ?k3 ?k4); (case k2 => exact rfl); rotate_left; (case k3 => exact rfl); (case k4 => exact rfl))
  | ((with_reducible refine' w_bwith0 ?k2 ?_); (case k2 => exact rfl)))
set_option hygiene false in
local macro_rules | `(tactic| walk_at "p_getMethod") => `(tactic| first
  | ((with_reducible refine' w_getappend ?k1 ?_); (case k1 => walk_at "o"))
  | ((with_reducible refine' w_getpop ?k1 ?_); (case k1 => walk_at "o"))
  | ((with_reducible refine' w_getclear ?k1 ?_); (case k1 => walk_at "o"))
  | ((with_reducible refine' meth_hand ?k1 ?k2 ?k3 ?k4 ?k5 ?_); (case k1 => assumption); (case k3 => walk_at "o"); (case k4 => walk_at "o"); (case k2 => walk_at "MO"); (case k5 => exact rfl))
  | ((with_reducible refine' meth_ring ?k1 ?k2 ?k3 ?k4 ?k5 ?_); (case k1 => assumption); (case k3 => walk_at "o"); (case k4 => walk_at "o"); (case k2 => walk_at "MO"); (case k5 => exact rfl)))
set_option hygiene false in
local macro_rules | `(tactic| walk_at "p_setAttr") => `(tactic| first
  | ((with_reducible refine' set_lost ?k1 ?k2 ?k3 ?k4 ?_); (case k1 => assumption); (case k3 => walk_at "o"); (case k4 => walk_at "o"); (case k2 => walk_at "FO"))
  | ((with_reducible refine' set_won ?k1 ?k2 ?k3 ?k4 ?_); (case k1 => assumption); (case k3 => walk_at "o"); (case k4 => walk_at "o"); (case k2 => walk_at "FO"))
  | ((with_reducible refine' set_top ?k1 ?k2 ?k3 ?k4 (fun _ => ?_)); (case k1 => assumption); (case k3 => walk_at "o"); (case k4 => walk_at "o"); (case k2 => walk_at "FO"))
  | ((with_reducible refine' set_new ?k1 ?k2 ?k3 ?k4 ?k5 ?k6 (fun _ => ?_)); (case k1 => assumption); (case k3 => walk_at "o"); (case k4 => walk_at "o"); (case k2 => walk_at "FO"); (case k5 => exact rfl); (case k6 => exact Nat.lt_of_succ_le (Nat.le_of_ble_eq_true rfl))))
set_option hygiene false in
local macro_rules | `(tactic| walk_at "p_rest") => `(tactic| first
  | with_reducible refine n_setcell (by assumption) (by assumption) (by assumption) (by decide +kernel) ?_
  | with_reducible refine n_storeC (by assumption) (by assumption) (by assumption) (by assumption) (by decide +kernel) ?_
  | with_reducible refine n_store (by assumption) (by assumption) (by assumption) (by decide +kernel) ?_
  | ((with_reducible refine w_spliced ?_ ?he); rotate_left; (case he => exact rfl))
  | with_reducible refine w_spliced_nil ?_
  | ((with_reducible refine w_newTuple (fun _ _ => ?_) ?hz); rotate_left; (case hz => exact Nat.le_of_ble_eq_true rfl))
  | ((with_reducible refine w_newList (fun _ _ => ?_) ?hz); rotate_left; (case hz => exact Nat.le_of_ble_eq_true rfl))
  | with_reducible refine v_bool ?_
  | with_reducible refine ev_part ?_
  | with_reducible refine u_not ?_
  | with_reducible refine i_neg fun _ => ?_)
set_option hygiene false in
local macro_rules | `(tactic| walk_at "br") => `(tactic| first
  | with_reducible refine br_true ?_
  | with_reducible refine br_false ?_
  | with_reducible refine br_not ?_)
set_option hygiene false in
local macro_rules | `(tactic| walk_at "s") => `(tactic| first
  | ((with_reducible refine g_name ?_); walk_at "name")
  | ((with_reducible refine g_eval ?_); walk_at "expr")
  | ((with_reducible refine g_call ?_); walk_at "p_call")
  | ((with_reducible refine g_compareOp ?_); walk_at "p_compareOp")
  | ((with_reducible refine g_binaryOp ?_); walk_at "p_binaryOp")
  | ((with_reducible refine g_subscriptTail ?_); walk_at "p_subscriptTail")
  | ((with_reducible refine g_getAttr ?_); walk_at "p_getAttr")
  | walk_at "p_rest"
  | ((with_reducible refine g_execs ?_); first | walk_at "stmt" | with_reducible refine x_if ?_)
  | ((with_reducible refine g_setItem ?_); walk_at "p_setItem")
  | ((with_reducible refine g_callWith ?_); walk_at "p_callWith")
  | ((with_reducible refine g_getMethod ?_); walk_at "p_getMethod")
  | ((with_reducible refine g_setAttr ?_); walk_at "p_setAttr")
  | ((with_reducible refine g_isTrue ?_); walk_at "test")
  | walk_at "br")
set_option hygiene false in
local macro_rules | `(tactic| walk_at "u") => `(tactic| first
  | ((with_reducible refine g_name ?_); walk_at "name")
  | ((with_reducible refine g_eval ?_); walk_at "expr")
  | ((with_reducible refine g_call ?_); walk_at "p_call")
  | ((with_reducible refine g_compareOp ?_); walk_at "p_compareOp")
  | ((with_reducible refine g_binaryOp ?_); walk_at "p_binaryOp")
  | ((with_reducible refine g_subscriptTail ?_); walk_at "p_subscriptTail")
  | ((with_reducible refine g_getAttr ?_); walk_at "p_getAttr")
  | walk_at "p_rest"
  | ((with_reducible refine g_execs ?_); first | walk_at "stmt")
  | ((with_reducible refine g_setItem ?_); walk_at "p_setItem")
  | ((with_reducible refine g_callWith ?_); walk_at "p_callWith")
  | ((with_reducible refine g_getMethod ?_); walk_at "p_getMethod")
  | ((with_reducible refine g_setAttr ?_); walk_at "p_setAttr")
  | ((with_reducible refine g_isTrue ?_); walk_at "test")
  | walk_at "br")
set_option hygiene false in
local macro_rules | `(tactic| walk_at "fr") => `(tactic| first | assumption | exact upd_none (by assumption) | exact upd_none (upd_none (by assumption)) | exact upd_none (upd_none (upd_none (by assumption))) | exact upd_none (upd_none (upd_none (upd_none (by assumption)))))
set_option hygiene false in
local macro_rules | `(tactic| walk_at "keep") => `(tactic| first | assumption | exact Keep.refl | ((refine Keep.upd ?_ (.inl rfl)); walk_at "keep") | ((refine Keep.upd ?_ (.inr (by assumption))); walk_at "keep"))
set_option hygiene false in
local macro_rules | `(tactic| walk_at "l") => `(tactic| ((refine' ltr_of ?kh ?ka ?kb ?kc ?kd ?ke); (case kh => walk_at "o"); (case ka => exact rfl); (case kb => exact rfl); (case kc => exact rfl); (case kd => exact rfl); (case ke => first | exact rfl | (dsimp only; omega))))
set_option hygiene false in
local macro_rules | `(tactic| walk_at "z") => `(tactic| first | assumption | omega | (rw [sizeLine_eq]; omega) | (rw [sizeLine_eq, List.length_map]; omega) | decide +kernel)
set_option hygiene false in
local macro_rules | `(tactic| walk_at "mul") => `(tactic| first | exact PySem.IntMulOk.of_right (by decide) | exact PySem.IntMulOk.of_left (by decide) | exact PySem.IntMulOk.of_right (PySem.intBits_le_64 (by omega) (by omega)) | exact PySem.IntMulOk.of_left (PySem.intBits_le_64 (by omega) (by omega)))
set_option hygiene false in
local macro_rules | `(tactic| walk_at "sl") => `(tactic| ((with_reducible refine w_tail ?_ ?ht); rotate_left; (case ht => intro _ _; with_unfolding_all exact rfl)))
set_option hygiene false in
local macro_rules | `(tactic| walk_at "enterC") => `(tactic| ((case k6 => walk_at "K"); (case k7 => walk_at "K"); (case k9 => exact rfl); (case kB => exact rfl); (case c5 => decide +kernel); (case c2 => exact rfl); (case c3 => exact rfl); (case c4 => exact rfl)))
section
variable {g : Pg} {σ : Store} {x dx : Addr} {h : Hnd}
theorem m_asks (hK : g.K = heap g.w.params) (H : HandAt g.w.params 150 σ x dx h) {s : Nat} (hs : h.stage = some s) :
    Fn g 1 (.ref 84) [.ref x] σ (Gives g.w.params 150 σ x dx h (h.asks s)) NoE := by
  obtain ⟨k, hx, hd⟩ := H
  have hne := inst_ne hx hd
  refine' fn_body [(Str.ofString "self", .ref x)] ?k6 ?k7 ?k9 ?kB ?c5 ?c2 ?c3 ?c4 ?_
  walk_at "enter"
  intro c m hg G hsc hcl hin hm
  have m1 : m (Str.ofString "self") = some (.ref x) := by rw [hm]; rfl
  clear hm
  subst hg
  show W c (execs (_ :: _) c.env) _ _ _ _
  repeat walk_at "s"
  exact Gives.mk [_, _] (by walk_at "fr") upd_same (.cons (by walk_at "l") (.cons (by walk_at "l") .nil)) ⟨k, by walk_at "o", by walk_at "o"⟩ (by walk_at "keep")
theorem m_wake (hK : g.K = heap g.w.params) (H : HandAt g.w.params 150 σ x dx h) :
    Fn g 2 (.ref 91) [.ref x] σ (Gives g.w.params 150 σ x dx h.wake.1 h.wake.2) NoE := by
  obtain ⟨k, hx, hd⟩ := H
  have hne := inst_ne hx hd
  refine' fn_body [(Str.ofString "self", .ref x)] ?k6 ?k7 ?k9 ?kB ?c5 ?c2 ?c3 ?c4 ?_
  walk_at "enter"
  intro c m hg G hsc hcl hin hm
  have m1 : m (Str.ofString "self") = some (.ref x) := by rw [hm]; rfl
  clear hm
  subst hg
  show W c (execs (_ :: _) c.env) _ _ _ _
  cases hs : h.stage with
  | some s =>
    rw [wake_awake (by rw [hs]; exact fun q => nomatch q)]
    repeat walk_at "s"
    exact Gives.mk [] (by walk_at "fr") upd_same .nil ⟨k, by walk_at "o", by walk_at "o"⟩ (by walk_at "keep")
  | none =>
    rw [wake_asleep hs]
    repeat walk_at "s"
    refine set_stage 0 G (by walk_at "FO") (by walk_at "o") (by walk_at "o") rfl fun k' => ?_
    repeat walk_at "s"
    refine w_fn G (Nat.le_refl _) (m_asks (h := { h with stage := some 0 }) hK ⟨k', by walk_at "o", by walk_at "o"⟩ rfl) (fun v σ' q => ?_) fun _ _ q => q.elim
    obtain ⟨la, as, kk, rfl, h1, h2, h3, h4, h5⟩ := q
    exact ⟨la, as, kk, rfl, by walk_at "fr", h2, h3, h4, fun a o e n => h5 a o (by rw [upd_ne n]; exact e) n⟩

theorem m_ask (hK : g.K = heap g.w.params) (H : HandAt g.w.params 150 σ x dx h) {a : Addr} {l : Ltr} (T : LtrAt σ a l) :
    Fn g 2 (.ref 105) [.ref x, .ref a] σ (Gives g.w.params 150 σ x dx (h.askCame l).1 (h.askCame l).2) NoE := by
  obtain ⟨k, hx, hd⟩ := H
  obtain ⟨kl, hl⟩ := T
  have hne := inst_ne hx hd
  have hla := tup_ne hl hd
  refine' fn_body [(Str.ofString "self", .ref x), (Str.ofString "letter", .ref a)] ?k6 ?k7 ?k9 ?kB ?c5 ?c2 ?c3 ?c4 ?_
  walk_at "enter"
  intro c m hg G hsc hcl hin hm
  have m1 : m (Str.ofString "self") = some (.ref x) := by rw [hm]; rfl
  have m2 : m (Str.ofString "letter") = some (.ref a) := by rw [hm]; rfl
  clear hm
  subst hg
  show W c (execs (_ :: _) c.env) _ _ _ _
  repeat walk_at "s"
  refine br_dec (fun q1 => ?_) fun q1 => ?_
  · rw [show h.askCame l = (h, []) by unfold Hnd.askCame; rw [if_pos q1]]
    repeat walk_at "s"
    exact Gives.mk [] (by walk_at "fr") upd_same .nil ⟨k, by walk_at "o", by walk_at "o"⟩ (by walk_at "keep")
  · repeat walk_at "s"
    refine br_dec (fun q2 => ?_) fun q2 => ?_
    · repeat walk_at "s"
      refine br_dec (fun q3 => ?_) fun q3 => ?_
      · have q3' : 1 < l.steps := by omega
        rw [show h.askCame l = ({ h with lost := true }, [⟨l.way, .ask, l.num, l.stage, l.steps - 1⟩]) by unfold Hnd.askCame; rw [if_neg q1, if_pos q2, if_pos q3']]
        repeat walk_at "s"
        exact Gives.mk [_] (by walk_at "fr") upd_same (.cons (by walk_at "l") .nil) ⟨k, by walk_at "o", by walk_at "o"⟩ (by walk_at "keep")
      · have q3' : ¬ 1 < l.steps := by omega
        rw [show h.askCame l = ({ h with lost := true }, [⟨-l.way, .answer, l.num, l.stage, 0⟩]) by unfold Hnd.askCame; rw [if_neg q1, if_pos q2, if_neg q3']]
        repeat walk_at "s"
        exact Gives.mk [_] (by walk_at "fr") upd_same (.cons (by walk_at "l") .nil) ⟨k, by walk_at "o", by walk_at "o"⟩ (by walk_at "keep")
    · repeat walk_at "s"
      refine br_any (fun q3 => ?_) fun q3 => ?_
      · rw [show h.askCame l = (h, []) by unfold Hnd.askCame; rw [if_neg q1, if_neg q2, if_pos q3]]
        repeat walk_at "s"
        exact Gives.mk [] (by walk_at "fr") upd_same .nil ⟨k, by walk_at "o", by walk_at "o"⟩ (by walk_at "keep")
      · rw [show h.askCame l = ({ h with won := true, top := some h.num }, [⟨1, .crown, h.num, 0, 0⟩]) by unfold Hnd.askCame; rw [if_neg q1, if_neg q2, if_neg (by rw [q3]; exact Bool.false_ne_true)]]
        repeat walk_at "s"
        exact Gives.mk [_] (by walk_at "fr") upd_same (.cons (by walk_at "l") .nil) ⟨_, by walk_at "o", by walk_at "o"⟩ (by walk_at "keep")
theorem m_crown (hK : g.K = heap g.w.params) (H : HandAt g.w.params 150 σ x dx h) {a : Addr} {l : Ltr} (T : LtrAt σ a l) :
    Fn g 2 (.ref 119) [.ref x, .ref a] σ (Gives g.w.params 150 σ x dx (h.crownCame l).1 (h.crownCame l).2) NoE := by
  obtain ⟨k, hx, hd⟩ := H
  obtain ⟨kl, hl⟩ := T
  have hne := inst_ne hx hd
  have hla := tup_ne hl hd
  refine' fn_body [(Str.ofString "self", .ref x), (Str.ofString "letter", .ref a)] ?k6 ?k7 ?k9 ?kB ?c5 ?c2 ?c3 ?c4 ?_
  walk_at "enter"
  intro c m hg G hsc hcl hin hm
  have m1 : m (Str.ofString "self") = some (.ref x) := by rw [hm]; rfl
  have m2 : m (Str.ofString "letter") = some (.ref a) := by rw [hm]; rfl
  clear hm
  subst hg
  show W c (execs (_ :: _) c.env) _ _ _ _
  repeat walk_at "s"
  refine br_beq (fun q1 => ?_) fun q1 => ?_
  · rw [show h.crownCame l = (h, []) by unfold Hnd.crownCame; rw [if_pos q1]]
    repeat walk_at "s"
    exact Gives.mk [] (by walk_at "fr") upd_same .nil ⟨k, by walk_at "o", by walk_at "o"⟩ (by walk_at "keep")
  · rw [show h.crownCame l = ({ h with top := some l.num }, [l]) by unfold Hnd.crownCame; rw [if_neg q1]]
    repeat walk_at "s"
    exact Gives.mk [_] (by walk_at "fr") upd_same (.cons ⟨kl, by walk_at "o"⟩ .nil) ⟨_, by walk_at "o", by walk_at "o"⟩ (by walk_at "keep")
theorem m_answer (hK : g.K = heap g.w.params) (H : HandAt g.w.params 150 σ x dx h) {a : Addr} {l : Ltr} (T : LtrAt σ a l) (aw : h.stage ≠ none) :
    Fn g 2 (.ref 112) [.ref x, .ref a] σ (Gives g.w.params 150 σ x dx (h.answerCame l).1 (h.answerCame l).2) NoE := by
  obtain ⟨k, hx, hd⟩ := H
  obtain ⟨kl, hl⟩ := T
  have hne := inst_ne hx hd
  have hla := tup_ne hl hd
  refine' fn_body [(Str.ofString "self", .ref x), (Str.ofString "letter", .ref a)] ?k6 ?k7 ?k9 ?kB ?c5 ?c2 ?c3 ?c4 ?_
  walk_at "enter"
  intro c m hg G hsc hcl hin hm
  have m1 : m (Str.ofString "self") = some (.ref x) := by rw [hm]; rfl
  have m2 : m (Str.ofString "letter") = some (.ref a) := by rw [hm]; rfl
  clear hm
  subst hg
  show W c (execs (_ :: _) c.env) _ _ _ _
  repeat walk_at "s"
  refine br_bne (fun q1 => ?_) fun q1 => ?_
  · rw [show h.answerCame l = (h, [l]) by unfold Hnd.answerCame; rw [if_pos q1]]
    repeat walk_at "s"
    exact Gives.mk [_] (by walk_at "fr") upd_same (.cons ⟨kl, by walk_at "o"⟩ .nil) ⟨k, by walk_at "o", by walk_at "o"⟩ (by walk_at "keep")
  · cases hs : h.stage with
    | none => exact absurd hs aw
    | some s =>
      repeat walk_at "s"
      refine br_bne (fun q2 => ?_) fun q2 => ?_
      · rw [show h.answerCame l = (h, []) by unfold Hnd.answerCame; rw [if_neg (fun z => z q1), hs]; exact if_pos (fun e => q2 (by rw [e]))]
        repeat walk_at "s"
        exact Gives.mk [] (by walk_at "fr") upd_same .nil ⟨k, by walk_at "o", by walk_at "o"⟩ (by walk_at "keep")
      · have q2' : l.stage = s := by omega
        repeat walk_at "s"
        refine set_had (h.had + 1) G (by walk_at "FO") (by walk_at "o") (by walk_at "o") rfl fun k' => ?_
        repeat walk_at "s"
        refine br_bne (fun q3 => ?_) fun q3 => ?_
        · rw [show h.answerCame l = ({ h with had := h.had + 1 }, []) by unfold Hnd.answerCame; rw [if_neg (fun z => z q1), hs]; exact (if_neg (fun z => z q2')).trans (if_pos (.inl (by dsimp only at q3; omega)))]
          repeat walk_at "s"
          exact Gives.mk [] (by walk_at "fr") upd_same .nil ⟨_, by walk_at "o", by walk_at "o"⟩ (by walk_at "keep")
        · repeat walk_at "s"
          refine br_any (fun q4 => ?_) fun q4 => ?_
          · rw [show h.answerCame l = ({ h with had := h.had + 1 }, []) by unfold Hnd.answerCame; rw [if_neg (fun z => z q1), hs]; exact (if_neg (fun z => z q2')).trans (if_pos (.inr q4))]
            repeat walk_at "s"
            exact Gives.mk [] (by walk_at "fr") upd_same .nil ⟨_, by walk_at "o", by walk_at "o"⟩ (by walk_at "keep")
          · have q5 : ¬ (h.had + 1 ≠ 2 ∨ h.lost = true) := by
              rintro (z | z)
              · dsimp only at q3; omega
              · dsimp only at q4; rw [q4] at z; cases z
            rw [show h.answerCame l = ({ h with stage := some (s + 1), far := h.far + h.far, had := 0 }, [⟨1, .ask, h.num, s + 1, h.far + h.far⟩, ⟨-1, .ask, h.num, s + 1, h.far + h.far⟩]) by unfold Hnd.answerCame; rw [if_neg (fun z => z q1), hs]; exact (if_neg (fun z => z q2')).trans (if_neg q5)]
            repeat walk_at "s"
            refine set_stage (s + 1) G (by walk_at "FO") (by walk_at "o") (by walk_at "o") rfl fun k1 => ?_
            repeat walk_at "s"
            refine set_far (h.far + h.far) G (by walk_at "FO") (by walk_at "o") (by walk_at "o") rfl fun k2 => ?_
            repeat walk_at "s"
            refine set_had 0 G (by walk_at "FO") (by walk_at "o") (by walk_at "o") rfl fun k3 => ?_
            repeat walk_at "s"
            refine w_fn G (Nat.le_refl _) (m_asks (h := { h with stage := some (s + 1), far := h.far + h.far, had := 0 }) hK ⟨k3, by walk_at "o", by walk_at "o"⟩ rfl) (fun v σ' q => ?_) fun _ _ q => q.elim
            obtain ⟨la, as, kk, rfl, h1, h2, h3, h4, h5⟩ := q
            exact ⟨la, as, kk, rfl, by walk_at "fr", h2, h3, h4, fun a o e n => h5 a o (by rw [upd_ne n, upd_ne n, upd_ne n, upd_ne n]; exact e) n⟩
end
section
variable {g : Pg} {σ : Store} {x dx : Addr} {h : Hnd}
theorem m_take (hK : g.K = heap g.w.params) (H : HandAt g.w.params 150 σ x dx h) {a : Addr} {l : Ltr} (T : LtrAt σ a l) :
    Fn g 3 (.ref 98) [.ref x, .ref a] σ (Gives g.w.params 150 σ x dx (h.take l).1 (h.take l).2) NoE := by
  have H0 := H
  obtain ⟨k, hx, hd⟩ := H
  obtain ⟨kl, hl⟩ := T
  have hne := inst_ne hx hd
  have hla := tup_ne hl hd
  refine' fn_body [(Str.ofString "self", .ref x), (Str.ofString "letter", .ref a)] ?k6 ?k7 ?k9 ?kB ?c5 ?c2 ?c3 ?c4 ?_
  walk_at "enter"
  intro c m hg G hsc hcl hin hm
  have m1 : m (Str.ofString "self") = some (.ref x) := by rw [hm]; rfl
  have m2 : m (Str.ofString "letter") = some (.ref a) := by rw [hm]; rfl
  clear hm
  subst hg
  show W c (execs (_ :: _) c.env) _ _ _ _
  repeat walk_at "s"
  refine w_fn G (Nat.le_refl _) (m_wake hK H0) (fun v σ1 q => ?_) fun _ _ q => q.elim
  have G1 := q
  obtain ⟨la, as, kk, rfl, h1, h2, h3, h4, h5⟩ := q
  have hl1 : σ1 a = some (tupO (ltrV l kl)) := h5 _ _ hl hla
  obtain ⟨k1, hx1, hd1⟩ := h4
  have hz : h.wake.2.length + (h.wake.1.came l).2.length ≤ 100 := by have := wake_len h; have := came_len h.wake.1 l; omega
  unfold Hnd.take
  repeat walk_at "s"
  unfold Hnd.came at hz ⊢
  cases hw : l.word with
  | ask =>
    rw [hw] at hz
    refine br_isT rfl ?_
    repeat walk_at "s"
    refine w_fn G (Nat.le_refl _) (m_ask hK ⟨k1, hx1, hd1⟩ ⟨kl, hl1⟩) (fun v σ2 q => ?_) fun _ _ q => q.elim
    have G2 := q
    obtain ⟨la2, _, _, rfl, _⟩ := q
    exact give_add G1 G2 hz fun _ _ q => q
  | answer =>
    rw [hw] at hz
    refine br_isF rfl ?_
    repeat walk_at "s"
    refine br_isT (by rw [hw]; rfl) ?_
    repeat walk_at "s"
    refine w_fn G (Nat.le_refl _) (m_answer hK ⟨k1, hx1, hd1⟩ ⟨kl, hl1⟩ (wake_stage h)) (fun v σ2 q => ?_) fun _ _ q => q.elim
    have G2 := q
    obtain ⟨la2, _, _, rfl, _⟩ := q
    exact give_add G1 G2 hz fun _ _ q => q
  | crown =>
    rw [hw] at hz
    refine br_isF rfl ?_
    repeat walk_at "s"
    refine br_isF (by rw [hw]; rfl) ?_
    repeat walk_at "s"
    refine w_fn G (Nat.le_refl _) (m_crown hK ⟨k1, hx1, hd1⟩ ⟨kl, hl1⟩) (fun v σ2 q => ?_) fun _ _ q => q.elim
    have G2 := q
    obtain ⟨la2, _, _, rfl, _⟩ := q
    exact give_add G1 G2 hz fun _ _ q => q
end
section
variable {g : Pg} {σ : Store} {x dx : Addr} {h : Hnd}
theorem m_is_awake (hK : g.K = heap g.w.params) (H : HandAt g.w.params 150 σ x dx h) : Fn g 1 (.ref 126) [.ref x] σ (fun v σ' => v = .bool h.stage.isSome ∧ σ' = σ) NoE := by
  obtain ⟨k, hx, hd⟩ := H
  have hne := inst_ne hx hd
  refine' fn_body [(Str.ofString "self", .ref x)] ?k6 ?k7 ?k9 ?kB ?c5 ?c2 ?c3 ?c4 ?_
  walk_at "enter"
  intro c m hg G hsc hcl hin hm
  have m1 : m (Str.ofString "self") = some (.ref x) := by rw [hm]; rfl
  clear hm
  subst hg
  show W c (execs (_ :: _) c.env) _ _ _ _
  cases hs : h.stage with
  | none =>
    repeat walk_at "s"
    exact ⟨rfl, rfl⟩
  | some s =>
    repeat walk_at "s"
    exact ⟨rfl, rfl⟩
end
section
variable {g : Pg} {σ : Store} {x dx : Addr} {h : Hnd}
theorem m_is_first (hK : g.K = heap g.w.params) (H : HandAt g.w.params 150 σ x dx h) : Fn g 1 (.ref 133) [.ref x] σ (fun v σ' => v = .bool h.won ∧ σ' = σ) NoE := by
  obtain ⟨k, hx, hd⟩ := H
  have hne := inst_ne hx hd
  refine' fn_body [(Str.ofString "self", .ref x)] ?k6 ?k7 ?k9 ?kB ?c5 ?c2 ?c3 ?c4 ?_
  walk_at "enter"
  intro c m hg G hsc hcl hin hm
  have m1 : m (Str.ofString "self") = some (.ref x) := by rw [hm]; rfl
  clear hm
  subst hg
  show W c (execs (_ :: _) c.env) _ _ _ _
  repeat walk_at "s"
  exact ⟨rfl, rfl⟩
end
section
variable {g : Pg} {σ : Store} {x dx : Addr} {h : Hnd}
theorem m_stage (hK : g.K = heap g.w.params) (H : HandAt g.w.params 150 σ x dx h) : Fn g 1 (.ref 140) [.ref x] σ (fun v σ' => (∃ t, v = optV h.stage t) ∧ σ' = σ) NoE := by
  obtain ⟨k, hx, hd⟩ := H
  have hne := inst_ne hx hd
  refine' fn_body [(Str.ofString "self", .ref x)] ?k6 ?k7 ?k9 ?kB ?c5 ?c2 ?c3 ?c4 ?_
  walk_at "enter"
  intro c m hg G hsc hcl hin hm
  have m1 : m (Str.ofString "self") = some (.ref x) := by rw [hm]; rfl
  clear hm
  subst hg
  show W c (execs (_ :: _) c.env) _ _ _ _
  cases hs : h.stage with
  | none =>
    repeat walk_at "s"
    exact ⟨⟨0, rfl⟩, rfl⟩
  | some s =>
    repeat walk_at "s"
    exact ⟨⟨_, rfl⟩, rfl⟩
end
section
variable {g : Pg} {σ : Store} {x dx : Addr} {h : Hnd}
theorem m_knows (hK : g.K = heap g.w.params) (H : HandAt g.w.params 150 σ x dx h) : Fn g 1 (.ref 147) [.ref x] σ (fun v σ' => (∃ t, v = optI h.top t) ∧ σ' = σ) NoE := by
  obtain ⟨k, hx, hd⟩ := H
  have hne := inst_ne hx hd
  refine' fn_body [(Str.ofString "self", .ref x)] ?k6 ?k7 ?k9 ?kB ?c5 ?c2 ?c3 ?c4 ?_
  walk_at "enter"
  intro c m hg G hsc hcl hin hm
  have m1 : m (Str.ofString "self") = some (.ref x) := by rw [hm]; rfl
  clear hm
  subst hg
  show W c (execs (_ :: _) c.env) _ _ _ _
  cases hs : h.top with
  | none =>
    repeat walk_at "s"
    exact ⟨⟨0, rfl⟩, rfl⟩
  | some s =>
    repeat walk_at "s"
    exact ⟨⟨_, rfl⟩, rfl⟩
end
section
variable {g : Pg} {σ : Store} {L : RL} {R : Rng}
theorem is_number_ok (hK : g.K = heap g.w.params) {a : Int} {t : Tok} : Fn g 1 (.ref 161) [.int a t] σ (fun v σ' => v = .bool (decide (0 ≤ a)) ∧ σ' = σ) NoE := by
  refine' fn_body [(Str.ofString "thing", .int a t)] ?k6 ?k7 ?k9 ?kB ?c5 ?c2 ?c3 ?c4 ?_
  walk_at "enter"
  intro c m hg G hsc hcl hin hm
  have m1 : m (Str.ofString "thing") = some (.int a t) := by rw [hm]; rfl
  clear hm
  subst hg
  show W c (execs (_ :: _) c.env) _ _ _ _
  repeat walk_at "s"
  exact ⟨rfl, rfl⟩
theorem r_hand_at (hK : g.K = heap g.w.params) (A : RingAt g.w.params 150 260 L σ R) {p : Nat} {x : Addr} {t : Tok} (hp : L.xs[p]? = some x) (hz : L.xs.length ≤ 64) :
    Fn g 2 (.ref 187) [.ref L.r, .int p t] σ (fun v σ' => v = .ref x ∧ σ' = σ) NoE := by
  have hx := A.top
  obtain ⟨k, hd⟩ := A.dict
  obtain ⟨kh, hh⟩ := A.hl
  have hne := inst_ne hx hd
  have hlt : p < L.xs.length := by
    rcases Nat.lt_or_ge p L.xs.length with q | q
    · exact q
    · rw [List.getElem?_eq_none q] at hp; cases hp
  refine' fn_body [(Str.ofString "self", .ref L.r), (Str.ofString "place", .int p t)] ?k6 ?k7 ?k9 ?kB ?c5 ?c2 ?c3 ?c4 ?_
  walk_at "enter"
  intro c m hg G hsc hcl hin hm
  have m1 : m (Str.ofString "self") = some (.ref L.r) := by rw [hm]; rfl
  have m2 : m (Str.ofString "place") = some (.int p t) := by rw [hm]; rfl
  clear hm
  subst hg
  show W c (execs (_ :: _) c.env) _ _ _ _
  repeat walk_at "s"
  refine w_fn G (Nat.le_refl _) (is_number_ok hK) (fun v σ' q => ?_) fun _ _ q => q.elim
  obtain ⟨rfl, rfl⟩ := q
  repeat walk_at "s"
  refine br_isT (decide_eq_true (by omega)) ?_
  repeat walk_at "s"
  refine br_isF (decide_eq_false (by rw [List.length_map]; omega)) ?_
  repeat walk_at "s"
  exact w_item hh (by omega) (by omega) (by rw [Int.toNat_natCast, List.getElem?_map, hp]; rfl) ⟨rfl, rfl⟩ (by with_unfolding_all rfl)
end
section
variable {g : Pg} {σ : Store} {L : RL} {R : Rng}
theorem r_posted (hK : g.K = heap g.w.params) (A : RingAt g.w.params 150 260 L σ R) {p : Nat} {t : Tok} {la : Addr} {as : List Addr} {ls : List Ltr} {kk : Nat} (hla : σ la = some (lstO (as.map .ref) kk)) (hlr : la ≠ L.lr) (al : All2 (LtrAt σ) as ls)
    (hz : L.xs.length ≤ 64) (hz0 : 0 < L.xs.length) (hzr : R.road.length + ls.length ≤ 1000000) :
    Fn g 1 (.ref 194) [.ref L.r, .int p t, .ref la] σ (fun v σ' => v = .none ∧ RingAt g.w.params 150 260 L σ' (R.post p ls) ∧ Keep L.D σ σ') NoE := by
  refine' fn_body [(Str.ofString "self", .ref L.r), (Str.ofString "place", .int p t), (Str.ofString "letters", .ref la)] ?k6 ?k7 ?k9 ?kB ?c5 ?c2 ?c3 ?c4 ?_
  walk_at "enter"
  intro c m hg G hsc hcl hin hm
  have m1 : m (Str.ofString "self") = some (.ref L.r) := by rw [hm]; rfl
  have m2 : m (Str.ofString "place") = some (.int p t) := by rw [hm]; rfl
  have m3 : m (Str.ofString "letters") = some (.ref la) := by rw [hm]; rfl
  clear hm
  subst hg
  show W c (execs (_ :: _) c.env) _ _ _ _
  repeat walk_at "s"
  have nla := A.notD_lst hla hlr
  refine turns_list (vs := as.map .ref) (k := kk) G (kind_is hsc (by decide +kernel)) (nocell hcl) (fun j m' σ' => RingAt c.g.w.params 150 260 L σ' (R.post p (ls.take j)) ∧ Keep L.D σ σ' ∧ m' (Str.ofString "self") = some (.ref L.r) ∧ m' (Str.ofString "place") = some (.int p t)) ?_ ?_ ?_ ?_
  · intro i m' σ' J
    exact J.2.1 _ _ hla nla
  · refine ⟨?_, Keep.refl, m1, m2⟩
    rw [show R.post p (ls.take 0) = R by unfold Rng.post; simp]
    exact A
  · intro j v m' σ' hv J
    obtain ⟨A', K', n1, n2⟩ := J
    rw [List.getElem?_map, Option.map_eq_some_iff] at hv
    obtain ⟨a, ha, rfl⟩ := hv
    obtain ⟨l, hl, kl, el⟩ := al.get' ha
    have el' : σ' a = some (tupO (ltrV l kl)) := K' _ _ el (A.notD_tup el)
    have hx := A'.top
    obtain ⟨k, hd⟩ := A'.dict
    obtain ⟨kh, hh⟩ := A'.hl
    obtain ⟨ms, kr, er, am⟩ := A'.road
    have hne := inst_ne hx hd
    have n3 : setM m' (Str.ofString "letter") (.ref a) (Str.ofString "self") = some (.ref L.r) := by walk_at "m"
    repeat walk_at "s"
    rw [List.length_map, A.lenx]
    rw [A.lenx] at hz0
    refine i_mod (by omega) fun _ => ?_
    rw [dest_fmod hz0]
    repeat walk_at "s"
    rename_i tm b1 hb1
    refine add_tups (ws := ltrV l kl) upd_same (by walk_at "o") (fun q => nomatch q) (fun q => nomatch q) (Nat.le_of_ble_eq_true rfl) fun b hb => ?_
    repeat walk_at "s"
    refine w_append (l := L.lr) (vs := ms.map .ref) (k := kr) (by walk_at "o") ?_ ?_
    · have := am.len
      rw [post_road_le] at this
      have h2 : (ls.take j).length ≤ ls.length := by rw [List.length_take]; exact Nat.min_le_right _ _
      rw [List.length_map, sizeLine_eq]
      omega
    · have hdr : L.dR ≠ L.lr := fun q => lst_ne er hd q.symm
      have hrl : L.r ≠ L.lr := inst_lst hx er
      repeat walk_at "s"
      refine set_many ((R.post p (ls.take j)).many + 1) G (by walk_at "FO") (by walk_at "o") (by walk_at "o") rfl fun kd => ?_
      repeat walk_at "s"
      refine ⟨?_, ?_, by walk_at "m", by walk_at "m"⟩
      · rw [post_succ hl]
        have s2 := (sub_upd (o := tupO [.int ((dest R.hands.length p l.way : Nat) : Int) tm]) hb1).trans (sub_upd (o := tupO ([.int ((dest R.hands.length p l.way : Nat) : Int) tm] ++ ltrV l kl)) hb)
        exact (A'.sub s2).posted (s2 _ _ er) (am.mono fun _ _ r => r.sub s2) ⟨_, kl, upd_same⟩
      · exact (((K'.upd (.inr hb1)).upd (.inr hb)).upd (.inl (.inr (.inl rfl)))).upd (.inl (.inl rfl))
  · intro m' σ' J
    obtain ⟨A', K', n1, n2⟩ := J
    rw [List.length_map, al.len, List.take_length] at A'
    repeat walk_at "s"
    exact ⟨rfl, A', K'⟩
end
section
variable {g : Pg} {σ : Store} {L : RL} {R : Rng}
theorem r_wake (hK : g.K = heap g.w.params) (A : RingAt g.w.params 150 260 L σ R) {p : Nat} {t : Tok} {h : Hnd} (hh : R.hands[p]? = some h) (hz : L.xs.length ≤ 64) (hzr : R.road.length ≤ 999990) :
    Fn g 3 (.ref 201) [.ref L.r, .int p t] σ (fun v σ' => v = .bool (!h.stage.isSome) ∧ RingAt g.w.params 150 260 L σ' (R.wake p) ∧ Keep L.D σ σ') NoE := by
  obtain ⟨x, dx, ex, edx, H⟩ := A.at hh
  obtain ⟨kh, hx1, hd1⟩ := id H
  have hx := A.top
  obtain ⟨k, hd⟩ := A.dict
  have hne := inst_ne hx hd
  have hz0 : 0 < L.xs.length := by
    rcases Nat.eq_zero_or_pos L.xs.length with q | q
    · rw [List.getElem?_eq_none (by omega)] at ex; cases ex
    · exact q
  refine' fn_body [(Str.ofString "self", .ref L.r), (Str.ofString "place", .int p t)] ?k6 ?k7 ?k9 ?kB ?c5 ?c2 ?c3 ?c4 ?_
  walk_at "enter"
  intro c m hg G hsc hcl hin hm
  have m1 : m (Str.ofString "self") = some (.ref L.r) := by rw [hm]; rfl
  have m2 : m (Str.ofString "place") = some (.int p t) := by rw [hm]; rfl
  clear hm
  subst hg
  show W c (execs (_ :: _) c.env) _ _ _ _
  repeat walk_at "s"
  refine w_fn G (Nat.le_refl _) (r_hand_at hK A ex hz) (fun v σ' q => ?_) fun _ _ q => q.elim
  obtain ⟨rfl, rfl⟩ := q
  repeat walk_at "s"
  refine w_fn G (by decide) (m_is_awake hK H) (fun v σ' q => ?_) fun _ _ q => q.elim
  obtain ⟨rfl, rfl⟩ := q
  repeat walk_at "s"
  refine br_any (fun q1 => ?_) fun q1 => ?_
  · repeat walk_at "s"
    rw [wake_same hh (fun e => by rw [e] at q1; cases q1), q1]
    exact ⟨rfl, A, Keep.refl⟩
  · repeat walk_at "s"
    refine w_fn G (Nat.le_refl _) (m_wake hK H) (fun v σ1 q => ?_) fun _ _ q => q.elim
    obtain ⟨la, as, kk, rfl, f1, f2, f3, f4, f5⟩ := q
    have A1 := A.gives ex edx hh f4 f5
    have K1 := A.keepGives edx f5
    repeat walk_at "s"
    refine w_fn G (by decide) (r_posted hK A1 f2 (fun e => ?_) f3 hz hz0 ?_) (fun v σ2 q => ?_) fun _ _ q => q.elim
    · obtain ⟨ms, kr, er, _⟩ := A.road
      rw [e, er] at f1; cases f1
    · have := wake_len h
      show R.road.length + _ ≤ _
      omega
    · obtain ⟨rfl, A2, K2⟩ := q
      repeat walk_at "s"
      rw [q1, wake_is hh]
      exact ⟨rfl, A2, K1.trans K2⟩
theorem r_mails (hK : g.K = heap g.w.params) (A : RingAt g.w.params 150 260 L σ R) (hzr : R.road.length ≤ 1000000) :
    Fn g 1 (.ref 208) [.ref L.r] σ (fun v σ' => ∃ b ms k, v = .ref b ∧ σ b = none ∧ All2 (MailAt σ) ms R.road ∧ σ' = upd σ b (lstO (ms.map .ref) k)) NoE := by
  have hx := A.top
  obtain ⟨k, hd⟩ := A.dict
  obtain ⟨ms, kr, er, am⟩ := A.road
  have hml := am.len
  refine' fn_body [(Str.ofString "self", .ref L.r)] ?k6 ?k7 ?k9 ?kB ?c5 ?c2 ?c3 ?c4 ?_
  walk_at "enter"
  intro c m hg G hsc hcl hin hm
  have m1 : m (Str.ofString "self") = some (.ref L.r) := by rw [hm]; rfl
  clear hm
  subst hg
  show W c (execs (_ :: _) c.env) _ _ _ _
  repeat walk_at "s"
  rename_i b kk hb
  exact ⟨b, ms, kk, rfl, hb, am, rfl⟩
theorem r_sent (hK : g.K = heap g.w.params) (A : RingAt g.w.params 150 260 L σ R) :
    Fn g 1 (.ref 229) [.ref L.r] σ (fun v σ' => (∃ t, v = .int (R.many : Int) t) ∧ σ' = σ) NoE := by
  have hx := A.top
  obtain ⟨k, hd⟩ := A.dict
  refine' fn_body [(Str.ofString "self", .ref L.r)] ?k6 ?k7 ?k9 ?kB ?c5 ?c2 ?c3 ?c4 ?_
  walk_at "enter"
  intro c m hg G hsc hcl hin hm
  have m1 : m (Str.ofString "self") = some (.ref L.r) := by rw [hm]; rfl
  clear hm
  subst hg
  show W c (execs (_ :: _) c.env) _ _ _ _
  repeat walk_at "s"
  exact ⟨⟨_, rfl⟩, rfl⟩
theorem r_bring (hK : g.K = heap g.w.params) (A : RingAt g.w.params 150 260 L σ R) {k d : Nat} {t : Tok} {l : Ltr} {h : Hnd} (hk : R.road[k]? = some (d, l)) (hh : R.hands[d]? = some h) (hz : L.xs.length ≤ 64) (hzr : R.road.length ≤ 999990) :
    Fn g 4 (.ref 215) [.ref L.r, .int k t] σ (fun v σ' => (∃ b, v = .ref b ∧ MailAt σ' b (d, l)) ∧ RingAt g.w.params 150 260 L σ' (R.bring k) ∧ Keep L.D σ σ') NoE := by
  obtain ⟨x, dx, ex, edx, H⟩ := A.at hh
  have hx := A.top
  obtain ⟨kd, hd⟩ := A.dict
  obtain ⟨kl, hlh⟩ := A.hl
  obtain ⟨ms, kr, er, am⟩ := A.road
  have hml := am.len
  have hne := inst_ne hx hd
  have hrl : L.r ≠ L.lr := inst_lst hx er
  have hdr : L.dR ≠ L.lr := fun q => lst_ne er hd q.symm
  have hhr : L.lh ≠ L.lr := Ne.symm A.ne
  have hlt : k < R.road.length := by
    rcases Nat.lt_or_ge k R.road.length with q | q
    · exact q
    · rw [List.getElem?_eq_none q] at hk; cases hk
  have hz0 : 0 < L.xs.length := by
    rcases Nat.eq_zero_or_pos L.xs.length with q | q
    · rw [List.getElem?_eq_none (by omega)] at ex; cases ex
    · exact q
  obtain ⟨b, eb, tb, kb, hb⟩ := am.get hk
  have hbl : b ≠ L.lr := tup_lst hb er
  have A1 := A.popped er am k (kr + 1)
  refine' fn_body [(Str.ofString "self", .ref L.r), (Str.ofString "place", .int k t)] ?k6 ?k7 ?k9 ?kB ?c5 ?c2 ?c3 ?c4 ?_
  walk_at "enter"
  intro c m hg G hsc hcl hin hm
  have m1 : m (Str.ofString "self") = some (.ref L.r) := by rw [hm]; rfl
  have m2 : m (Str.ofString "place") = some (.int k t) := by rw [hm]; rfl
  clear hm
  subst hg
  show W c (execs (_ :: _) c.env) _ _ _ _
  repeat walk_at "s"
  refine w_fn G (by decide) (is_number_ok hK) (fun v σ' q => ?_) fun _ _ q => q.elim
  obtain ⟨rfl, rfl⟩ := q
  repeat walk_at "s"
  refine br_isT (decide_eq_true (by omega)) ?_
  repeat walk_at "s"
  refine br_isF (decide_eq_false (by rw [List.length_map]; omega)) ?_
  repeat walk_at "s"
  refine w_pop (j := k) (v := .ref b) er (by rw [List.length_map, sizeLine_eq]; omega) rfl (by rw [List.getElem?_map, eb]; rfl) ?_
  repeat walk_at "s"
  refine w_item (v := .ref x) (by walk_at "o") (by omega) ?_ (by rw [Int.toNat_natCast, List.getElem?_map, ex]; rfl) ?_ (by with_unfolding_all rfl)
  · have : d < L.xs.length := by
      rcases Nat.lt_or_ge d L.xs.length with q | q
      · exact q
      · rw [List.getElem?_eq_none q] at ex; cases ex
    omega
  obtain ⟨x', dx', ex', edx', H1⟩ := A1.at (p := d) hh
  rw [ex] at ex'; cases ex'
  rw [edx] at edx'; cases edx'
  obtain ⟨kh, hx1, hd1⟩ := id H1
  repeat walk_at "s"
  refine ⟨b, _, 1, _, rfl, rfl, look_off hbl hb, Nat.le_refl _, Nat.le_of_ble_eq_true rfl, Nat.le_of_ble_eq_true rfl, fun a ha => ?_⟩
  have s2 := sub_upd (o := tupO (ltrV l kb)) ha
  have A2 := A1.sub s2
  have H2 := H1.sub s2
  have T2 : LtrAt (upd (upd σ' L.lr (lstO ((List.map Value.ref ms).eraseIdx k) (kr + 1))) a (tupO (ltrV l kb))) a l := ⟨kb, upd_same⟩
  repeat walk_at "s"
  refine w_fn G (Nat.le_refl _) (m_take hK H2 T2) (fun v σ3 q => ?_) fun _ _ q => q.elim
  obtain ⟨la, as, kk, rfl, f1, f2, f3, f4, f5⟩ := q
  have A3 := A2.gives ex edx hh f4 f5
  have K3 := A2.keepGives edx f5
  have hb3 := K3 _ _ (s2 _ _ (look_off hbl hb)) (A2.notD_tup (s2 _ _ (look_off hbl hb)))
  repeat walk_at "s"
  refine w_fn G (by decide) (r_posted hK A3 f2 (fun e => ?_) f3 hz hz0 ?_) (fun v σ4 q => ?_) fun _ _ q => q.elim
  · obtain ⟨ms', kr', er', _⟩ := A2.road
    rw [e, er'] at f1; cases f1
  · have := wake_len h
    have := came_len h.wake.1 l
    show (R.road.eraseIdx k).length + (h.wake.2 ++ (h.wake.1.came l).2).length ≤ _
    rw [List.length_eraseIdx, List.length_append]
    split <;> omega
  · obtain ⟨rfl, A4, K4⟩ := q
    have hb4 := K4 _ _ hb3 (A3.notD_tup hb3)
    repeat walk_at "s"
    rw [bring_is hk hh]
    refine ⟨⟨b, rfl, tb, kb, hb4⟩, A4, ?_⟩
    have K0 : Keep L.D σ' (upd σ' L.lr (lstO ((List.map Value.ref ms).eraseIdx k) (kr + 1))) := Keep.refl.upd (.inl (.inr (.inl rfl)))
    exact ((K0.trans (Keep.of_sub s2)).trans K3).trans K4
end
section
variable {g : Pg} {σ : Store} {L : RL} {R : Rng}
theorem r_is_first (hK : g.K = heap g.w.params) (A : RingAt g.w.params 150 260 L σ R) {p : Nat} {t : Tok} {h : Hnd} (hh : R.hands[p]? = some h) (hz : L.xs.length ≤ 64) :
    Fn g 3 (.ref 243) [.ref L.r, .int p t] σ (fun v σ' => (v = .bool h.won) ∧ σ' = σ) NoE := by
  obtain ⟨x, dx, ex, edx, H⟩ := A.at hh
  obtain ⟨kh, hx1, hd1⟩ := id H
  have hx := A.top
  obtain ⟨k, hd⟩ := A.dict
  refine' fn_body [(Str.ofString "self", .ref L.r), (Str.ofString "place", .int p t)] ?k6 ?k7 ?k9 ?kB ?c5 ?c2 ?c3 ?c4 ?_
  walk_at "enter"
  intro c m hg G hsc hcl hin hm
  have m1 : m (Str.ofString "self") = some (.ref L.r) := by rw [hm]; rfl
  have m2 : m (Str.ofString "place") = some (.int p t) := by rw [hm]; rfl
  clear hm
  subst hg
  show W c (execs (_ :: _) c.env) _ _ _ _
  repeat walk_at "s"
  refine w_fn G (Nat.le_refl _) (r_hand_at hK A ex hz) (fun v σ' q => ?_) fun _ _ q => q.elim
  obtain ⟨rfl, rfl⟩ := q
  repeat walk_at "s"
  refine w_fn G (by decide) (m_is_first hK H) (fun v σ' q => ?_) fun _ _ q => q.elim
  obtain ⟨q1, rfl⟩ := q
  exact ⟨q1, rfl⟩
end
section
variable {g : Pg} {σ : Store} {L : RL} {R : Rng}
theorem r_stage (hK : g.K = heap g.w.params) (A : RingAt g.w.params 150 260 L σ R) {p : Nat} {t : Tok} {h : Hnd} (hh : R.hands[p]? = some h) (hz : L.xs.length ≤ 64) :
    Fn g 3 (.ref 250) [.ref L.r, .int p t] σ (fun v σ' => (∃ t, v = optV h.stage t) ∧ σ' = σ) NoE := by
  obtain ⟨x, dx, ex, edx, H⟩ := A.at hh
  obtain ⟨kh, hx1, hd1⟩ := id H
  have hx := A.top
  obtain ⟨k, hd⟩ := A.dict
  refine' fn_body [(Str.ofString "self", .ref L.r), (Str.ofString "place", .int p t)] ?k6 ?k7 ?k9 ?kB ?c5 ?c2 ?c3 ?c4 ?_
  walk_at "enter"
  intro c m hg G hsc hcl hin hm
  have m1 : m (Str.ofString "self") = some (.ref L.r) := by rw [hm]; rfl
  have m2 : m (Str.ofString "place") = some (.int p t) := by rw [hm]; rfl
  clear hm
  subst hg
  show W c (execs (_ :: _) c.env) _ _ _ _
  repeat walk_at "s"
  refine w_fn G (Nat.le_refl _) (r_hand_at hK A ex hz) (fun v σ' q => ?_) fun _ _ q => q.elim
  obtain ⟨rfl, rfl⟩ := q
  repeat walk_at "s"
  refine w_fn G (by decide) (m_stage hK H) (fun v σ' q => ?_) fun _ _ q => q.elim
  obtain ⟨q1, rfl⟩ := q
  exact ⟨q1, rfl⟩
end
section
variable {g : Pg} {σ : Store} {L : RL} {R : Rng}
theorem r_knows (hK : g.K = heap g.w.params) (A : RingAt g.w.params 150 260 L σ R) {p : Nat} {t : Tok} {h : Hnd} (hh : R.hands[p]? = some h) (hz : L.xs.length ≤ 64) :
    Fn g 3 (.ref 257) [.ref L.r, .int p t] σ (fun v σ' => (∃ t, v = optI h.top t) ∧ σ' = σ) NoE := by
  obtain ⟨x, dx, ex, edx, H⟩ := A.at hh
  obtain ⟨kh, hx1, hd1⟩ := id H
  have hx := A.top
  obtain ⟨k, hd⟩ := A.dict
  refine' fn_body [(Str.ofString "self", .ref L.r), (Str.ofString "place", .int p t)] ?k6 ?k7 ?k9 ?kB ?c5 ?c2 ?c3 ?c4 ?_
  walk_at "enter"
  intro c m hg G hsc hcl hin hm
  have m1 : m (Str.ofString "self") = some (.ref L.r) := by rw [hm]; rfl
  have m2 : m (Str.ofString "place") = some (.int p t) := by rw [hm]; rfl
  clear hm
  subst hg
  show W c (execs (_ :: _) c.env) _ _ _ _
  repeat walk_at "s"
  refine w_fn G (Nat.le_refl _) (r_hand_at hK A ex hz) (fun v σ' q => ?_) fun _ _ q => q.elim
  obtain ⟨rfl, rfl⟩ := q
  repeat walk_at "s"
  refine w_fn G (by decide) (m_knows hK H) (fun v σ' q => ?_) fun _ _ q => q.elim
  obtain ⟨q1, rfl⟩ := q
  exact ⟨q1, rfl⟩
end
section
variable {g : Pg} {σ : Store} {L : RL} {R : Rng}
theorem r_is_awake (hK : g.K = heap g.w.params) (A : RingAt g.w.params 150 260 L σ R) {p : Nat} {t : Tok} {h : Hnd} (hh : R.hands[p]? = some h) (hz : L.xs.length ≤ 64) :
    Fn g 3 (.ref 236) [.ref L.r, .int p t] σ (fun v σ' => (v = .bool h.stage.isSome) ∧ σ' = σ) NoE := by
  obtain ⟨x, dx, ex, edx, H⟩ := A.at hh
  obtain ⟨kh, hx1, hd1⟩ := id H
  have hx := A.top
  obtain ⟨k, hd⟩ := A.dict
  refine' fn_body [(Str.ofString "self", .ref L.r), (Str.ofString "place", .int p t)] ?k6 ?k7 ?k9 ?kB ?c5 ?c2 ?c3 ?c4 ?_
  walk_at "enter"
  intro c m hg G hsc hcl hin hm
  have m1 : m (Str.ofString "self") = some (.ref L.r) := by rw [hm]; rfl
  have m2 : m (Str.ofString "place") = some (.int p t) := by rw [hm]; rfl
  clear hm
  subst hg
  show W c (execs (_ :: _) c.env) _ _ _ _
  repeat walk_at "s"
  refine w_fn G (Nat.le_refl _) (r_hand_at hK A ex hz) (fun v σ' q => ?_) fun _ _ q => q.elim
  obtain ⟨rfl, rfl⟩ := q
  repeat walk_at "s"
  refine w_fn G (by decide) (m_is_awake hK H) (fun v σ' q => ?_) fun _ _ q => q.elim
  obtain ⟨q1, rfl⟩ := q
  exact ⟨q1, rfl⟩
end
section
variable {g : Pg} {σ : Store}
theorem hand_init (hK : g.K = heap g.w.params) {x dx : Addr} {a : Int} {t : Tok} (hx : σ x = some (instObj 150 dx)) (hd : σ dx = some (dictOf [] 0)) :
    Fn g 1 (.ref 77) [.ref x, .int a t] σ (fun v σ' => v = .none ∧ HandAt g.w.params 150 σ' x dx { num := a } ∧ Keep (· = dx) σ σ') NoE := by
  have hne := inst_ne hx hd
  refine' fn_body [(Str.ofString "self", .ref x), (Str.ofString "number", .int a t)] ?k6 ?k7 ?k9 ?kB ?c5 ?c2 ?c3 ?c4 ?_
  walk_at "enter"
  intro c m hg G hsc hcl hin hm
  have m1 : m (Str.ofString "self") = some (.ref x) := by rw [hm]; rfl
  have m2 : m (Str.ofString "number") = some (.int a t) := by rw [hm]; rfl
  clear hm
  subst hg
  show W c (execs (_ :: _) c.env) _ _ _ _
  repeat walk_at "s"
  rename_i t0 t1 ta t2 tb t3 t4 t5 t6
  exact ⟨rfl, ⟨fun i => [t0, t1, t2, t3, t4, t5, t6, t, 0, ta, tb, 0].getD i 0, by walk_at "o", upd_same⟩, by walk_at "keep"⟩
theorem mk_hand (hK : g.K = heap g.w.params) {a : Int} {t : Tok} :
    Fn g 2 (.ref 150) [.int a t] σ (fun v σ' => ∃ x dx, v = .ref x ∧ σ x = none ∧ σ dx = none ∧ HandAt g.w.params 150 σ' x dx { num := a } ∧ Sub σ σ') NoE := by
  refine fn_make (C := 150) (fI := 77) (by rw [hK]; k_is) (by rw [hK]; k_is) (by rw [hK]; k_is) fun x dx hx hdx hne => ?_
  refine (hand_init hK upd_same (look_off (Ne.symm hne) upd_same)).mono (fun v σ' q => ?_) fun _ _ q => q
  obtain ⟨rfl, H, K⟩ := q
  refine ⟨rfl, x, dx, rfl, hx, hdx, H, fun b o e => K b o ?_ ?_⟩
  · rw [upd_ne (new_ne e hx), upd_ne (new_ne e hdx)]; exact e
  · exact new_ne e hdx
theorem are_numbers_ok (hK : g.K = heap g.w.params) {nl : Addr} {vs : List Value} {ns : List Int} {k : Nat} (hl : σ nl = some (lstO vs k)) (hi : IntsAre vs ns) (h1 : 1 ≤ ns.length) (h64 : ns.length ≤ 64) (h0 : ∀ a ∈ ns, 0 ≤ a) (hd : ns.Nodup) :
    Fn g 2 (.ref 168) [.ref nl] σ (fun v σ' => v = .bool true ∧ Sub σ σ') NoE := by
  have hlen := hi.length
  refine' fn_body [(Str.ofString "things", .ref nl)] ?k6 ?k7 ?k9 ?kB ?c5 ?c2 ?c3 ?c4 ?_
  walk_at "enter"
  intro c m hg G hsc hcl hin hm
  have m1 : m (Str.ofString "things") = some (.ref nl) := by rw [hm]; rfl
  clear hm
  subst hg
  show W c (execs (_ :: _) c.env) _ _ _ _
  repeat walk_at "s"
  refine br_isT (decide_eq_true (by omega)) ?_
  repeat walk_at "s"
  refine br_isT (decide_eq_true (by omega)) ?_
  repeat walk_at "s"
  refine turns_list (vs := vs) (k := k) G (kind_is hsc (by decide +kernel)) (nocell hcl) (fun j m' σ' => σ' = σ ∧ m' (Str.ofString "things") = some (.ref nl)) ?_ ?_ ?_ ?_
  · rintro i m' σ' ⟨rfl, _⟩; exact hl
  · exact ⟨rfl, m1⟩
  · rintro j v m' σ' hv ⟨rfl, n1⟩
    obtain ⟨a, t, ha, rfl⟩ := ints_get hi hv
    repeat walk_at "s"
    refine w_fn G (by decide) (is_number_ok hK) (fun v σ' q => ?_) fun _ _ q => q.elim
    obtain ⟨rfl, rfl⟩ := q
    repeat walk_at "s"
    refine br_isT (decide_eq_true (h0 a (List.mem_of_getElem? ha))) ?_
    repeat walk_at "s"
    exact ⟨rfl, by walk_at "m"⟩
  · rintro m' σ' ⟨rfl, n1⟩
    repeat walk_at "s"
    rename_i x o hx ho
    obtain ⟨S, ho⟩ := ho
    rw [firstMet_nodup hd ns.length (Nat.le_refl _)] at ho
    refine w_len_set upd_same ho (by omega) fun _ => ?_
    repeat walk_at "s"
    refine ⟨?_, sub_upd hx⟩
    show Value.bool _ = _
    rw [hlen]
    simp
end
section
variable {g : Pg} {σ : Store}
theorem ring_init (hK : g.K = heap g.w.params) {r dR nl : Addr} {vs : List Value} {ns : List Int} {k : Nat} (hx : σ r = some (instObj 260 dR)) (hd : σ dR = some (dictOf [] 0)) (hl : σ nl = some (lstO vs k)) (hi : IntsAre vs ns) (h1 : 1 ≤ ns.length) (h64 : ns.length ≤ 64) (h0 : ∀ a ∈ ns, 0 ≤ a) (hnd : ns.Nodup) :
    Fn g 3 (.ref 180) [.ref r, .ref nl] σ (fun v σ' => v = .none ∧ ∃ L : RL, L.r = r ∧ L.dR = dR ∧ RingAt g.w.params 150 260 L σ' (Rng.start ns) ∧ Keep (· = dR) σ σ' ∧ σ L.lr = none ∧ ∀ d ∈ L.dxs, σ d = none) NoE := by
  have hne := inst_ne hx hd
  have hlen := hi.length
  refine' fn_body [(Str.ofString "self", .ref r), (Str.ofString "numbers", .ref nl)] ?k6 ?k7 ?k9 ?kB ?c5 ?c2 ?c3 ?c4 ?_
  walk_at "enter"
  intro c m hg G hsc hcl hin hm
  have m1 : m (Str.ofString "self") = some (.ref r) := by rw [hm]; rfl
  have m2 : m (Str.ofString "numbers") = some (.ref nl) := by rw [hm]; rfl
  clear hm
  subst hg
  show W c (execs (_ :: _) c.env) _ _ _ _
  repeat walk_at "s"
  refine w_fn G (by decide) (are_numbers_ok hK hl hi h1 h64 h0 hnd) (fun v σ1 q => ?_) fun _ _ q => q.elim
  obtain ⟨rfl, s1⟩ := q
  repeat walk_at "s"
  refine w_comp (nofree rfl) rfl (by decide +kernel) (fun _ => rfl) ?_
  repeat walk_at "s"
  refine comp_list G (by decide +kernel) rfl (by decide +kernel) (HandsTo c.g.w.params 150 σ1 ns) (fun _ _ _ _ s h => h.mono s) (s1 _ _ hl) (by rw [sizeLine_eq]; omega) ⟨[], [], rfl, rfl, rfl, List.nodup_nil, fun j x dx a e => (by simp at e), fun d hd => (by simp at hd)⟩ ?_ ?_
  · intro j v hv e C oC mm τ ys CE sub τC hP hn hmm
    obtain ⟨a, t, ha, rfl⟩ := ints_get hi hv
    have hj : j < ns.length := by
      rcases Nat.lt_or_ge j ns.length with q | q
      · exact q
      · rw [List.getElem?_eq_none q] at ha; cases ha
    repeat walk_at "s"
    refine w_fn G (Nat.le_refl _) (mk_hand hK) (fun v σ2 q => ?_) fun _ _ q => q.elim
    obtain ⟨x, dx, rfl, hx', hdx', H, s2⟩ := q
    refine ⟨rfl, s2, ?_⟩
    have nx : x ≠ C := fun q => by rw [q, upd_same] at hx'; cases hx'
    have nd : dx ≠ C := fun q => by rw [q, upd_same] at hdx'; cases hdx'
    refine hP.succ (sub_drop ((sub_upd τC).trans s2) τC) hj ha (upd_none hdx') sub ?_
    obtain ⟨kk, e1, e2⟩ := H
    exact ⟨kk, by rw [drop_ne nx]; exact e1, by rw [drop_ne nd]; exact e2⟩
  · intro D σ2 ys kk hD hD2 s2 hys hP
    have hx2 := s2 _ _ (s1 _ _ hx)
    have hd2 := s2 _ _ (s1 _ _ hd)
    have nrD : dR ≠ D := new_ne hd2 hD2
    repeat walk_at "s"
    rename_i t0 lr hlr t1 tz t2
    obtain ⟨xs, dxs, rfl, e2, e3, e4, e5, e6⟩ := hP
    have nlD : lr ≠ D := fun q => by
      have z := upd_none hlr
      rw [q, upd_same] at z; cases z
    have hlr2 : σ2 lr = none := upd_none (upd_none hlr)
    have K2 : Keep (· = dR) σ2 _ := ((((Keep.refl (D := (· = dR)) (σ := σ2)).upd (o := lstO (List.map Value.ref xs) kk) (.inr hD2)).upd (o := dictOf ([] ++ [ent c.g.w.params (Str.ofString "hands") t0 (Value.ref D)]) (0 + 1)) (.inl rfl)).upd (o := lstO [] 0) (.inr hlr)).upd (a := dR) (o := dictOf ([] ++ [ent c.g.w.params (Str.ofString "hands") t0 (Value.ref D)] ++ [ent c.g.w.params (Str.ofString "road") t1 (Value.ref lr)]) (0 + 1 + 1)) (.inl rfl) |>.upd (a := dR) (o := dictOf ([] ++ [ent c.g.w.params (Str.ofString "hands") t0 (Value.ref D)] ++ [ent c.g.w.params (Str.ofString "road") t1 (Value.ref lr)] ++ [ent c.g.w.params (Str.ofString "many") t2 (Value.int 0 tz)]) (0 + 1 + 1 + 1)) (.inl rfl)
    have nlr : lr ≠ dR := fun q => by rw [q, hd2] at hlr2; cases hlr2
    have dfree : ∀ d ∈ dxs, d ≠ dR := fun d hd' q => by have := e6 d hd'; rw [q, s1 _ _ hd] at this; cases this
    refine ⟨rfl, ⟨r, dR, D, lr, xs, dxs⟩, rfl, rfl, ⟨K2 _ _ hx2 hne, ⟨fun i => [t0, t1, t2, tz].getD i 0, upd_same⟩, ⟨kk, ?_⟩, ⟨[], 0, ?_, .nil⟩, ?_, ?_, fun i x dx h q1 q2 q3 => ?_, ?_, nlD⟩, ?_, ?_, fun d hd' => ?_⟩
    · show upd _ _ _ _ = _
      rw [upd_ne (Ne.symm nrD), upd_ne (Ne.symm nrD), upd_ne (Ne.symm nlD), upd_ne (Ne.symm nrD), upd_same]
    · show upd _ _ _ _ = _
      rw [upd_ne nlr, upd_ne nlr, upd_same]; rfl
    · show xs.length = (ns.map _).length
      rw [List.length_map]; omega
    · show dxs.length = (ns.map _).length
      rw [List.length_map]; omega
    · have q3' : (ns.map fun x => ({ num := x } : Hnd))[i]? = some h := q3
      rw [List.getElem?_map, Option.map_eq_some_iff] at q3'
      obtain ⟨a, ha, rfl⟩ := q3'
      obtain ⟨k5, z1, z2⟩ := e5 i x dx a q1 q2 ha
      exact ⟨k5, K2 _ _ z1 (inst_ne z1 hd2), K2 _ _ z2 (dfree dx (List.mem_of_getElem? q2))⟩
    · exact List.nodup_cons.mpr ⟨fun q => dfree dR q rfl, e4⟩
    · exact (Keep.of_sub (s1.trans s2)).trans K2
    · cases z : σ lr with
      | none => rfl
      | some o => rw [s2 _ _ (s1 _ _ z)] at hlr2; cases hlr2
    · cases z : σ d with
      | none => rfl
      | some o => have := e6 d hd'; rw [s1 _ _ z] at this; cases this
theorem mk_ring (hK : g.K = heap g.w.params) {nl : Addr} {vs : List Value} {ns : List Int} {k : Nat} (hl : σ nl = some (lstO vs k)) (hi : IntsAre vs ns) (h1 : 1 ≤ ns.length) (h64 : ns.length ≤ 64) (h0 : ∀ a ∈ ns, 0 ≤ a) (hnd : ns.Nodup) :
    Fn g 4 (.ref 260) [.ref nl] σ (fun v σ' => ∃ L : RL, v = .ref L.r ∧ RingAt g.w.params 150 260 L σ' (Rng.start ns) ∧ Sub σ σ' ∧ ∀ a, L.D a → σ a = none) NoE := by
  refine fn_make (C := 260) (fI := 180) (by rw [hK]; k_is) (by rw [hK]; k_is) (by rw [hK]; k_is) fun x dx hx hdx hne => ?_
  have hl' : upd (upd σ dx (dictOf [] 0)) x (instObj 260 dx) nl = some (lstO vs k) := by rw [upd_ne (new_ne hl hx), upd_ne (new_ne hl hdx)]; exact hl
  refine (ring_init hK upd_same (look_off (Ne.symm hne) upd_same) hl' hi h1 h64 h0 hnd).mono (fun v σ' q => ?_) fun _ _ q => q
  obtain ⟨rfl, L, rfl, rfl, A, K, e1, e2⟩ := q
  refine ⟨rfl, L, rfl, A, fun b o e => K b o ?_ ?_, fun a ha => ?_⟩
  · rw [upd_ne (new_ne e hx), upd_ne (new_ne e hdx)]; exact e
  · exact new_ne e hdx
  · rcases ha with q | q | q
    · rw [q]; exact hdx
    · rw [q]; exact upd_none (upd_none e1)
    · exact upd_none (upd_none (e2 a q))
end
section
variable {g : Pg} {σ : Store} {s : LSt} {d : Addr} {k : Nat → Tok}
/-- letters, in a list that was made -/
def Lets (D : Addr → Prop) (σ : Store) (ls : List Ltr) (v : Value) (σ' : Store) : Prop := ∃ la as kk, v = .ref la ∧ σ la = none ∧ σ' la = some (lstO (as.map .ref) kk) ∧ All2 (LtrAt σ') as ls ∧ Keep D σ σ'
theorem Sub.no {σ τ : Store} (s : Sub σ τ) {a : Addr} (h : τ a = none) : σ a = none := by
  cases e : σ a with
  | none => rfl
  | some o => rw [s _ _ e] at h; cases h
theorem asks_ok (hK : g.K = heap g.w.params) (hd : DicAt g σ d (st7 s k)) (hs : s.stage ≤ 100) : Fn g 1 (.ref 311) [.ref d] σ (fun v σ' => ∃ la as kk, v = .ref la ∧ σ la = none ∧ σ' la = some (lstO (as.map .ref) kk) ∧ All2 (LtrAt σ') as s.asks ∧ Sub σ σ') NoE := by
  refine' fn_body [(Str.ofString "_law_state", .ref d)] ?k6 ?k7 ?k9 ?kB ?c5 ?c2 ?c3 ?c4 ?_
  walk_at "enter"
  intro c m hg G hsc hcl hin hm
  have m1 : m (Str.ofString "_law_state") = some (.ref d) := by rw [hm]; rfl
  clear hm
  subst hg
  show W c (execs (_ :: _) c.env) _ _ _ _
  repeat walk_at "s"
  rename_i rg r1 r2 r3 hrg
  have hd1 : DicAt c.g (upd σ rg (rngO 0 (s.stage : Int) r1 r2 r3)) d (st7 s k) := DicAt.newer hrg hd
  have s1 := sub_upd (o := rngO 0 (s.stage : Int) r1 r2 r3) hrg
  refine turns_range G (kind_is hsc (by decide +kernel)) (nocell hcl) (fun j m' σ' => σ' = upd σ rg (rngO 0 (s.stage : Int) r1 r2 r3) ∧ m' (Str.ofString "_law_state") = some (.ref d) ∧ ∃ x t, m' (Str.ofString "_law_steps") = some (.int x t) ∧ x = ((2 ^ j : Nat) : Int)) upd_same (by decide) (by decide) (by omega) (by omega) ?_ ?_ ?_
  · exact ⟨rfl, by walk_at "m", 1, _, by walk_at "m", rfl⟩
  · rintro j tj m' σ' hj ⟨rfl, n1, x1, t1, n2, e1⟩
    repeat walk_at "s"
    exact ⟨rfl, by walk_at "m", _, _, by walk_at "m", by rw [e1, Nat.pow_succ, Int.natCast_mul]; rfl⟩
  · rintro m' σ' ⟨rfl, n1, x1, t1, n2, e1⟩
    rw [Int.sub_zero, Int.toNat_natCast] at e1
    subst e1
    generalize upd σ rg (rngO 0 (s.stage : Int) r1 r2 r3) = σ1 at hd1 s1
    repeat walk_at "s"
    rename_i v14 v13 v12 v11 b1 hb1 v8 v7 v6 v5 v4 b2 hb2 la hla
    exact ⟨la, [b1, b2], 0, rfl, s1.no (by walk_at "fr"), upd_same, .cons (by walk_at "l") (.cons (by walk_at "l") .nil), ((s1.trans (sub_upd hb1)).trans (sub_upd hb2)).trans (sub_upd hla)⟩
theorem woken_ok (hK : g.K = heap g.w.params) (hd : DicAt g σ d (st7 s k)) (hs : s.stage ≤ 100) : Fn g 2 (.ref 318) [.ref d] σ (fun v σ' => (∃ k', DicAt g σ' d (st7 s.woken.1 k')) ∧ Lets (· = d) σ s.woken.2 v σ') NoE := by
  refine' fn_body [(Str.ofString "_law_state", .ref d)] ?k6 ?k7 ?k9 ?kB ?c5 ?c2 ?c3 ?c4 ?_
  walk_at "enter"
  intro c m hg G hsc hcl hin hm
  have m1 : m (Str.ofString "_law_state") = some (.ref d) := by rw [hm]; rfl
  clear hm
  subst hg
  show W c (execs (_ :: _) c.env) _ _ _ _
  repeat walk_at "s"
  refine br_any (fun q1 => ?_) fun q1 => ?_
  · repeat walk_at "s"
    rename_i a ha
    have e : s.woken = (s, []) := by unfold LSt.woken; rw [q1]; rfl
    rw [e]
    exact ⟨⟨k, DicAt.newer ha hd⟩, a, [], 0, rfl, ha, upd_same, .nil, Keep.of_sub (sub_upd ha)⟩
  · repeat walk_at "s"
    rename_i o' hd'
    have e : s.woken = ({ s with awake := true }, s.asks) := by unfold LSt.woken; rw [q1]; rfl
    rw [e]
    refine w_fn G (by decide) (asks_ok hK hd' hs) (fun v σ1 q => ?_) fun _ _ q => q.elim
    obtain ⟨la, as, kk, rfl, hn, hl, al, sb⟩ := q
    exact ⟨⟨_, hd'.sub sb⟩, la, as, kk, rfl, upd_none hn, hl, al, (show Keep (· = d) σ (upd σ d o') from Keep.refl.upd (.inl rfl)).trans (Keep.of_sub sb)⟩
end
section
variable {g : Pg} {σ σ₁ σ₂ : Store} {s : LSt} {d : Addr} {k : Nat → Tok}
theorem woken_len (s : LSt) : s.woken.2.length ≤ 2 := by
  unfold LSt.woken
  split
  · exact Nat.zero_le _
  · exact Nat.le_refl _
theorem ltrs_keep {kvs : List (Str × Value)} {as : List Addr} {ls : List Ltr} (hd : DicAt g σ₁ d kvs) (K : Keep (· = d) σ₁ σ₂) (h : All2 (LtrAt σ₁) as ls) : All2 (LtrAt σ₂) as ls :=
  h.mono fun _ _ r => (let ⟨kk, e⟩ := r; r.keep K (dicD_tup hd e))
theorem lets_add {D : Addr → Prop} {c : Cx} {m : Loc} {X Q : Value → Loc → Store → Prop} {la lb : Addr} {as bs : List Addr} {k1 k2 : Nat} {f ls : List Ltr} (K : Keep D σ σ₂) (hD : ∀ a, D a → σ₂ a ≠ none) (h1 : σ₂ la = some (lstO (as.map .ref) k1)) (a1 : All2 (LtrAt σ₂) as f) (h2 : σ₂ lb = some (lstO (bs.map .ref) k2)) (a2 : All2 (LtrAt σ₂) bs ls)
    (hz : f.length + ls.length ≤ 100) (q : ∀ v σ3, Sub σ₂ σ3 → Lets D σ (f ++ ls) v σ3 → Q v m σ3) : W c (binaryOp .Add (.ref la) (.ref lb)) m σ₂ Q X := by
  refine add_lists h1 h2 ?_ fun a ha => q _ _ (sub_upd ha) ⟨a, as ++ bs, 0, rfl, K.none ha (fun z => hD a z ha), by rw [List.map_append]; exact upd_same, ((a1.append a2).mono fun _ _ r => r.sub (sub_upd ha)), K.upd (.inr ha)⟩
  rw [List.length_map, List.length_map, a1.len, a2.len, sizeLine_eq]; omega
theorem fin {c : Cx} {m : Loc} {X Q : Value → Loc → Store → Prop} {σ σ1 σ3 : Store} {kvs : List (Str × Value)} {kk kb : Nat} {la lb : Addr} {as bs : List Addr} {f ls : List Ltr} {s2 : LSt} {k2 : Nat → Tok} (K1 : Keep (· = d) σ σ1) (hd1 : DicAt g σ1 d kvs) (hla1 : σ1 la = some (lstO (as.map .ref) kk)) (nla : la ≠ d) (al : All2 (LtrAt σ1) as f) (hz1 : f.length ≤ 2)
    (Kd : Keep (· = d) σ1 σ3) (e3 : DicAt g σ3 d (st7 s2 k2)) (hb : σ3 lb = some (lstO (bs.map .ref) kb)) (ab : All2 (LtrAt σ3) bs ls) (hz2 : ls.length ≤ 2)
    (q : ∀ v σ4, (∃ k', DicAt g σ4 d (st7 s2 k')) → Lets (· = d) σ (f ++ ls) v σ4 → Q v m σ4) : W c (binaryOp .Add (.ref la) (.ref lb)) m σ3 Q X := by
  refine lets_add (D := (· = d)) (K1.trans Kd) (fun a ha => ?_) (Kd _ _ hla1 nla) (ltrs_keep hd1 Kd al) hb ab (by omega) fun v σ4 sb L => q v σ4 ⟨_, e3.sub sb⟩ L
  subst ha
  obtain ⟨o, e, _⟩ := e3; rw [e]; exact fun z => nomatch z
set_option hygiene false in
local macro_rules | `(tactic| walk_at "kd") => `(tactic| first | exact Keep.refl | ((refine Keep.upd ?_ (.inl rfl)); walk_at "kd") | ((refine Keep.upd ?_ (.inr (by assumption))); walk_at "kd"))
theorem W.gen {c : Cx} {α : Type} {t : Sem α} {m : Loc} {σ : Store} {Q : α → Loc → Store → Prop} {X : Value → Loc → Store → Prop} (h : ∀ Q', (∀ a m σ, Q a m σ → Q' a m σ) → W c t m σ Q' X) : W c t m σ Q X := h Q fun _ _ _ q => q
/-- a step that leaves the locals alone and lets the store grow, cut off from what follows -/
theorem W.midS {c : Cx} {α : Type} {t : Sem α} {m : Loc} {σ : Store} {Q : α → Loc → Store → Prop} {X : Value → Loc → Store → Prop} (h : W c t m σ (fun _ m' σ' => m' = m ∧ Sub σ σ') X) (k : ∀ a σ', Sub σ σ' → Q a m σ') : W c t m σ Q X := h.mono (fun a m' σ' q => by rw [q.1]; exact k a σ' q.2) fun _ _ _ q => q
theorem W.cut9 {α : Type} {t : Sem α} {c : Cx} {m : Loc} {Q : α → Loc → Store → Prop} {X : Value → Loc → Store → Prop} {x1 x2 x3 x4 x5 x6 x7 x8 x9 : Str} {v1 v2 v3 v4 v5 v6 v7 v8 v9 : Value} (h1 : m x1 = some v1) (h2 : m x2 = some v2) (h3 : m x3 = some v3) (h4 : m x4 = some v4) (h5 : m x5 = some v5) (h6 : m x6 = some v6) (h7 : m x7 = some v7) (h8 : m x8 = some v8) (h9 : m x9 = some v9)
    (k : ∀ m' : Loc, m' x1 = some v1 → m' x2 = some v2 → m' x3 = some v3 → m' x4 = some v4 → m' x5 = some v5 → m' x6 = some v6 → m' x7 = some v7 → m' x8 = some v8 → m' x9 = some v9 → W c t m' σ Q X) : W c t m σ Q X := k m h1 h2 h3 h4 h5 h6 h7 h8 h9
theorem taken_ok (hK : g.K = heap g.w.params) (hd : DicAt g σ d (st7 s k)) (hs : s.stage ≤ 100) {a : Addr} {l : Ltr} (hl : LtrAt σ a l) (hls : l.word = .answer → l.num = s.num → l.stage ≤ 99) (h1 : l.word = .ask → 1 ≤ l.steps) :
    Fn g 3 (.ref 325) [.ref d, .ref a] σ (fun v σ' => (∃ k', DicAt g σ' d (st7 (s.taken l).1 k')) ∧ Lets (· = d) σ (s.taken l).2.2 v σ') NoE := by
  refine' fn_body [(Str.ofString "_law_state", .ref d), (Str.ofString "_law_letter", .ref a)] ?k6 ?k7 ?k9 ?kB ?c5 ?c2 ?c3 ?c4 ?_
  walk_at "enter"
  intro c m hg G hsc hcl hin hm
  have m1 : m (Str.ofString "_law_state") = some (.ref d) := by rw [hm]; rfl
  have m2 : m (Str.ofString "_law_letter") = some (.ref a) := by rw [hm]; rfl
  clear hm
  subst hg
  show W c (execs (_ :: _) c.env) _ _ _ _
  refine W.gen fun Q0 hQ0 => ?_
  have hQ : ∀ v m' σ', ((∃ k', DicAt c.g σ' d (st7 (s.taken l).1 k')) ∧ Lets (· = d) σ (s.taken l).2.2 v σ') → Q0 (.ret v) m' σ' := fun v m' σ' h => hQ0 _ _ _ h
  clear hQ0
  repeat walk_at "s"
  refine w_fn G (by decide) (woken_ok hK hd hs) (fun v σ1 q => ?_) fun _ _ q => q.elim
  obtain ⟨⟨k1, hd1⟩, la, as, kk, rfl, hla, hla1, al, K1⟩ := q
  obtain ⟨kl, el⟩ := id hl
  have nad := dicD_tup hd el
  have el1 := K1 _ _ el nad
  have nla := dicD_lst hd1 hla1
  have hz1 : s.woken.2.length ≤ 2 := woken_len s
  unfold LSt.taken at hQ
  generalize hs1 : s.woken.1 = s1 at hd1 hQ
  have hnm1 : s1.num = s.num := by rw [← hs1, (woken_facts s).1]
  have hst1 : s1.stage ≤ 100 := by rw [← hs1, (woken_facts s).2]; exact hs
  generalize s.woken.2 = f at al hz1 hQ
  clear hs1
  repeat walk_at "u"
  refine x_unpack G rfl rfl ?_
  repeat walk_at "u"
  refine ⟨a, _, rfl, el1, rfl, rfl, ?_⟩
  show W c (assignInOrder (_ :: _ :: _ :: _ :: _ :: []) (_ :: _ :: _ :: _ :: _ :: [])) _ _ _ _
  refine w_asn (w_asn_name ?_)
  repeat walk_at "u"
  refine w_asn (w_asn_name ?_)
  repeat walk_at "u"
  refine w_asn (w_asn_name ?_)
  repeat walk_at "u"
  refine w_asn (w_asn_name ?_)
  repeat walk_at "u"
  refine w_asn (w_asn_name ?_)
  repeat walk_at "u"
  refine w_asn_nil ?_
  repeat walk_at "u"
  unfold LSt.got at hQ
  cases hw : l.word with
  | ask =>
    rw [hw] at hQ
    dsimp only at hQ
    try dsimp only
    refine W.cut9 (x1 := Str.ofString "_law_state") (x2 := Str.ofString "_law_letter") (x3 := Str.ofString "_law_found") (x4 := Str.ofString "_law_way") (x5 := Str.ofString "_law_word") (x6 := Str.ofString "_law_number") (x7 := Str.ofString "_law_stage") (x8 := Str.ofString "_law_steps") (x9 := Str.ofString "_law_mine") (by walk_at "m") (by walk_at "m") (by walk_at "m") (by walk_at "m") (by walk_at "m") (by walk_at "m") (by walk_at "m") (by walk_at "m") (by walk_at "m") ?_
    clear m1 m2
    intro m9 m1 m2 m3 m4 m5 m6 m7 m8 m9'
    by_cases q1 : l.num = s1.num ∧ s1.first = false
    · rw [if_pos q1] at hQ
      walk_at "s"
      repeat walk_at "u"
      refine br_isT rfl ?_
      repeat walk_at "u"
      refine br_isT (beq_iff_eq.mpr q1.1) ?_
      repeat walk_at "u"
      refine br_isF q1.2 ?_
      repeat walk_at "u"
      rename_i o2 e2 t10 o3 e3 t7 t6 t5 t4 b hb lb hlb
      have Kd : Keep (· = d) σ1 (upd (upd (upd (upd σ1 d o2) d o3) b (tupO [Value.int 1 t7, Value.str (Str.ofString "crown") t6, Value.int l.num (kl 2), Value.int 0 t5, Value.int 0 t4])) lb (lstO [Value.ref b] 0)) := by walk_at "kd"
      exact fin (bs := [b]) K1 hd1 hla1 nla al hz1 Kd (DicAt.newer hlb (DicAt.newer hb e3)) upd_same (.cons (by walk_at "l") .nil) (Nat.le_of_ble_eq_true rfl) fun v σ4 a c => hQ _ _ _ ⟨a, c⟩
    · rw [if_neg q1] at hQ
      walk_at "s"
      repeat walk_at "u"
      refine br_isT rfl ?_
      repeat walk_at "u"
      by_cases q0 : l.num = s1.num
      · have qf : s1.first = true := by
          cases hf : s1.first with
          | true => rfl
          | false => exact absurd ⟨q0, hf⟩ q1
        have q2 : ¬ s1.num < l.num := by omega
        rw [if_neg q2] at hQ
        refine br_isT (beq_iff_eq.mpr q0) ?_
        repeat walk_at "u"
        refine br_isT qf ?_
        repeat walk_at "u"
        walk_at "s"
        repeat walk_at "u"
        refine br_isT rfl ?_
        repeat walk_at "u"
        refine br_isF (decide_eq_false q2) ?_
        repeat walk_at "u"
        walk_at "s"
        repeat walk_at "u"
        refine br_isF rfl ?_
        repeat walk_at "u"
        walk_at "s"
        repeat walk_at "u"
        refine br_isF rfl ?_
        repeat walk_at "u"
        exact hQ _ _ _ ⟨⟨k1, hd1⟩, la, as, kk, rfl, hla, hla1, by rw [List.append_nil]; exact al, K1⟩
      · refine br_isF (beq_eq_false_iff_ne.mpr q0) ?_
        repeat walk_at "u"
        walk_at "s"
        repeat walk_at "u"
        refine br_isT rfl ?_
        repeat walk_at "u"
        by_cases q2 : s1.num < l.num
        · rw [if_pos q2] at hQ
          refine br_isT (decide_eq_true q2) ?_
          repeat walk_at "u"
          have h1' := h1 hw
          by_cases q3 : l.steps = 1
          · rw [if_pos q3] at hQ
            walk_at "s"
            repeat walk_at "u"
            refine br_isT (beq_iff_eq.mpr (by omega)) ?_
            repeat walk_at "u"
            rename_i o1 e1 t8 t7 t6 t5 t4 b hb lb hlb
            have Kd : Keep (· = d) σ1 (upd (upd (upd σ1 d o1) b (tupO [Value.int (0 - l.way) t6, Value.str (Str.ofString "answer") t5, Value.int l.num (kl 2), Value.int (l.stage : Int) (kl 3), Value.int 0 t4])) lb (lstO [Value.ref b] 0)) := by walk_at "kd"
            exact fin (ls := [⟨-l.way, .answer, l.num, l.stage, 0⟩]) (bs := [b]) K1 hd1 hla1 nla al hz1 Kd (DicAt.newer hlb (DicAt.newer hb e1)) upd_same (.cons (ltr_of (look_new hlb upd_same) (by show 0 - l.way = -l.way; omega) rfl rfl rfl rfl) .nil) (Nat.le_of_ble_eq_true rfl) fun v σ4 a c => hQ _ _ _ ⟨a, c⟩
          · rw [if_neg q3] at hQ
            walk_at "s"
            repeat walk_at "u"
            refine br_isF (beq_eq_false_iff_ne.mpr (by omega)) ?_
            repeat walk_at "u"
            rename_i o1 e1 t9 t6 t5 t4 b hb lb hlb
            have Kd : Keep (· = d) σ1 (upd (upd (upd σ1 d o1) b (tupO [Value.int l.way (kl 0), Value.str (Str.ofString "ask") t6, Value.int l.num (kl 2), Value.int (l.stage : Int) (kl 3), Value.int ((l.steps : Int) - 1) t4])) lb (lstO [Value.ref b] 0)) := by walk_at "kd"
            exact fin (ls := [⟨l.way, .ask, l.num, l.stage, l.steps - 1⟩]) (bs := [b]) K1 hd1 hla1 nla al hz1 Kd (DicAt.newer hlb (DicAt.newer hb e1)) upd_same (.cons (ltr_of (look_new hlb upd_same) rfl rfl rfl rfl (by show (l.steps : Int) - 1 = ((l.steps - 1 : Nat) : Int); omega)) .nil) (Nat.le_of_ble_eq_true rfl) fun v σ4 a c => hQ _ _ _ ⟨a, c⟩
        · rw [if_neg q2] at hQ
          refine br_isF (decide_eq_false q2) ?_
          repeat walk_at "u"
          walk_at "s"
          repeat walk_at "u"
          refine br_isF rfl ?_
          repeat walk_at "u"
          walk_at "s"
          repeat walk_at "u"
          refine br_isF rfl ?_
          repeat walk_at "u"
          exact hQ _ _ _ ⟨⟨k1, hd1⟩, la, as, kk, rfl, hla, hla1, by rw [List.append_nil]; exact al, K1⟩
  | answer =>
    rw [hw] at hQ
    dsimp only at hQ
    try dsimp only
    refine W.cut9 (x1 := Str.ofString "_law_state") (x2 := Str.ofString "_law_letter") (x3 := Str.ofString "_law_found") (x4 := Str.ofString "_law_way") (x5 := Str.ofString "_law_word") (x6 := Str.ofString "_law_number") (x7 := Str.ofString "_law_stage") (x8 := Str.ofString "_law_steps") (x9 := Str.ofString "_law_mine") (by walk_at "m") (by walk_at "m") (by walk_at "m") (by walk_at "m") (by walk_at "m") (by walk_at "m") (by walk_at "m") (by walk_at "m") (by walk_at "m") ?_
    clear m1 m2
    intro m9 m1 m2 m3 m4 m5 m6 m7 m8 m9'
    walk_at "s"
    repeat walk_at "u"
    refine br_isF rfl ?_
    repeat walk_at "u"
    walk_at "s"
    repeat walk_at "u"
    refine br_isF rfl ?_
    repeat walk_at "u"
    walk_at "s"
    repeat walk_at "u"
    refine br_isT rfl ?_
    repeat walk_at "u"
    by_cases q1 : l.num = s1.num
    · rw [if_pos q1] at hQ
      refine br_isT (beq_iff_eq.mpr q1) ?_
      repeat walk_at "u"
      refine es_came (a := s1.came + 1) hd1 fun o1 e1 => ?_
      repeat walk_at "u"
      walk_at "s"
      repeat walk_at "u"
      by_cases q2 : s1.came + 1 = 2 ∧ s1.beaten = false
      · rw [if_pos q2] at hQ
        refine br_isT (beq_iff_eq.mpr (by show ((s1.came + 1 : Nat) : Int) = 2; omega)) ?_
        repeat walk_at "u"
        refine br_isF q2.2 ?_
        repeat walk_at "u"
        refine es_came (a := 0) e1 fun o2 e2 => ?_
        repeat walk_at "u"
        refine es_stage (a := l.stage + 1) e2 fun o3 e3 => ?_
        repeat walk_at "u"
        refine w_fn G (by decide) (asks_ok hK e3 (by show l.stage + 1 ≤ 100; have := hls hw (q1.trans hnm1); omega)) (fun v σ5 q => ?_) fun _ _ q => q.elim
        obtain ⟨lb, bs, kb, rfl, hlbn, hlb, ab, sb5⟩ := q
        have Kd : Keep (· = d) σ1 (upd (upd (upd σ1 d o1) d o2) d o3) := by walk_at "kd"
        have Kd5 : Keep (· = d) σ1 σ5 := Kd.trans (Keep.of_sub sb5)
        repeat walk_at "u"
        exact fin K1 hd1 hla1 nla al hz1 Kd5 (e3.sub sb5) hlb ab (Nat.le_of_ble_eq_true rfl) fun v σ4 a c => hQ _ _ _ ⟨a, c⟩
      · rw [if_neg q2] at hQ
        have Kd : Keep (· = d) σ1 (upd σ1 d o1) := by walk_at "kd"
        refine br_any (fun q3 => ?_) fun q3 => ?_
        · repeat walk_at "u"
          have q4 : s1.beaten = true := by
            cases hb : s1.beaten with
            | true => rfl
            | false =>
              have q5 : ((s1.came + 1 : Nat) : Int) = 2 := beq_iff_eq.mp q3
              exact absurd ⟨by omega, hb⟩ q2
          refine br_isT q4 ?_
          repeat walk_at "u"
          exact hQ _ _ _ ⟨⟨_, e1⟩, la, as, kk, rfl, hla, look_off nla hla1, by rw [List.append_nil]; exact ltrs_keep hd1 Kd al, K1.trans Kd⟩
        · repeat walk_at "u"
          exact hQ _ _ _ ⟨⟨_, e1⟩, la, as, kk, rfl, hla, look_off nla hla1, by rw [List.append_nil]; exact ltrs_keep hd1 Kd al, K1.trans Kd⟩
    · rw [if_neg q1] at hQ
      refine br_isF (beq_eq_false_iff_ne.mpr q1) ?_
      repeat walk_at "u"
      walk_at "s"
      repeat walk_at "u"
      refine br_isT rfl ?_
      repeat walk_at "u"
      refine br_isF (beq_eq_false_iff_ne.mpr q1) ?_
      repeat walk_at "u"
      walk_at "s"
      repeat walk_at "u"
      refine br_isF rfl ?_
      repeat walk_at "u"
      rename_i lb hlb
      have Kd : Keep (· = d) σ1 (upd σ1 lb (lstO [Value.ref a] 0)) := by walk_at "kd"
      exact fin (bs := [a]) K1 hd1 hla1 nla al hz1 Kd (DicAt.newer hlb hd1) upd_same (.cons ⟨kl, look_new hlb el1⟩ .nil) (Nat.le_of_ble_eq_true rfl) fun v σ4 a c => hQ _ _ _ ⟨a, c⟩
  | crown =>
    rw [hw] at hQ
    dsimp only at hQ
    try dsimp only
    refine W.cut9 (x1 := Str.ofString "_law_state") (x2 := Str.ofString "_law_letter") (x3 := Str.ofString "_law_found") (x4 := Str.ofString "_law_way") (x5 := Str.ofString "_law_word") (x6 := Str.ofString "_law_number") (x7 := Str.ofString "_law_stage") (x8 := Str.ofString "_law_steps") (x9 := Str.ofString "_law_mine") (by walk_at "m") (by walk_at "m") (by walk_at "m") (by walk_at "m") (by walk_at "m") (by walk_at "m") (by walk_at "m") (by walk_at "m") (by walk_at "m") ?_
    clear m1 m2
    intro m9 m1 m2 m3 m4 m5 m6 m7 m8 m9'
    walk_at "s"
    repeat walk_at "u"
    refine br_isF rfl ?_
    repeat walk_at "u"
    walk_at "s"
    repeat walk_at "u"
    refine br_isF rfl ?_
    repeat walk_at "u"
    walk_at "s"
    repeat walk_at "u"
    refine br_isF rfl ?_
    repeat walk_at "u"
    walk_at "s"
    repeat walk_at "u"
    refine br_isT rfl ?_
    repeat walk_at "u"
    by_cases q1 : l.num = s1.num
    · rw [if_pos q1] at hQ
      refine br_isT (beq_iff_eq.mpr q1) ?_
      repeat walk_at "u"
      exact hQ _ _ _ ⟨⟨k1, hd1⟩, la, as, kk, rfl, hla, hla1, by rw [List.append_nil]; exact al, K1⟩
    · rw [if_neg q1] at hQ
      refine br_isF (beq_eq_false_iff_ne.mpr q1) ?_
      repeat walk_at "u"
      walk_at "s"
      repeat walk_at "u"
      refine br_isT rfl ?_
      repeat walk_at "u"
      rename_i o1 e1 lb hlb
      have Kd : Keep (· = d) σ1 (upd (upd σ1 d o1) lb (lstO [Value.ref a] 0)) := by walk_at "kd"
      exact fin (ls := [l]) (bs := [a]) K1 hd1 hla1 nla al hz1 Kd (DicAt.newer hlb e1) upd_same (.cons ⟨kl, look_new hlb (look_off nad el1)⟩ .nil) (Nat.le_of_ble_eq_true rfl) fun v σ4 a c => hQ _ _ _ ⟨a, c⟩
end
section
variable {g : Pg} {σ : Store} {ho lh lm : Addr} {ds : List Addr} {ss : List LSt} {ms : List (Nat × Ltr)} {n : Nat}
theorem put_ok (hK : g.K = heap g.w.params) (H : HouseAt g σ ho lh lm ds ss ms n) {p : Nat} {t : Tok} {la : Addr} {as : List Addr} {ls : List Ltr} {kk : Nat} (hla : σ la = some (lstO (as.map .ref) kk)) (nla : la ≠ lm) (al : All2 (LtrAt σ) as ls)
    (hd0 : 0 < ds.length) (hd64 : ds.length ≤ 64) (hz : ms.length + ls.length ≤ 200000) :
    Fn g 1 (.ref 332) [.ref ho, .int (p : Int) t, .ref la] σ (fun v σ' => v = .none ∧ HouseAt g σ' ho lh lm ds ss (ms ++ ls.map (fun l => (dest ds.length p l.way, l))) (n + ls.length) ∧ Keep (fun b => b = ho ∨ b = lm) σ σ') NoE := by
  refine' fn_body [(Str.ofString "_law_house", .ref ho), (Str.ofString "_law_place", .int (p : Int) t), (Str.ofString "_law_letters_here", .ref la)] ?k6 ?k7 ?k9 ?kB ?c5 ?c2 ?c3 ?c4 ?_
  walk_at "enter"
  intro c m hg G hsc hcl hin hm
  have m1 : m (Str.ofString "_law_house") = some (.ref ho) := by rw [hm]; rfl
  have m2 : m (Str.ofString "_law_place") = some (.int (p : Int) t) := by rw [hm]; rfl
  have m3 : m (Str.ofString "_law_letters_here") = some (.ref la) := by rw [hm]; rfl
  clear hm
  subst hg
  show W c (execs (_ :: _) c.env) _ _ _ _
  obtain ⟨t0, hho⟩ := H.dic
  have nlo := dicD_lst hho hla
  have lenm : ∀ j, (ms ++ (ls.take j).map (fun l => (dest ds.length p l.way, l))).length ≤ ms.length + ls.length := fun j => by
    rw [List.length_append, List.length_map, List.length_take]; omega
  repeat walk_at "s"
  refine turns_list (vs := as.map .ref) (k := kk) G (kind_is hsc (by decide +kernel)) (nocell hcl) (fun j m' σ' => HouseAt c.g σ' ho lh lm ds ss (ms ++ (ls.take j).map (fun l => (dest ds.length p l.way, l))) (n + j) ∧ Keep (fun b => b = ho ∨ b = lm) σ σ' ∧ m' (Str.ofString "_law_house") = some (.ref ho) ∧ m' (Str.ofString "_law_place") = some (.int (p : Int) t)) ?_ ?_ ?_ ?_
  · intro i m' σ' J
    exact J.2.1 _ _ hla (fun q => q.elim nlo nla)
  · refine ⟨?_, Keep.refl, m1, m2⟩
    rw [List.take_zero, List.map_nil, List.append_nil]
    exact H
  · intro j v m' σ' hv J
    obtain ⟨H', K', n1, n2⟩ := J
    rw [List.getElem?_map, Option.map_eq_some_iff] at hv
    obtain ⟨a, ha, rfl⟩ := hv
    obtain ⟨l, hl, kl, el⟩ := al.get' ha
    have hjl : j < ls.length := by
      rcases Nat.lt_or_ge j ls.length with q | q
      · exact q
      · rw [List.getElem?_eq_none q] at hl; cases hl
    obtain ⟨km0, em0⟩ : ∃ bs k, σ lm = some (lstO (bs.map .ref) k) := let ⟨bs, k, e, _⟩ := H.mails; ⟨bs, k, e⟩
    have el' : σ' a = some (tupO (ltrV l kl)) := K' _ _ el (fun q => q.elim (dicD_tup hho el) (let ⟨bs, k, e, _⟩ := H.mails; tup_lst el e))
    obtain ⟨t1, hd1⟩ := H'.dic
    obtain ⟨kh, hh⟩ := H'.hands
    obtain ⟨bs, km, em, am⟩ := H'.mails
    have hlen := lenm j
    have hbl := am.len
    have hm1 : (ds.map Value.ref).length ≤ 64 := by rw [List.length_map]; exact hd64
    repeat walk_at "s"
    rw [List.length_map]
    refine i_mod (by omega) fun _ => ?_
    rw [dest_fmod hd0]
    repeat walk_at "s"
    rename_i tm b1 hb1
    refine add_tups (ws := ltrV l kl) upd_same (by walk_at "o") (fun q => nomatch q) (fun q => nomatch q) (Nat.le_of_ble_eq_true rfl) fun b hb => ?_
    have s2 := (sub_upd (o := tupO [.int ((dest ds.length p l.way : Nat) : Int) tm]) hb1).trans (sub_upd (o := tupO ([.int ((dest ds.length p l.way : Nat) : Int) tm] ++ ltrV l kl)) hb)
    have H2 := H'.sub s2
    have hd2 := hd1.sub s2
    have em2 := s2 _ _ em
    have am2 : All2 (MailAt (upd (upd σ' b1 (tupO [.int ((dest ds.length p l.way : Nat) : Int) tm])) b (tupO ([.int ((dest ds.length p l.way : Nat) : Int) tm] ++ ltrV l kl)))) bs _ := am.mono fun _ _ r => r.sub s2
    have K2 := K'.trans (Keep.of_sub (D := fun b => b = ho ∨ b = lm) s2)
    have hbm : MailAt (upd (upd σ' b1 (tupO [.int ((dest ds.length p l.way : Nat) : Int) tm])) b (tupO ([.int ((dest ds.length p l.way : Nat) : Int) tm] ++ ltrV l kl))) b (dest ds.length p l.way, l) := ⟨_, kl, upd_same⟩
    generalize upd (upd σ' b1 (tupO [.int ((dest ds.length p l.way : Nat) : Int) tm])) b (tupO ([.int ((dest ds.length p l.way : Nat) : Int) tm] ++ ltrV l kl)) = σ2 at H2 hd2 em2 am2 K2 hbm
    repeat walk_at "s"
    refine w_append em2 (by rw [sizeLine_eq, List.length_map]; omega) ?_
    have hd3 := hd2.off (a := lm) (o := lstO (bs.map .ref ++ [.ref b]) (km + 1)) (Ne.symm (dicD_lst hd2 em2))
    repeat walk_at "s"
    rename_i o3 e3
    refine ⟨?_, (K2.upd (.inr rfl |> .inl)).upd (.inl (.inl rfl)), by walk_at "m", by walk_at "m"⟩
    have H3 := H2.post (n' := n + (j + 1)) em2 am2 hbm (k' := km + 1) (by
      have : ((n + j : Nat) : Int) + 1 = ((n + (j + 1) : Nat) : Int) := by omega
      rw [← this]; exact e3)
    rw [List.take_succ, hl]
    simpa using H3
  · intro m' σ' J
    obtain ⟨H', K', n1, n2⟩ := J
    rw [List.length_map, al.len, List.take_length] at H'
    repeat walk_at "s"
    exact ⟨rfl, H', K'⟩
end
section
variable {g : Pg} {σ : Store} {ho lh lm : Addr} {ds : List Addr} {ss : List LSt} {ms : List (Nat × Ltr)} {n : Nat}
theorem came_ok5 (hK : g.K = heap g.w.params) (H : HouseAt g σ ho lh lm ds ss ms n) {k p : Nat} {t : Tok} {l : Ltr} {s : LSt} (hk : ms[k]? = some (p, l)) (hs : ss[p]? = some s) (F : Fair s l) (hst : s.stage ≤ 90) (hd64 : ds.length ≤ 64) (hz : ms.length ≤ 150000) :
    Fn g 4 (.ref 339) [.ref ho, .int (k : Int) t] σ (fun v σ' => (∃ b, v = .ref b ∧ MailAt σ' b (p, l)) ∧ HouseAt g σ' ho lh lm ds (ss.set p (s.taken l).1) (ms.eraseIdx k ++ (s.taken l).2.2.map (fun l => (dest ds.length p l.way, l))) (n + (s.taken l).2.2.length) ∧ Keep (HD ho lm ds) σ σ') NoE := by
  obtain ⟨d, hd, k7, hd7⟩ := H.each.get hs
  have hdm := List.mem_of_getElem? hd
  have hpl : p < ds.length := (List.getElem?_eq_some_iff.mp hd).1
  obtain ⟨t0, hho⟩ := H.dic
  obtain ⟨kh, hh⟩ := H.hands
  obtain ⟨bs, km, em, am⟩ := H.mails
  have hml := am.len
  have hlt : k < ms.length := (List.getElem?_eq_some_iff.mp hk).1
  obtain ⟨b, eb, tb, kb, hb⟩ := am.get hk
  have H1 := H.popped (k' := km + 1) em am k
  have nhm : lh ≠ lm := Ne.symm H.ne
  have nmo := dicD_lst hho em
  have nbm := tup_lst hb em
  refine' fn_body [(Str.ofString "_law_house", .ref ho), (Str.ofString "_law_at", .int (k : Int) t)] ?k6 ?k7 ?k9 ?kB ?c5 ?c2 ?c3 ?c4 ?_
  walk_at "enter"
  intro c m hg G hsc hcl hin hm
  have m1 : m (Str.ofString "_law_house") = some (.ref ho) := by rw [hm]; rfl
  have m2 : m (Str.ofString "_law_at") = some (.int (k : Int) t) := by rw [hm]; rfl
  clear hm
  subst hg
  show W c (execs (_ :: _) c.env) _ _ _ _
  repeat walk_at "s"
  refine w_pop (j := k) (v := .ref b) em (by rw [List.length_map, sizeLine_eq]; omega) rfl (by rw [List.getElem?_map, eb]; rfl) ?_
  have K1 : Keep (HD ho lm ds) σ (upd σ lm (lstO ((bs.map .ref).eraseIdx k) (km + 1))) := Keep.refl.upd (.inl (.inr (.inl rfl)))
  have hb1 := look_off (o' := lstO ((bs.map .ref).eraseIdx k) (km + 1)) nbm hb
  obtain ⟨t1, hho1⟩ := H1.dic
  obtain ⟨kh1, hh1⟩ := H1.hands
  have hd71 : DicAt c.g (upd σ lm (lstO ((bs.map .ref).eraseIdx k) (km + 1))) d (st7 s k7) := hd7.off (Ne.symm (dicD_lst hd7 em))
  generalize upd σ lm (lstO ((bs.map .ref).eraseIdx k) (km + 1)) = σ1 at H1 K1 hb1 hho1 hh1 hd71
  repeat walk_at "s"
  refine w_item (v := .ref d) hh1 (by omega) (by omega) (by rw [Int.toNat_natCast, List.getElem?_map, hd]; rfl) ?_ (by with_unfolding_all rfl)
  repeat walk_at "s"
  refine ⟨b, _, 1, _, rfl, rfl, hb1, Nat.le_refl _, Nat.le_of_ble_eq_true rfl, Nat.le_of_ble_eq_true rfl, fun a ha => ?_⟩
  have s2 := sub_upd (o := tupO (ltrV l kb)) ha
  have H2 := H1.sub s2
  have hd72 := hd71.sub s2
  have hb2 := s2 _ _ hb1
  have T2 : LtrAt (upd σ1 a (tupO (ltrV l kb))) a l := ⟨kb, upd_same⟩
  have K2 := K1.trans (Keep.of_sub s2)
  generalize hσ2 : upd σ1 a (tupO (ltrV l kb)) = σ2 at H2 hd72 hb2 T2 K2
  show W c _ _ (upd σ1 a (tupO (ltrV l kb))) _ _
  rw [hσ2]
  repeat walk_at "s"
  refine w_fn G (by decide) (taken_ok hK hd72 (by omega) T2 (fun q z => by rw [F.answer q z]; omega) F.ask) (fun v σ3 q => ?_) fun _ _ q => q.elim
  obtain ⟨⟨k3, hd3⟩, la, as, kk, rfl, hla0, hla, al, K3⟩ := q
  have H3 := H2.turn hd K3 hd3
  have hb3 := K3 _ _ hb2 (dicD_tup hd72 hb2)
  have K3' := K2.trans (K3.wide (D' := HD ho lm ds) fun b q => .inr (.inr (q ▸ hdm)))
  have f5 := taken_len s l
  repeat walk_at "s"
  refine w_fn G (by decide) (put_ok hK H3 hla (fun q => ?_) al (by omega) hd64 ?_) (fun v σ4 q => ?_) fun _ _ q => q.elim
  · obtain ⟨bs2, k2, e2, _⟩ := H2.mails
    rw [q, e2] at hla0; cases hla0
  · rw [List.length_eraseIdx]; split <;> omega
  · obtain ⟨rfl, H4, K4⟩ := q
    have hb4 := K4 _ _ hb3 (fun q => q.elim (let ⟨t, e⟩ := H3.dic; dicD_tup e hb3) (let ⟨bs, k, e, _⟩ := H3.mails; tup_lst hb3 e))
    repeat walk_at "s"
    exact ⟨⟨b, rfl, tb, kb, hb4⟩, H4, K3'.trans (K4.wide fun b q => q.elim .inl fun q => .inr (.inl q))⟩
end
theorem w_cut {c : Cx} {α : Type} {x : Sem α} {m : Loc} {τ : Store} {Q : α → Loc → Store → Prop} {X : Value → Loc → Store → Prop} (Φ : Store → Prop) (h : Φ τ) (k : ∀ τ', Φ τ' → W c x m τ' Q X) : W c x m τ Q X := k τ h
section
variable {g : Pg} {σ σ' : Store} {L : RL} {ho lh lm : Addr} {ds : List Addr} {nums : List Int} {R R' : Rng} {ss ss' : List LSt} {CH CR : Addr}
theorem HouseAt.noTup {ms : List (Nat × Ltr)} {n : Nat} (H : HouseAt g σ ho lh lm ds ss ms n) : ∀ b vs, HD ho lm ds b → σ b ≠ some (tupO vs) := by
  rintro b vs (rfl | rfl | hb) e
  · obtain ⟨t, h⟩ := H.dic; exact dicD_tup h e rfl
  · obtain ⟨bs, k, h, _⟩ := H.mails; exact tup_lst e h rfl
  · obtain ⟨i, hi, rfl⟩ := List.getElem_of_mem hb
    obtain ⟨s, _, k, h⟩ := H.each.get' (List.getElem?_eq_getElem hi)
    exact dicD_tup h e rfl
/-- the ring and the house, each at its place -/
structure S05 (g : Pg) (CH CR : Addr) (L : RL) (ho lh lm : Addr) (ds : List Addr) (nums : List Int) (σ : Store) (R : Rng) (ss : List LSt) : Prop where
  A : RingAt g.w.params CH CR L σ R
  W : HouseAt g σ ho lh lm ds ss R.road R.many
  H : House nums R ss
  ap : ∀ b, (b = lh ∨ HD ho lm ds b) → ¬ L.F b
  len : ds.length = nums.length
  n64 : nums.length ≤ 64
  cnt : R.road.length ≤ R.many
def D05 (L : RL) (ho lm : Addr) (ds : List Addr) : Addr → Prop := fun b => L.D b ∨ HD ho lm ds b
theorem S05.sub (I : S05 g CH CR L ho lh lm ds nums σ R ss) (s : Sub σ σ') : S05 g CH CR L ho lh lm ds nums σ' R ss := ⟨I.A.sub s, I.W.sub s, I.H, I.ap, I.len, I.n64, I.cnt⟩
theorem S05.most (I : S05 g CH CR L ho lh lm ds nums σ R ss) : R.road.length ≤ 100000 := Nat.le_trans I.cnt (Nat.le_trans (I.H.good.bound I.n64) (bnd_le _ I.n64))
theorem S05.pos (I : S05 g CH CR L ho lh lm ds nums σ R ss) : 0 < nums.length := I.H.good.pos
theorem S05.xs (I : S05 g CH CR L ho lh lm ds nums σ R ss) : L.xs.length = nums.length := I.A.lenx.trans I.H.good.len
/-- the ring stays when the house turns -/
theorem S05.ringStays (I : S05 g CH CR L ho lh lm ds nums σ R ss) (K : Keep (HD ho lm ds) σ σ') : RingAt g.w.params CH CR L σ' R :=
  I.A.off K (fun b q => I.ap b (.inr q)) I.W.noTup
theorem house_stays {P : Params} {ms : List (Nat × Ltr)} {n : Nat} (W : HouseAt g σ ho lh lm ds ss ms n) (ap : ∀ b, (b = lh ∨ HD ho lm ds b) → ¬ L.F b) (A : RingAt P CH CR L σ R) (K : Keep L.D σ σ') : HouseAt g σ' ho lh lm ds ss ms n :=
  W.off K (fun q => ap _ (.inr (.inl rfl)) (RL.D_F q)) (fun q => ap _ (.inl rfl) (RL.D_F q)) (fun q => ap _ (.inr (.inr (.inl rfl))) (RL.D_F q)) (fun d hd q => ap _ (.inr (.inr (.inr hd))) (RL.D_F q)) (fun b vs q e => A.notD_tup e q)
theorem HouseAt.notNew {ms : List (Nat × Ltr)} {n : Nat} (H : HouseAt g σ ho lh lm ds ss ms n) {a : Addr} (h : σ a = none) : ¬ HD ho lm ds a := by
  rintro (rfl | rfl | hb)
  · obtain ⟨t, o, e, _⟩ := H.dic; rw [h] at e; cases e
  · obtain ⟨bs, k, e, _⟩ := H.mails; rw [h] at e; cases e
  · obtain ⟨i, hi, rfl⟩ := List.getElem_of_mem hb
    obtain ⟨s, _, k, o, e, _⟩ := H.each.get' (List.getElem?_eq_getElem hi)
    rw [h] at e; cases e
end
section
variable {g : Pg} {σ : Store} {ns : List Int}
theorem cell_ok (hK : g.K = heap g.w.params) (hB : IntsAre g.bv ns) (h63 : ns.length ≤ 63) {k : Int} (h0 : 0 ≤ k) {t : Tok} : Fn g 1 (.ref 271) [.ref g.bl, .int k t] σ (fun v σ' => (∃ t, v = .int (ns.getD k.toNat 0) t) ∧ σ' = σ) NoE := by
  have hlen := hB.length
  refine' fn_body [(Str.ofString "_law_script", .ref g.bl), (Str.ofString "_law_k", .int k t)] ?k6 ?k7 ?k9 ?kB ?c5 ?c2 ?c3 ?c4 ?_
  walk_at "enter"
  intro c m hg G hsc hcl hin hm
  have m1 : m (Str.ofString "_law_script") = some (.ref g.bl) := by rw [hm]; rfl
  have m2 : m (Str.ofString "_law_k") = some (.int k t) := by rw [hm]; rfl
  clear hm
  subst hg
  show W c (execs (_ :: _) c.env) _ _ _ _
  repeat walk_at "s"
  refine br_dec (fun q1 => ?_) fun q1 => ?_
  · repeat walk_at "s"
    have hlt : k.toNat < ns.length := by omega
    have hv : c.g.bv[k.toNat]? = some c.g.bv[k.toNat] := List.getElem?_eq_getElem (by omega)
    obtain ⟨a, t', ha, e⟩ := ints_get hB hv
    refine w_item_base (v := .int a t') G.base (by omega) (by omega) (by rw [hv, e]) ?_ (by with_unfolding_all rfl)
    refine ⟨⟨t', ?_⟩, rfl⟩
    rw [List.getD_eq_getElem?_getD, ha]; rfl
  · repeat walk_at "s"
    rw [List.getD_eq_getElem?_getD, List.getElem?_eq_none (by omega)]
    exact ⟨⟨_, rfl⟩, rfl⟩
theorem whole_ok (hK : g.K = heap g.w.params) {k : Int} {t : Tok} : Fn g 1 (.ref 278) [.int k t] σ (fun v σ' => v = .bool true ∧ σ' = σ) NoE := by
  refine' fn_body [(Str.ofString "_law_found", .int k t)] ?k6 ?k7 ?k9 ?kB ?c5 ?c2 ?c3 ?c4 ?_
  walk_at "enter"
  intro c m hg G hsc hcl hin hm
  have m1 : m (Str.ofString "_law_found") = some (.int k t) := by rw [hm]; rfl
  clear hm
  subst hg
  show W c (execs (_ :: _) c.env) _ _ _ _
  repeat walk_at "s"
  exact ⟨rfl, rfl⟩
end
section
variable {g : Pg} {σ : Store}
theorem truth_ok (hK : g.K = heap g.w.params) {a b : Bool} : Fn g 1 (.ref 292) [.bool a, .bool b] σ (fun v σ' => v = .bool (a == b) ∧ σ' = σ) NoE := by
  refine' fn_body [(Str.ofString "_law_found", .bool a), (Str.ofString "_law_due", .bool b)] ?k6 ?k7 ?k9 ?kB ?c5 ?c2 ?c3 ?c4 ?_
  walk_at "enter"
  intro c m hg G hsc hcl hin hm
  have m1 : m (Str.ofString "_law_found") = some (.bool a) := by rw [hm]; rfl
  have m2 : m (Str.ofString "_law_due") = some (.bool b) := by rw [hm]; rfl
  clear hm
  subst hg
  show W c (execs (_ :: _) c.env) _ _ _ _
  repeat walk_at "s"
  exact ⟨rfl, rfl⟩
theorem whole_str (hK : g.K = heap g.w.params) {x : Str} {t : Tok} : Fn g 1 (.ref 278) [.str x t] σ (fun v σ' => v = .bool false ∧ σ' = σ) NoE := by
  refine' fn_body [(Str.ofString "_law_found", .str x t)] ?k6 ?k7 ?k9 ?kB ?c5 ?c2 ?c3 ?c4 ?_
  walk_at "enter"
  intro c m hg G hsc hcl hin hm
  have m1 : m (Str.ofString "_law_found") = some (.str x t) := by rw [hm]; rfl
  clear hm
  subst hg
  show W c (execs (_ :: _) c.env) _ _ _ _
  repeat walk_at "s"
  refine isi_str_int ?_
  repeat walk_at "s"
  exact ⟨rfl, rfl⟩
theorem letters_ok (hK : g.K = heap g.w.params) {l₁ l₂ : Addr} {as bs : List Addr} {ps : List (Nat × Ltr)} {k₁ k₂ : Nat} (h1 : σ l₁ = some (lstO (as.map .ref) k₁)) (h2 : σ l₂ = some (lstO (bs.map .ref) k₂)) (a1 : All2 (MailAt σ) as ps) (a2 : All2 (MailAt σ) bs ps) (hz : ps.length ≤ 150000) :
    Fn g 2 (.ref 285) [.ref l₁, .ref l₂] σ (fun v σ' => v = .bool true ∧ σ' = σ) NoE := by
  have n1 := a1.len
  have n2 := a2.len
  have z1 : (as.map Value.ref).length ≤ 150000 := by rw [List.length_map]; omega
  have z2 : (bs.map Value.ref).length ≤ 150000 := by rw [List.length_map]; omega
  refine' fn_body [(Str.ofString "_law_found", .ref l₁), (Str.ofString "_law_due", .ref l₂)] ?k6 ?k7 ?k9 ?kB ?c5 ?c2 ?c3 ?c4 ?_
  walk_at "enter"
  intro c m hg G hsc hcl hin hm
  have m1 : m (Str.ofString "_law_found") = some (.ref l₁) := by rw [hm]; rfl
  have m2 : m (Str.ofString "_law_due") = some (.ref l₂) := by rw [hm]; rfl
  clear hm
  subst hg
  show W c (execs (_ :: _) c.env) _ _ _ _
  repeat walk_at "s"
  refine br_isF (by rw [List.length_map, List.length_map, n1, n2]; exact bne_self_eq_false _) ?_
  repeat walk_at "s"
  refine turns_list (vs := as.map .ref) (k := k₁) G (kind_is hsc (by decide +kernel)) (nocell hcl) (fun j m' σ' => σ' = σ ∧ m' (Str.ofString "_law_found") = some (.ref l₁) ∧ m' (Str.ofString "_law_due") = some (.ref l₂)) ?_ ?_ ?_ ?_
  · rintro i m' σ' ⟨rfl, _⟩; exact h1
  · exact ⟨rfl, by walk_at "m", by walk_at "m"⟩
  · rintro j v m' σ' hv ⟨rfl, q1, q2⟩
    rw [List.getElem?_map, Option.map_eq_some_iff] at hv
    obtain ⟨a, ha, rfl⟩ := hv
    obtain ⟨p, _, t, k, ea⟩ := a1.get' ha
    repeat walk_at "s"
    refine isi_tup ea ?_
    repeat walk_at "s"
    refine turns_tup (vs := .int (p.1 : Int) t :: ltrV p.2 k) G (kind_is hsc (by decide +kernel)) (nocell hcl) (fun j m' σ'' => σ'' = σ' ∧ m' (Str.ofString "_law_found") = some (.ref l₁) ∧ m' (Str.ofString "_law_due") = some (.ref l₂)) ?_ ?_ ?_ ?_
    · rintro i m' σ' ⟨rfl, _⟩; exact ea
    · exact ⟨rfl, by walk_at "m", by walk_at "m"⟩
    · rintro i v m' σ'' hv ⟨rfl, q1, q2⟩
      rcases part_kind hv with ⟨b, u, rfl⟩ | ⟨x, u, rfl⟩
      · repeat walk_at "s"
        refine w_fn G (by decide) (whole_ok hK) (fun v σ7 q => ?_) fun _ _ q => q.elim
        obtain ⟨rfl, rfl⟩ := q
        repeat walk_at "s"
        exact ⟨rfl, by walk_at "m", by walk_at "m"⟩
      · repeat walk_at "s"
        refine w_fn G (by decide) (whole_str hK) (fun v σ7 q => ?_) fun _ _ q => q.elim
        obtain ⟨rfl, rfl⟩ := q
        repeat walk_at "s"
        refine isi_str_str ?_
        repeat walk_at "s"
        exact ⟨rfl, by walk_at "m", by walk_at "m"⟩
    · rintro m' σ'' ⟨rfl, q1, q2⟩
      repeat walk_at "s"
      exact ⟨rfl, by walk_at "m", by walk_at "m"⟩
  · rintro m' σ' ⟨rfl, q1, q2⟩
    repeat walk_at "s"
    refine eq_mails G h1 h2 a1 a2 ?_
    exact ⟨rfl, rfl⟩
end
section
variable {g : Pg} {σ : Store} {L : RL} {ho lh lm : Addr} {ds : List Addr} {nums : List Int} {R : Rng} {ss : List LSt}
theorem step_ok (hK : g.K = heap g.w.params) (I : S05 g 150 260 L ho lh lm ds nums σ R ss) {a : Int} {t : Tok} :
    Fn g 6 (.ref 346) [.ref L.r, .ref ho, .int a t] σ (fun v σ' => v = .bool true ∧ (∃ R' ss', S05 g 150 260 L ho lh lm ds nums σ' R' ss') ∧ Keep (D05 L ho lm ds) σ σ') NoE := by
  have n64 := I.n64
  have hpos := I.pos
  have hdl := I.len
  refine' fn_body [(Str.ofString "_law_ring", .ref L.r), (Str.ofString "_law_house", .ref ho), (Str.ofString "_law_cell", .int a t)] ?k6 ?k7 ?k9 ?kB ?c5 ?c2 ?c3 ?c4 ?_
  walk_at "enter"
  intro c m hg G hsc hcl hin hm
  have m1 : m (Str.ofString "_law_ring") = some (.ref L.r) := by rw [hm]; rfl
  have m2 : m (Str.ofString "_law_house") = some (.ref ho) := by rw [hm]; rfl
  have m3 : m (Str.ofString "_law_cell") = some (.int a t) := by rw [hm]; rfl
  clear hm
  subst hg
  show W c (execs (_ :: _) c.env) _ _ _ _
  refine W.gen fun Q0 hQ0 => ?_
  obtain ⟨t0, hho0⟩ := I.W.dic
  obtain ⟨kh0, hlh0⟩ := I.W.hands
  obtain ⟨bs0, km0, em0, am0⟩ := I.W.mails
  have hm64 : (ds.map Value.ref).length ≤ 64 := by rw [List.length_map]; omega
  repeat walk_at "u"
  rw [List.length_map, hdl]
  refine i_mod (by omega) fun tp => ?_
  obtain ⟨p, ep, hp⟩ := fmod_nat (n := nums.length) hpos (a.fdiv 4)
  rw [ep]
  repeat walk_at "u"
  walk_at "s"
  refine W.midS ?_ fun bt τ sb => ?_
  · repeat walk_at "u"
    refine br_any (fun q1 => ?_) fun q1 => ?_
    · exact ⟨rfl, Sub.refl _⟩
    · repeat walk_at "u"
      rename_i z hz0
      refine br_any (fun _ => ⟨rfl, sub_upd hz0⟩) fun _ => ?_
      repeat walk_at "u"
      exact ⟨rfl, sub_upd hz0⟩
  refine br_any (fun q1 => ?_) fun q1 => ?_
  · have I1 := I.sub sb
    have K0 : Keep (D05 L ho lm ds) σ τ := Keep.of_sub sb
    obtain ⟨h, s, hh, hs⟩ := I1.H.at hp
    obtain ⟨d, hd, k7, hd7⟩ := I1.W.each.get hs
    have hdm := List.mem_of_getElem? hd
    obtain ⟨kh, hlh⟩ := I1.W.hands
    obtain ⟨t0, hho⟩ := I1.W.dic
    have hst := I1.H.low I1.n64 hh hs
    have hmost := I1.most
    have hlen := I1.len
    have hwl := woken_len s
    have hsim := I1.H.sim p h s hh hs
    repeat walk_at "u"
    refine w_item (v := .ref d) hlh (by omega) (by omega) (by rw [Int.toNat_natCast, List.getElem?_map, hd]; rfl) ?_ (by with_unfolding_all rfl)
    repeat walk_at "u"
    refine w_item (v := .ref d) hlh (by omega) (by omega) (by rw [Int.toNat_natCast, List.getElem?_map, hd]; rfl) ?_ (by with_unfolding_all rfl)
    repeat walk_at "u"
    refine w_fn G (by decide) (woken_ok hK hd7 (by omega)) (fun v τ1 q => ?_) fun _ _ q => q.elim
    obtain ⟨⟨k1, hd1⟩, la, as, kk, rfl, hla0, hla, al, K1⟩ := q
    have W1 := I1.W.turn hd K1 hd1
    repeat walk_at "u"
    refine w_fn G (by decide) (put_ok hK W1 hla (fun q => I1.W.notNew hla0 (.inr (.inl q))) al (by omega) (by omega) (by omega)) (fun v τ2 q => ?_) fun _ _ q => q.elim
    obtain ⟨rfl, W2, K2⟩ := q
    have KH : Keep (HD ho lm ds) τ τ2 := (K1.wide fun b q => .inr (.inr (q ▸ hdm))).trans (K2.wide fun b q => q.elim .inl fun q => .inr (.inl q))
    have A2 := I1.ringStays KH
    have hx2 := A2.top
    obtain ⟨kd2, hdR2⟩ := A2.dict
    have hxs := I1.xs
    repeat walk_at "u"
    refine w_fn G (by decide) (r_wake hK A2 hh (by omega) (by omega)) (fun v τ3 q => ?_) fun _ _ q => q.elim
    obtain ⟨rfl, A3, K3⟩ := q
    repeat walk_at "u"
    refine w_fn G (by decide) (truth_ok hK) (fun v τ4 q => ?_) fun _ _ q => q.elim
    obtain ⟨rfl, rfl⟩ := q
    obtain ⟨Hw, er, em, _⟩ := I1.H.wake hh hs
    have W3 := house_stays W2 I1.ap A2 K3
    rw [hlen, ← er, ← em] at W3
    refine hQ0 _ _ _ ⟨?_, ⟨_, _, A3, W3, Hw, I1.ap, I1.len, I1.n64, ?_⟩, ?_⟩
    · show Value.bool ((!h.stage.isSome) == (!s.awake)) = _
      rw [hsim.stage]
      cases s.awake <;> rfl
    · have := I1.cnt
      rw [er, em, List.length_append, List.length_map]; omega
    · exact K0.trans ((KH.wide fun b q => .inr q).trans (K3.wide fun b q => .inl q))
  · have I1 := I.sub sb
    have K0 : Keep (D05 L ho lm ds) σ τ := Keep.of_sub sb
    have x1 : 0 ≤ (a.fdiv 4).fmod 8 := Int.fmod_nonneg_of_pos _ (by decide)
    have x2 : (a.fdiv 4).fmod 8 < 8 := Int.fmod_lt_of_pos _ (by decide)
    have x3 : 0 ≤ a.fmod 4 := Int.fmod_nonneg_of_pos _ (by decide)
    have x4 : a.fmod 4 < 4 := Int.fmod_lt_of_pos _ (by decide)
    obtain ⟨y, ey, hy⟩ : ∃ y : Int, (a.fmod 4).fdiv 3 = y ∧ (y = 0 ∨ y = 1) := ⟨_, rfl, by
      rw [Int.fdiv_eq_ediv_of_nonneg _ (by decide)]; omega⟩
    obtain ⟨N, eN, hN⟩ : ∃ N : Int, 1 + (a.fdiv 4).fmod 8 * y = N ∧ 1 ≤ N ∧ N ≤ 9 := ⟨_, rfl, by rcases hy with rfl | rfl <;> omega⟩
    repeat walk_at "u"
    rename_i rg r1 r2 r3 hrg
    rw [ey, eN]
    have s2 := sub_upd (o := rngO 0 N r1 r2 r3) hrg
    refine turns_range G (kind_is hsc (by decide +kernel)) (nocell hcl) (fun j m' σ' => (∃ R' ss', S05 c.g 150 260 L ho lh lm ds nums σ' R' ss') ∧ Keep (D05 L ho lm ds) σ σ' ∧ m' (Str.ofString "_law_ring") = some (.ref L.r) ∧ m' (Str.ofString "_law_house") = some (.ref ho) ∧ m' (Str.ofString "_law_cell") = some (.int a t)) upd_same (by decide) (by decide) (by omega) (by omega) ?_ ?_ ?_
    · exact ⟨⟨R, ss, I1.sub s2⟩, K0.trans (Keep.of_sub s2), by walk_at "m", by walk_at "m", by walk_at "m"⟩
    · rintro j tj m' σ' hj ⟨⟨R1, ss1, J⟩, KJ, p1, p2, p3⟩
      refine W.gen fun Q2 hQ2 => ?_
      obtain ⟨t1, hho1⟩ := J.W.dic
      obtain ⟨bs1, km1, em1, am1⟩ := J.W.mails
      have hmost := J.most
      have hbl := am1.len
      have hbm : (bs1.map Value.ref).length ≤ 100000 := by rw [List.length_map]; omega
      walk_at "s"
      repeat walk_at "u"
      rename_i z2 hz2
      have s3 := sub_upd (o := lstO [] 0) hz2
      refine br_any (fun q3 => ?_) fun q3 => ?_
      · repeat walk_at "u"
        exact hQ2 .next _ _ ⟨⟨R1, ss1, J.sub s3⟩, KJ.trans (Keep.of_sub s3), by walk_at "m", by walk_at "m", by walk_at "m"⟩
      · have hpos1 : 0 < (bs1.map Value.ref).length := by rw [decide_eq_false_iff_not] at q3; omega
        refine w_cut (fun τ => Sub σ' τ) s3 fun τ1 sb1 => ?_
        have J1 := J.sub sb1
        have K1 := KJ.trans (Keep.of_sub (D := D05 L ho lm ds) sb1)
        have em2 := sb1 _ _ em1
        have hho2 := hho1.sub sb1
        have hx2 := J1.A.top
        obtain ⟨kd2, hdR2⟩ := J1.A.dict
        repeat walk_at "u"
        obtain ⟨k, ek, hk⟩ := fmod_nat (n := (bs1.map Value.ref).length) hpos1 (a.fdiv 4 + 7 * (0 + (j : Int)))
        rw [ek]
        rw [List.length_map, hbl] at hk
        obtain ⟨⟨pp, l⟩, hkk⟩ : ∃ x, R1.road[k]? = some x := ⟨_, List.getElem?_eq_getElem hk⟩
        obtain ⟨h, hh, _⟩ := J1.H.good.mail hkk
        have hpp : pp < nums.length := by rw [← J1.H.good.len]; exact lt_of_get hh
        obtain ⟨h', s, hh', hs⟩ := J1.H.at hpp
        rw [hh] at hh'; cases hh'
        have F := J1.H.fair hkk hh hs
        have hst := J1.H.low J1.n64 hh hs
        have hxs := J1.xs
        refine w_fn G (by decide) (r_bring hK J1.A hkk hh (by omega) (by omega)) (fun v τ2 q => ?_) fun _ _ q => q.elim
        obtain ⟨⟨b1, rfl, hb1⟩, A2, K2⟩ := q
        have W2 := house_stays J1.W J1.ap J1.A K2
        obtain ⟨t2, hho3⟩ := W2.dic
        repeat walk_at "u"
        walk_at "s"
        repeat walk_at "u"
        rename_i l1 hl1
        have s4 := sub_upd (o := lstO [Value.ref b1] 0) hl1
        have W3 := W2.sub s4
        have A3 := A2.sub s4
        have hb3 := hb1.sub s4
        have hl13 : upd τ2 l1 (lstO [Value.ref b1] 0) l1 = some (lstO [Value.ref b1] 0) := upd_same
        have nl1 := W2.notNew hl1
        generalize upd τ2 l1 (lstO [Value.ref b1] 0) = τ3 at s4 W3 A3 hb3 hl13
        refine w_fn G (by decide) (came_ok5 hK W3 hkk hs F (by omega) (by omega) (by omega)) (fun v τ4 q => ?_) fun _ _ q => q.elim
        obtain ⟨⟨b2, rfl, hb2⟩, W4, K4⟩ := q
        have hl14 := K4 _ _ hl13 nl1
        have hb4 : MailAt τ4 b1 (pp, l) := let ⟨tt, kk, e⟩ := hb3; ⟨tt, kk, K4 _ _ e (fun q => W3.noTup _ _ q e)⟩
        have A4 := A3.off K4 (fun b q => J1.ap b (.inr q)) W3.noTup
        repeat walk_at "u"
        rename_i l2 hl2
        have s5 := sub_upd (o := lstO [Value.ref b2] 0) hl2
        refine w_fn G (by decide) (letters_ok hK (as := [b1]) (bs := [b2]) (ps := [(pp, l)]) (s5 _ _ hl14) upd_same (.cons (hb4.sub s5) .nil) (.cons (hb2.sub s5) .nil) (Nat.le_of_ble_eq_true rfl)) (fun v τ6 q => ?_) fun _ _ q => q.elim
        obtain ⟨rfl, rfl⟩ := q
        obtain ⟨Hb, er, em, _⟩ := J1.H.bring hkk hh hs
        rw [J1.len, ← er, ← em] at W4
        repeat walk_at "u"
        refine hQ2 .next _ _ ⟨⟨_, _, A4.sub s5, W4.sub s5, Hb, J1.ap, J1.len, J1.n64, ?_⟩, ?_, by walk_at "m", by walk_at "m", by walk_at "m"⟩
        · have := J1.cnt
          rw [er, em, List.length_append, List.length_map, List.length_eraseIdx]; split <;> omega
        · exact (((K1.trans (K2.wide fun b q => .inl q)).trans (Keep.of_sub s4)).trans (K4.wide fun b q => .inr q)).trans (Keep.of_sub s5)
    · rintro m' σ' ⟨⟨R1, ss1, J⟩, KJ, p1, p2, p3⟩
      repeat walk_at "u"
      exact hQ0 _ _ _ ⟨rfl, ⟨R1, ss1, J⟩, KJ⟩
end
section
variable {g : Pg} {σ : Store} {L : RL} {ho lh lm d : Addr} {ds : List Addr} {nums : List Int} {R : Rng} {ss : List LSt} {s : LSt} {h : Hnd} {k : Nat → Tok}
theorem hand_told_ok (hK : g.K = heap g.w.params) (A : RingAt g.w.params 150 260 L σ R) {p : Nat} (hh : R.hands[p]? = some h) (hd : DicAt g σ d (st7 s k)) (S : Sim h s) (hz : L.xs.length ≤ 64) {a : Int} {t tp : Tok} :
    Fn g 4 (.ref 360) [.ref L.r, .int (p : Int) tp, .ref d, .int a t] σ (fun v σ' => v = .bool true ∧ σ' = σ) NoE := by
  refine' fn_body [(Str.ofString "_law_ring", .ref L.r), (Str.ofString "_law_place", .int (p : Int) tp), (Str.ofString "_law_state", .ref d), (Str.ofString "_law_which", .int a t)] ?k6 ?k7 ?k9 ?kB ?c5 ?c2 ?c3 ?c4 ?_
  walk_at "enter"
  intro c m hg G hsc hcl hin hm
  have m1 : m (Str.ofString "_law_ring") = some (.ref L.r) := by rw [hm]; rfl
  have m2 : m (Str.ofString "_law_place") = some (.int (p : Int) tp) := by rw [hm]; rfl
  have m3 : m (Str.ofString "_law_state") = some (.ref d) := by rw [hm]; rfl
  have m4 : m (Str.ofString "_law_which") = some (.int a t) := by rw [hm]; rfl
  clear hm
  subst hg
  show W c (execs (_ :: _) c.env) _ _ _ _
  have hx := A.top
  obtain ⟨kd, hdR⟩ := A.dict
  walk_at "s"
  repeat walk_at "u"
  refine br_any (fun q1 => ?_) fun q1 => ?_
  · repeat walk_at "u"
    refine w_fn G (by decide) (r_is_awake hK A hh hz) (fun v σ' q => ?_) fun _ _ q => q.elim
    obtain ⟨rfl, rfl⟩ := q
    repeat walk_at "u"
    refine (w_fn G (by decide) (truth_ok hK) (fun v σ' q => ?_) fun _ _ q => q.elim)
    obtain ⟨rfl, rfl⟩ := q
    refine ⟨?_, rfl⟩
    show Value.bool (h.stage.isSome == s.awake) = _
    rw [S.stage]
    cases s.awake <;> rfl
  · repeat walk_at "u"
    walk_at "s"
    repeat walk_at "u"
    refine br_any (fun q2 => ?_) fun q2 => ?_
    · repeat walk_at "u"
      refine w_fn G (by decide) (r_is_first hK A hh hz) (fun v σ' q => ?_) fun _ _ q => q.elim
      obtain ⟨rfl, rfl⟩ := q
      repeat walk_at "u"
      refine (w_fn G (by decide) (truth_ok hK) (fun v σ' q => ?_) fun _ _ q => q.elim)
      obtain ⟨rfl, rfl⟩ := q
      refine ⟨?_, rfl⟩
      show Value.bool (h.won == s.first) = _
      rw [S.won, beq_self_eq_true]
    · repeat walk_at "u"
      refine x_if_cut (fun m' σ' => σ' = σ ∧ ∃ (o : Option Int) (t u : Tok), m' (Str.ofString "_law_found") = some (optI o t) ∧ m' (Str.ofString "_law_due") = some (optI o u)) ?_ ?_
      · repeat walk_at "u"
        refine br_any (fun q3 => ?_) fun q3 => ?_
        · repeat walk_at "u"
          refine w_fn G (by decide) (r_stage hK A hh hz) (fun v σ' q => ?_) fun _ _ q => q.elim
          obtain ⟨⟨tk, rfl⟩, rfl⟩ := q
          rw [S.stage]
          repeat walk_at "u"
          cases ha : s.awake with
          | true =>
            repeat walk_at "u"
            exact ⟨rfl, some (s.stage : Int), tk, k 1, (show _ = some (optV (if true = true then some s.stage else none) tk) by walk_at "m"), (show _ = some (Value.int (s.stage : Int) (k 1)) by walk_at "m")⟩
          | false =>
            repeat walk_at "u"
            exact ⟨rfl, none, tk, tk, (show _ = some (optV (if false = true then some s.stage else none) tk) by walk_at "m"), (show _ = some Value.none by walk_at "m")⟩
        · repeat walk_at "u"
          refine w_fn G (by decide) (r_knows hK A hh hz) (fun v σ' q => ?_) fun _ _ q => q.elim
          obtain ⟨⟨tk, rfl⟩, rfl⟩ := q
          rw [S.top]
          repeat walk_at "u"
          exact ⟨rfl, s.known, tk, _, by walk_at "m", by walk_at "m"⟩
      · rintro m' σ' ⟨rfl, o, t1, u1, n3, n4⟩
        cases o with
        | none =>
          dsimp only [optI] at n3 n4
          repeat walk_at "u"
          exact ⟨rfl, rfl⟩
        | some z =>
          dsimp only [optI] at n3 n4
          repeat walk_at "u"
          refine w_fn G (by decide) (whole_ok hK) (fun v σ7 q => ?_) fun _ _ q => q.elim
          obtain ⟨rfl, rfl⟩ := q
          repeat walk_at "u"
          exact ⟨congrArg Value.bool (beq_self_eq_true _), rfl⟩
/-- places of hands, in a list -/
def Places (n : Nat) (vs : List Value) : Prop := ∀ v ∈ vs, ∃ (p : Nat) (t : Tok), v = .int (p : Int) t ∧ p < n
theorem hands_told_ok (hK : g.K = heap g.w.params) (I : S05 g 150 260 L ho lh lm ds nums σ R ss) {pz : Addr} {pvs : List Value} {kz : Nat} (hz : σ pz = some (lstO pvs kz)) (hP : Places nums.length pvs) {a : Int} {t : Tok} :
    Fn g 5 (.ref 367) [.ref L.r, .ref ho, .ref pz, .int a t] σ (fun v σ' => v = .bool true ∧ Sub σ σ') NoE := by
  have n64 := I.n64
  have hxs := I.xs
  have hdl := I.len
  refine' fn_body [(Str.ofString "_law_ring", .ref L.r), (Str.ofString "_law_house", .ref ho), (Str.ofString "_law_places", .ref pz), (Str.ofString "_law_turn", .int a t)] ?k6 ?k7 ?k9 ?kB ?c5 ?c2 ?c3 ?c4 ?_
  walk_at "enter"
  intro c m hg G hsc hcl hin hm
  have m1 : m (Str.ofString "_law_ring") = some (.ref L.r) := by rw [hm]; rfl
  have m2 : m (Str.ofString "_law_house") = some (.ref ho) := by rw [hm]; rfl
  have m3 : m (Str.ofString "_law_places") = some (.ref pz) := by rw [hm]; rfl
  have m4 : m (Str.ofString "_law_turn") = some (.int a t) := by rw [hm]; rfl
  clear hm
  subst hg
  show W c (execs (_ :: _) c.env) _ _ _ _
  repeat walk_at "s"
  refine turns_list (vs := pvs) (k := kz) G (kind_is hsc (by decide +kernel)) (nocell hcl) (fun j m' σ' => Sub σ σ' ∧ m' (Str.ofString "_law_ring") = some (.ref L.r) ∧ m' (Str.ofString "_law_house") = some (.ref ho) ∧ m' (Str.ofString "_law_turn") = some (.int a t)) ?_ ?_ ?_ ?_
  · rintro i m' σ' ⟨sb, _⟩; exact sb _ _ hz
  · exact ⟨Sub.refl _, by walk_at "m", by walk_at "m", by walk_at "m"⟩
  · rintro j v m' σ' hv ⟨sb, n1, n2, n3⟩
    obtain ⟨p, tp, rfl, hp⟩ := hP v (List.mem_of_getElem? hv)
    repeat walk_at "s"
    rename_i rg r1 r2 r3 hrg
    refine turns_range G (kind_is hsc (by decide +kernel)) (nocell hcl) (fun j m' σ' => Sub σ σ' ∧ m' (Str.ofString "_law_ring") = some (.ref L.r) ∧ m' (Str.ofString "_law_house") = some (.ref ho) ∧ m' (Str.ofString "_law_turn") = some (.int a t) ∧ m' (Str.ofString "_law_place") = some (.int (p : Int) tp)) upd_same (by decide) (by decide) (by decide) (by decide) ?_ ?_ ?_
    · exact ⟨sb.trans (sub_upd hrg), by walk_at "m", by walk_at "m", by walk_at "m", by walk_at "m"⟩
    · rintro i ti m₁ σ₁ hi ⟨sb1, p1, p2, p3, p4⟩
      have hi4 : i < 4 := by omega
      repeat walk_at "u"
      rename_i t1 t3 l2 hl2 _ _ _ _
      have x1 : 0 ≤ (a.fdiv 4).fmod 2 := Int.fmod_nonneg_of_pos _ (by decide)
      have x2 : (a.fdiv 4).fmod 2 < 2 := Int.fmod_lt_of_pos _ (by decide)
      obtain ⟨y, ty, ey, hy⟩ : ∃ (y : Int) (ty : Tok), [Value.int 1 t1, Value.int 3 t3][((a.fdiv 4).fmod 2).toNat]? = some (.int y ty) ∧ 0 ≤ y ∧ y ≤ 3 := by
        rcases (show (a.fdiv 4).fmod 2 = 0 ∨ (a.fdiv 4).fmod 2 = 1 by omega) with q | q
        · rw [q]; exact ⟨1, t1, rfl, by decide, by decide⟩
        · rw [q]; exact ⟨3, t3, rfl, by decide, by decide⟩
      refine w_item (v := .int y ty) upd_same (by omega) (by omega) ey ?_ (by with_unfolding_all rfl)
      have sb2 := sb1.trans (sub_upd (o := lstO [Value.int 1 t1, Value.int 3 t3] 0) hl2)
      generalize upd σ₁ l2 (lstO [Value.int 1 t1, Value.int 3 t3] 0) = σ₂ at sb2
      have I2 := I.sub sb2
      obtain ⟨t0, hho⟩ := I2.W.dic
      obtain ⟨kh, hlh⟩ := I2.W.hands
      obtain ⟨h, s, hh, hs⟩ := I2.H.at hp
      obtain ⟨d, hd, k7, hd7⟩ := I2.W.each.get hs
      repeat walk_at "u"
      walk_at "s"
      repeat walk_at "u"
      refine w_item (v := .ref d) hlh (by omega) (by omega) (by rw [Int.toNat_natCast, List.getElem?_map, hd]; rfl) ?_ (by with_unfolding_all rfl)
      repeat walk_at "u"
      refine w_fn G (by decide) (hand_told_ok hK I2.A hh hd7 (I2.H.sim p h s hh hs) (by omega)) (fun v σ3 q => ?_) fun _ _ q => q.elim
      obtain ⟨rfl, rfl⟩ := q
      repeat walk_at "u"
      exact ⟨sb2, by walk_at "m", by walk_at "m", by walk_at "m", by walk_at "m"⟩
    · rintro m₁ σ₁ ⟨sb1, p1, p2, p3, p4⟩
      repeat walk_at "u"
      exact ⟨sb1, by walk_at "m", by walk_at "m", by walk_at "m"⟩
  · rintro m' σ' ⟨sb, n1, n2, n3⟩
    repeat walk_at "u"
    exact ⟨rfl, sb⟩
end
def isIntV : Value → Bool
  | .int _ _ => true
  | _ => false
theorem intsL {vs : List Value} (h : vs.all isIntV = true) : ∀ v ∈ vs, ∃ x t, v = .int x t := fun v hv => by
  have := List.all_eq_true.mp h v hv
  cases v with
  | int x t => exact ⟨x, t, rfl⟩
  | _ => cases this
section
variable {g : Pg} {σ : Store} {L : RL} {ho lh lm d : Addr} {ds : List Addr} {nums : List Int} {R : Rng} {ss : List LSt}
theorem looked_ok (hK : g.K = heap g.w.params) (I : S05 g 150 260 L ho lh lm ds nums σ R ss) {pz : Addr} {pvs : List Value} {kz : Nat} (hz : σ pz = some (lstO pvs kz)) (hP : Places nums.length pvs) {a : Int} {t : Tok} :
    Fn g 6 (.ref 374) [.ref L.r, .ref ho, .int a t, .ref pz] σ (fun v σ' => v = .bool true ∧ Sub σ σ') NoE := by
  refine' fn_body [(Str.ofString "_law_ring", .ref L.r), (Str.ofString "_law_house", .ref ho), (Str.ofString "_law_turn", .int a t), (Str.ofString "_law_places", .ref pz)] ?k6 ?k7 ?k9 ?kB ?c5 ?c2 ?c3 ?c4 ?_
  walk_at "enter"
  intro c m hg G hsc hcl hin hm
  have m1 : m (Str.ofString "_law_ring") = some (.ref L.r) := by rw [hm]; rfl
  have m2 : m (Str.ofString "_law_house") = some (.ref ho) := by rw [hm]; rfl
  have m3 : m (Str.ofString "_law_turn") = some (.int a t) := by rw [hm]; rfl
  have m4 : m (Str.ofString "_law_places") = some (.ref pz) := by rw [hm]; rfl
  clear hm
  subst hg
  show W c (execs (_ :: _) c.env) _ _ _ _
  repeat walk_at "u"
  rename_i t1 t2 t3 a0 z0 t4 t5 t6 a1 z1 t7 a2 z2 t8 a3 z3 t9 a4 z4 t10 t11 t12 a5 z5 a6 z6 t13 t14 a7 z7 t15 t16 a8 z8 lw zw tq1 tq2
  refine w_cut (fun τ => Sub σ τ ∧ ∃ ws, τ lw = some (lstO ws 0) ∧ ∀ i : Nat, i < 9 → ∃ b vs, ws[i]? = some (.ref b) ∧ τ b = some (lstO vs 0) ∧ (∀ v ∈ vs, ∃ x t, v = .int x t)) ⟨(((((((((sub_upd z0).trans (sub_upd z1)).trans (sub_upd z2)).trans (sub_upd z3)).trans (sub_upd z4)).trans (sub_upd z5)).trans (sub_upd z6)).trans (sub_upd z7)).trans (sub_upd z8)).trans (sub_upd zw), _, upd_same, fun i hi => ?_⟩ ?_
  · exact match i, hi with
    | 0, _ => ⟨a0, [Value.int 0 t1, Value.int 1 t2, Value.int 2 t3], rfl, by walk_at "o", intsL rfl⟩
    | 1, _ => ⟨a1, [Value.int 2 t4, Value.int 1 t5, Value.int 0 t6], rfl, by walk_at "o", intsL rfl⟩
    | 2, _ => ⟨a2, [Value.int 1 t7], rfl, by walk_at "o", intsL rfl⟩
    | 3, _ => ⟨a3, [Value.int 0 t8], rfl, by walk_at "o", intsL rfl⟩
    | 4, _ => ⟨a4, [Value.int 2 t9], rfl, by walk_at "o", intsL rfl⟩
    | 5, _ => ⟨a5, [Value.int 1 t10, Value.int 2 t11, Value.int 0 t12], rfl, by walk_at "o", intsL rfl⟩
    | 6, _ => ⟨a6, [], rfl, by walk_at "o", intsL rfl⟩
    | 7, _ => ⟨a7, [Value.int 2 t13, Value.int 0 t14], rfl, by walk_at "o", intsL rfl⟩
    | 8, _ => ⟨a8, [Value.int 0 t15, Value.int 2 t16], rfl, by walk_at "o", intsL rfl⟩
    | i + 9, h => absurd h (by omega)
  rintro τ ⟨sb, ws, hlw, hws⟩
  have q1 : 0 ≤ a.fmod 9 := Int.fmod_nonneg_of_pos _ (by decide)
  have q2 : a.fmod 9 < 9 := Int.fmod_lt_of_pos _ (by decide)
  obtain ⟨b, vs, e1, e2, e3⟩ := hws (a.fmod 9).toNat (by omega)
  refine w_item (v := .ref b) hlw q1 (by omega) e1 ?_ (by with_unfolding_all rfl)
  refine turns_list (vs := vs) (k := 0) G (kind_is hsc (by decide +kernel)) (nocell hcl) (fun j m' σ' => Sub τ σ' ∧ m' (Str.ofString "_law_ring") = some (.ref L.r) ∧ m' (Str.ofString "_law_house") = some (.ref ho) ∧ m' (Str.ofString "_law_turn") = some (.int a t) ∧ m' (Str.ofString "_law_places") = some (.ref pz)) ?_ ?_ ?_ ?_
  · rintro i m' σ' ⟨sb, _⟩; exact sb _ _ e2
  · exact ⟨Sub.refl _, by walk_at "m", by walk_at "m", by walk_at "m", by walk_at "m"⟩
  · rintro j v m' σ' hv ⟨sb1, n1, n2, n3, n4⟩
    obtain ⟨wy, tw, rfl⟩ := e3 v (List.mem_of_getElem? hv)
    have I1 := I.sub (sb.trans sb1)
    have hmost := I1.most
    obtain ⟨t0, hho⟩ := I1.W.dic
    obtain ⟨bs, km, em, am⟩ := I1.W.mails
    have hx := I1.A.top
    obtain ⟨kd, hdR⟩ := I1.A.dict
    refine x_if_cut (fun m'' σ'' => Sub σ' σ'' ∧ m'' = setM m' (Str.ofString "_law_way") (.int wy tw)) ?_ ?_
    · repeat walk_at "u"
      refine br_any (fun w1 => ?_) fun w1 => ?_
      · repeat walk_at "u"
        refine w_fn G (by decide) (r_mails hK I1.A (by omega)) (fun v σ2 q => ?_) fun _ _ q => q.elim
        obtain ⟨b, ms, kb, rfl, hb0, am2, rfl⟩ := q
        have s2 := sub_upd (o := lstO (ms.map .ref) kb) hb0
        have hho2 := hho.sub s2
        repeat walk_at "u"
        refine w_fn G (by decide) (letters_ok hK (ps := R.road) upd_same (s2 _ _ em) (am2.mono fun _ _ r => r.sub s2) (am.mono fun _ _ r => r.sub s2) (by omega)) (fun v σ3 q => ?_) fun _ _ q => q.elim
        obtain ⟨rfl, rfl⟩ := q
        repeat walk_at "u"
        exact ⟨s2, rfl⟩
      · repeat walk_at "u"
        exact ⟨Sub.refl _, rfl⟩
    rintro m'' σ2 ⟨sb2, rfl⟩
    have I2 := I1.sub sb2
    have hho2 := hho.sub sb2
    have hx2 := I2.A.top
    obtain ⟨kd2, hdR2⟩ := I2.A.dict
    refine x_if_cut (fun m'' σ'' => σ'' = σ2 ∧ m'' = setM m' (Str.ofString "_law_way") (.int wy tw)) ?_ ?_
    · repeat walk_at "u"
      refine br_any (fun w1 => ?_) fun w1 => ?_
      · repeat walk_at "u"
        refine w_fn G (by decide) (r_sent hK I2.A) (fun v σ3 q => ?_) fun _ _ q => q.elim
        obtain ⟨⟨ts, rfl⟩, rfl⟩ := q
        repeat walk_at "u"
        refine w_fn G (by decide) (whole_ok hK) (fun v σ3 q => ?_) fun _ _ q => q.elim
        obtain ⟨rfl, rfl⟩ := q
        repeat walk_at "u"
        refine w_fn G (by decide) (r_sent hK I2.A) (fun v σ4 q => ?_) fun _ _ q => q.elim
        obtain ⟨⟨ts2, rfl⟩, rfl⟩ := q
        repeat walk_at "u"
        refine br_isF (bne_self_eq_false _) ?_
        repeat walk_at "u"
        exact ⟨rfl, rfl⟩
      · repeat walk_at "u"
        exact ⟨rfl, rfl⟩
    rintro m'' σ3 ⟨rfl, rfl⟩
    refine x_if_cut (fun m'' σ'' => Sub σ3 σ'' ∧ m'' = setM m' (Str.ofString "_law_way") (.int wy tw)) ?_ ?_
    · repeat walk_at "u"
      refine br_any (fun w1 => ?_) fun w1 => ?_
      · repeat walk_at "u"
        refine w_fn G (by decide) (hands_told_ok hK I2 (sb2 _ _ ((sb.trans sb1) _ _ hz)) hP) (fun v σ4 q => ?_) fun _ _ q => q.elim
        obtain ⟨rfl, s4⟩ := q
        repeat walk_at "u"
        exact ⟨s4, rfl⟩
      · repeat walk_at "u"
        exact ⟨Sub.refl _, rfl⟩
    rintro m'' σ4 ⟨sb4, rfl⟩
    repeat walk_at "u"
    exact ⟨(sb1.trans sb2).trans sb4, by walk_at "m", by walk_at "m", by walk_at "m", by walk_at "m"⟩
  · rintro m' σ' ⟨sb1, _⟩
    repeat walk_at "u"
    exact ⟨rfl, sb.trans sb1⟩
end
section
variable {g : Pg} {σ : Store}
theorem start_ok (hK : g.K = heap g.w.params) {a : Int} {t : Tok} : Fn g 1 (.ref 304) [.int a t] σ (fun v σ' => ∃ d k, v = .ref d ∧ σ d = none ∧ DicAt g σ' d (st7 { num := a } k) ∧ Sub σ σ') NoE := by
  refine' fn_body [(Str.ofString "_law_number", .int a t)] ?k6 ?k7 ?k9 ?kB ?c5 ?c2 ?c3 ?c4 ?_
  walk_at "enter"
  intro c m hg G hsc hcl hin hm
  have m1 : m (Str.ofString "_law_number") = some (.int a t) := by rw [hm]; rfl
  clear hm
  subst hg
  show W c (execs (_ :: _) c.env) _ _ _ _
  repeat walk_at "u"
  refine w_dictS rfl rfl (fun q => nomatch q) (Nat.le_of_ble_eq_true rfl) ?_
  refine w_pairs ?_
  repeat walk_at "u"
  refine w_pairs ?_
  repeat walk_at "u"
  refine w_pairs ?_
  repeat walk_at "u"
  refine w_pairs ?_
  repeat walk_at "u"
  refine w_pairs_nil ?_
  refine ⟨[(Str.ofString "number", .int a t), (Str.ofString "awake", .bool false), (Str.ofString "beaten", .bool false), (Str.ofString "first", .bool false)], ⟨rfl, rfl, rfl, rfl, rfl, rfl, rfl, rfl, trivial⟩, fun d o hd0 ho => ?_⟩
  repeat walk_at "u"
  refine w_dset (DicAt.new ho) (by rw [sizeLine_eq]; exact Nat.le_of_ble_eq_true rfl) fun o1 h1 => ?_
  repeat walk_at "u"
  refine w_dset (DicAt.new h1) (by rw [sizeLine_eq]; exact Nat.le_of_ble_eq_true rfl) fun o2 h2 => ?_
  repeat walk_at "u"
  refine w_dset (DicAt.new h2) (by rw [sizeLine_eq]; exact Nat.le_of_ble_eq_true rfl) fun o3 h3 => ?_
  repeat walk_at "u"
  rename_i y1 y2 y3 y4 ts y5 tc y6 y7
  exact ⟨d, fun i => [t, ts, tc, 0].getD i 0, rfl, hd0, DicAt.new h3, fun b q e => have n := new_ne e hd0; look_off n (look_off n (look_off n (look_off n e)))⟩
end
section
variable {g : Pg} {σ : Store} {ns : List Int}
/-- a list of fit numbers was made -/
def Made (σ : Store) (v : Value) (σ' : Store) : Prop := ∃ nl vs nums k, v = .ref nl ∧ σ nl = none ∧ σ' nl = some (lstO vs k) ∧ IntsAre vs nums ∧ Fit nums ∧ Sub σ σ'
theorem numbers_ok (hK : g.K = heap g.w.params) (hB : IntsAre g.bv ns) (h63 : ns.length ≤ 63) : Fn g 2 (.ref 297) [.ref g.bl] σ (Made σ) NoE := by
  refine' fn_bodyC [(Str.ofString "_law_script", .ref g.bl)] ?k6 ?k7 ?k9 ?kB ?c5 ?c2 ?c3 ?c4 ?_
  walk_at "enterC"
  intro c m hg G hsc hcl hnd hin hm
  have m1 : m (Str.ofString "_law_script") = some (.ref g.bl) := by rw [hm]; rfl
  clear hm
  subst hg
  show W c (execs (_ :: _) c.env) _ _ _ _
  repeat walk_at "s"
  refine w_fn G (by decide) (cell_ok hK hB h63 (by decide)) (fun v σ' q => ?_) fun _ _ q => q.elim
  obtain ⟨⟨t1, rfl⟩, rfl⟩ := q
  repeat walk_at "s"
  refine w_fn G (by decide) (cell_ok hK hB h63 (by decide)) (fun v σ' q => ?_) fun _ _ q => q.elim
  obtain ⟨⟨t2, rfl⟩, rfl⟩ := q
  generalize ns.getD (Int.toNat 0) 0 = fst
  generalize ns.getD (Int.toNat 1) 0 = snd
  have a1 : 0 ≤ fst.fmod 9 := Int.fmod_nonneg_of_pos _ (by decide)
  have a2 : fst.fmod 9 < 9 := Int.fmod_lt_of_pos _ (by decide)
  repeat walk_at "u"
  refine x_if_cut (fun m' σ₁ => σ₁ = σ' ∧ m' (Str.ofString "_law_script") = some (.ref c.g.bl) ∧ m' (Str.ofString "_law_first") = some (.int fst t1) ∧ m' (Str.ofString "_law_second") = some (.int snd t2) ∧ ∃ (N : Nat) (t : Tok), m' (Str.ofString "_law_many") = some (.int (N : Int) t) ∧ 1 ≤ N ∧ N ≤ 64) ?_ ?_
  · repeat walk_at "u"
    refine br_beq (fun q1 => ?_) fun q1 => ?_
    · repeat walk_at "u"
      refine w_fn G (by decide) (cell_ok hK hB h63 (by decide)) (fun v σ' q => ?_) fun _ _ q => q.elim
      obtain ⟨⟨t3, rfl⟩, rfl⟩ := q
      generalize ns.getD (Int.toNat 7) 0 = sv
      have a3 : 0 ≤ sv.fmod 24 := Int.fmod_nonneg_of_pos _ (by decide)
      have a4 : sv.fmod 24 < 24 := Int.fmod_lt_of_pos _ (by decide)
      repeat walk_at "u"
      exact ⟨rfl, by walk_at "m", by walk_at "m", by walk_at "m", (1 + sv.fmod 24).toNat, _, (by rw [Int.toNat_of_nonneg (by omega)]; walk_at "m"), by omega, by omega⟩
    · repeat walk_at "u"
      exact ⟨rfl, by walk_at "m", by walk_at "m", by walk_at "m", (1 + fst.fmod 9).toNat, _, (by rw [Int.toNat_of_nonneg (by omega)]; walk_at "m"), by omega, by omega⟩
  · rintro m' σ₁ ⟨rfl, n1, n2, n3, N, tN, n4, hN1, hN2⟩
    refine x_if_cut (fun m' σ₂ => σ₂ = σ₁ ∧ m' (Str.ofString "_law_script") = some (.ref c.g.bl) ∧ m' (Str.ofString "_law_first") = some (.int fst t1) ∧ m' (Str.ofString "_law_second") = some (.int snd t2) ∧ ∃ (N : Nat) (t : Tok), m' (Str.ofString "_law_many") = some (.int (N : Int) t) ∧ 1 ≤ N ∧ N ≤ 64) ?_ ?_
    · repeat walk_at "u"
      refine br_beq (fun q1 => ?_) fun q1 => ?_
      · repeat walk_at "u"
        refine w_fn G (by decide) (cell_ok hK hB h63 (by decide)) (fun v σ' q => ?_) fun _ _ q => q.elim
        obtain ⟨⟨t3, rfl⟩, rfl⟩ := q
        generalize ns.getD (Int.toNat 7) 0 = sv
        have a3 : 0 ≤ sv.fmod 32 := Int.fmod_nonneg_of_pos _ (by decide)
        have a4 : sv.fmod 32 < 32 := Int.fmod_lt_of_pos _ (by decide)
        repeat walk_at "u"
        exact ⟨rfl, by walk_at "m", by walk_at "m", by walk_at "m", (33 + sv.fmod 32).toNat, _, (by rw [Int.toNat_of_nonneg (by omega)]; walk_at "m"), by omega, by omega⟩
      · repeat walk_at "u"
        exact ⟨rfl, n1, n2, n3, N, tN, n4, hN1, hN2⟩
    · rintro m₂ σ₂ ⟨rfl, n1, n2, n3, N, tN, n4, hN1, hN2⟩
      have b1 : 0 ≤ (snd.fdiv 256).fmod 1000000 := Int.fmod_nonneg_of_pos _ (by decide)
      have b2 : (snd.fdiv 256).fmod 1000000 < 1000000 := Int.fmod_lt_of_pos _ (by decide)
      have b3 : 0 ≤ snd.fmod 4 := Int.fmod_nonneg_of_pos _ (by decide)
      have b4 : snd.fmod 4 < 4 := Int.fmod_lt_of_pos _ (by decide)
      repeat walk_at "u"
      walk_at "s"
      repeat walk_at "u"
      refine br_beq (fun q1 => ?_) fun q1 => ?_
      · repeat walk_at "u"
        refine w_comp (allfree hsc hcl rfl) rfl (by decide +kernel) (fun _ => rfl) ?_
        repeat walk_at "u"
        rename_i rg r1 r2 r3 hrg
        have s1 := sub_upd (o := rngO 0 (N : Int) r1 r2 r3) hrg
        refine comp_range G (by decide +kernel) rfl (by decide +kernel) (fun i ys _ => IntsAre ys ((List.range i).map (fun k : Nat => ((k : Int) + (snd.fdiv 4).fmod (N : Int)).fmod (N : Int) * (1 + (snd.fdiv 256).fmod 1000000)))) (fun _ _ _ _ _ h => h) upd_same (by decide) (by decide) (by omega) (by omega) (by rw [sizeLine_eq]; omega) .nil ?_ ?_
        · intro j tj hj e C oC mm τ ys CE sub τC hP hn hmm
          rw [Int.zero_add] at hmm
          repeat walk_at "u"
          exact ⟨rfl, Sub.refl _, ints_next hP rfl⟩
        · intro D σ' ys kk hD hD2 s2 hys hP
          rw [Int.sub_zero, Int.toNat_natCast] at hP
          exact ⟨D, ys, _, kk, rfl, upd_none hD, upd_same, hP, nums1 hN1 hN2 (by omega), (s1.trans s2).trans (sub_upd hD2)⟩
      · repeat walk_at "u"
        walk_at "s"
        repeat walk_at "u"
        refine br_beq (fun q2 => ?_) fun q2 => ?_
        · repeat walk_at "u"
          refine w_comp (allfree hsc hcl rfl) rfl (by decide +kernel) (fun _ => rfl) ?_
          repeat walk_at "u"
          rename_i rg r1 r2 r3 hrg
          have s1 := sub_upd (o := rngO 0 (N : Int) r1 r2 r3) hrg
          refine comp_range G (by decide +kernel) rfl (by decide +kernel) (fun i ys _ => IntsAre ys ((List.range i).map (fun k : Nat => ((N : Int) - 1 - ((k : Int) + (snd.fdiv 4).fmod (N : Int)).fmod (N : Int)) * (1 + (snd.fdiv 256).fmod 1000000)))) (fun _ _ _ _ _ h => h) upd_same (by decide) (by decide) (by omega) (by omega) (by rw [sizeLine_eq]; omega) .nil ?_ ?_
          · intro j tj hj e C oC mm τ ys CE sub τC hP hn hmm
            rw [Int.zero_add] at hmm
            repeat walk_at "u"
            exact ⟨rfl, Sub.refl _, ints_next hP rfl⟩
          · intro D σ' ys kk hD hD2 s2 hys hP
            rw [Int.sub_zero, Int.toNat_natCast] at hP
            exact ⟨D, ys, _, kk, rfl, upd_none hD, upd_same, hP, nums2 hN1 hN2 (by omega), (s1.trans s2).trans (sub_upd hD2)⟩
        · repeat walk_at "u"
          have hc0 := Int.fdiv_eq_ediv_of_nonneg (snd.fmod 4) (show (0 : Int) ≤ 3 by decide)
          rename_i ta tb tc td l0 hl0 te tf tg th
          have s0 := sub_upd (o := lstO [Value.int 1009 ta, Value.int (10 ^ Int.toNat 30) td] 0) hl0
          obtain ⟨w, tw, ew, hw⟩ : ∃ (w : Int) (tw : Tok), [Value.int 1009 ta, Value.int (10 ^ Int.toNat 30) td][((snd.fmod 4).fdiv 3).toNat]? = some (Value.int w tw) ∧ 0 < w := by
            rcases (show (snd.fmod 4).fdiv 3 = 0 ∨ (snd.fmod 4).fdiv 3 = 1 by omega) with q | q
            · rw [q]; exact ⟨1009, ta, rfl, by decide⟩
            · rw [q]; exact ⟨10 ^ Int.toNat 30, td, rfl, by decide +kernel⟩
          refine w_item (v := .int w tw) upd_same (by omega) (by omega) ew ?_ (by with_unfolding_all rfl)
          repeat walk_at "u"
          refine w_comp (allfree hsc hcl rfl) rfl (by decide +kernel) (fun _ => rfl) ?_
          repeat walk_at "u"
          rename_i rg r1 r2 r3 hrg
          have s1 := s0.trans (sub_upd (o := rngO 0 (N : Int) r1 r2 r3) hrg)
          refine comp_range G (by decide +kernel) rfl (by decide +kernel) (fun i ys _ => IntsAre ys ((List.range i).map (fun k : Nat => ((ns.getD (2 + (k : Int).fmod 6).toNat 0 + (k : Int) * (k : Int) * 7919) * 48271).fmod w * 64 + (k : Int)))) (fun _ _ _ _ _ h => h) upd_same (by decide) (by decide) (by omega) (by omega) (by rw [sizeLine_eq]; omega) .nil ?_ ?_
          · intro j tj hj e C oC mm τ ys CE sub τC hP hn hmm
            rw [Int.zero_add] at hmm
            have hj' : j < N := by omega
            have c1 : 0 ≤ (j : Int).fmod 6 := Int.fmod_nonneg_of_pos _ (by decide)
            repeat walk_at "u"
            refine w_fn G (by decide) (cell_ok hK hB h63 (by omega)) (fun v σ' q => ?_) fun _ _ q => q.elim
            obtain ⟨⟨t3, rfl⟩, rfl⟩ := q
            repeat walk_at "u"
            exact ⟨rfl, Sub.refl _, ints_next hP rfl⟩
          · intro D σ' ys kk hD hD2 s2 hys hP
            rw [Int.sub_zero, Int.toNat_natCast] at hP
            exact ⟨D, ys, _, kk, rfl, upd_none (upd_none hD), upd_same, hP, nums3 (g := fun k : Nat => (ns.getD (2 + (k : Int).fmod 6).toNat 0 + (k : Int) * (k : Int) * 7919) * 48271) hN1 hN2 hw, (s1.trans s2).trans (sub_upd hD2)⟩
end
section
variable {g : Pg} {σ : Store} {L : RL} {nums : List Int} {R : Rng}
theorem r_rest (hK : g.K = heap g.w.params) (H : Going g.w.params 150 260 L nums R σ) (h64 : nums.length ≤ 64) :
    Fn g 5 (.ref 222) [.ref L.r] σ (fun v σ' => ∃ R' : Rng, (∃ t, v = .int ((R.road.length : Int) + (R'.many : Int) - (R.many : Int)) t) ∧ Going g.w.params 150 260 L nums R' σ' ∧ R'.road = [] ∧ R.Le R' ∧ Keep L.D σ σ' ∧ (∃ j, R' = iterB j R)) NoE := by
  have hcnt := H.cnt
  refine' fn_body [(Str.ofString "self", .ref L.r)] ?k6 ?k7 ?k9 ?kB ?c5 ?c2 ?c3 ?c4 ?_
  walk_at "enter"
  intro c m hg G hsc hcl hin hm
  have m1 : m (Str.ofString "self") = some (.ref L.r) := by rw [hm]; rfl
  clear hm
  subst hg
  show W c (execs (_ :: _) c.env) _ _ _ _
  repeat walk_at "s"
  refine x_while (fun k m' σ' => (∃ (R' : Rng) (x : Int) (t : Tok), Going c.g.w.params 150 260 L nums R' σ' ∧ R.Le R' ∧ Keep L.D σ σ' ∧ k = bnd nums.length - (R'.many - R'.road.length) ∧ m' (Str.ofString "came") = some (.int x t) ∧ x = (R'.many : Int) - R'.road.length - (R.many - R.road.length) ∧ (∃ j, R' = iterB j R)) ∧ m' (Str.ofString "self") = some (.ref L.r)) (bnd nums.length - (R.many - R.road.length)) ?_ ?_
  · exact ⟨⟨R, _, _, H, Rng.Le.refl R, Keep.refl, rfl, by walk_at "m", by omega, ⟨0, rfl⟩⟩, by walk_at "m"⟩
  · rintro k m' σ' ⟨⟨R', x, t, H', le', K', rfl, n1, ex, eq⟩, n2⟩
    have hx := H'.A.top
    obtain ⟨kd, hd⟩ := H'.A.dict
    obtain ⟨ms, kr, er, am⟩ := H'.A.road
    have hml : (List.map Value.ref ms).length = R'.road.length := by rw [List.length_map]; exact am.len
    have hr := H'.road h64
    have hb := H'.G.bound h64
    have hc := H'.cnt
    repeat walk_at "s"
    refine br_dec (fun q1 => ?_) fun q1 => ?_
    · have hj : 0 < R'.road.length := by omega
      obtain ⟨d, l, h, e1, e2⟩ := H'.mail (k := 0) hj
      repeat walk_at "s"
      refine w_fn G (by decide) (r_bring (k := 0) hK H'.A e1 e2 (by rw [H'.lenx]; exact h64) (by omega)) (fun v σ4 q => ?_) fun _ _ q => q.elim
      obtain ⟨_, A4, K4⟩ := q
      have bc := H'.G.bring_count hj hc
      have H4 : Going c.g.w.params 150 260 L nums (R'.bring 0) σ4 := ⟨A4, good_bring H'.G 0, bc.1⟩
      have hb4 := H4.G.bound h64
      repeat walk_at "s"
      exact ⟨_, rest_dec bc.2 hb4, ⟨_, _, _, H4, le'.trans (R'.bring_le 0), K'.trans K4, rfl, by walk_at "m", rest_cnt hc bc.1 bc.2 ex, (let ⟨j, ej⟩ := eq; ⟨j + 1, by rw [ej]; rfl⟩)⟩, by walk_at "m"⟩
    · have hj : R'.road.length = 0 := by omega
      repeat walk_at "s"
      refine ⟨R', ⟨t, ?_⟩, H', List.eq_nil_of_length_eq_zero hj, le', K', eq⟩
      show Value.int x t = _
      congr 1
      omega
end
section
variable {g : Pg} {σ : Store} {L : RL} {ho lh lm : Addr} {ds : List Addr} {nums : List Int} {R : Rng} {ss : List LSt}
theorem rests_ok (hK : g.K = heap g.w.params) (I : S05 g 150 260 L ho lh lm ds nums σ R ss) :
    Fn g 6 (.ref 388) [.ref L.r, .ref ho] σ (fun v σ' => v = .bool true ∧ (∃ R' ss', S05 g 150 260 L ho lh lm ds nums σ' R' ss') ∧ Keep (D05 L ho lm ds) σ σ') NoE := by
  have n64 := I.n64
  have hcnt := I.cnt
  refine' fn_body [(Str.ofString "_law_ring", .ref L.r), (Str.ofString "_law_house", .ref ho)] ?k6 ?k7 ?k9 ?kB ?c5 ?c2 ?c3 ?c4 ?_
  walk_at "enter"
  intro c m hg G hsc hcl hin hm
  have m1 : m (Str.ofString "_law_ring") = some (.ref L.r) := by rw [hm]; rfl
  have m2 : m (Str.ofString "_law_house") = some (.ref ho) := by rw [hm]; rfl
  clear hm
  subst hg
  show W c (execs (_ :: _) c.env) _ _ _ _
  repeat walk_at "s"
  refine x_while (fun k m' σ' => (∃ (R' : Rng) (ss' : List LSt) (x : Int) (t : Tok), HouseAt c.g σ' ho lh lm ds ss' R'.road R'.many ∧ House nums R' ss' ∧ R'.road.length ≤ R'.many ∧ RingAt c.g.w.params 150 260 L σ' R ∧ Keep (D05 L ho lm ds) σ σ' ∧ (∃ j, R' = iterB j R) ∧ k = bnd nums.length - (R'.many - R'.road.length) ∧ m' (Str.ofString "_law_came_here") = some (.int x t) ∧ x = (R'.many : Int) - R'.road.length - (R.many - R.road.length)) ∧ m' (Str.ofString "_law_ring") = some (.ref L.r) ∧ m' (Str.ofString "_law_house") = some (.ref ho)) (bnd nums.length - (R.many - R.road.length)) ?_ ?_
  · exact ⟨⟨R, ss, _, _, I.W, I.H, I.cnt, I.A, Keep.refl, ⟨0, rfl⟩, rfl, by walk_at "m", by omega⟩, by walk_at "m", by walk_at "m"⟩
  · rintro k m' σ' ⟨⟨R', ss', x, t, W', H', cnt', A', K', ⟨j, ej⟩, rfl, n1, ex⟩, n2, n3⟩
    obtain ⟨t0, hho⟩ := W'.dic
    obtain ⟨bs, km, em, am⟩ := W'.mails
    have hbd := H'.good.bound n64
    have hbl := bnd_le _ n64
    have hml : (bs.map Value.ref).length = R'.road.length := by rw [List.length_map]; exact am.len
    repeat walk_at "u"
    rename_i z hz
    have s1 := sub_upd (o := lstO [] 0) hz
    refine br_any (fun q1 => ?_) fun q1 => ?_
    · have hr0 : R'.road = [] := List.eq_nil_of_length_eq_zero (by rw [decide_eq_true_eq] at q1; omega)
      refine w_cut (fun τ => Sub σ' τ) s1 fun τ sb => ?_
      have A1 := A'.sub sb
      have W1 := W'.sub sb
      have hx := A1.top
      obtain ⟨kd, hdR⟩ := A1.dict
      repeat walk_at "u"
      refine w_fn G (by decide) (r_rest hK ⟨A1, I.H.good, I.cnt⟩ n64) (fun v τ2 q => ?_) fun _ _ q => q.elim
      obtain ⟨R2, ⟨tv, rfl⟩, G2, hr2, _, K2, ⟨j2, e2⟩⟩ := q
      have eR : R2 = R' := by
        rw [e2, ej]
        exact iterB_end (by rw [← e2]; exact hr2) (by rw [← ej]; exact hr0)
      subst eR
      have W2 := house_stays W1 I.ap A1 K2
      repeat walk_at "u"
      refine w_fn G (by decide) (whole_ok hK) (fun v τ3 q => ?_) fun _ _ q => q.elim
      obtain ⟨rfl, rfl⟩ := q
      repeat walk_at "u"
      refine ⟨?_, ⟨_, _, G2.A, W2, H', I.ap, I.len, n64, cnt'⟩, (K'.trans (Keep.of_sub sb)).trans (K2.wide fun b q => .inl q)⟩
      show Value.bool (_ == _) = _
      rw [beq_iff_eq.mpr]
      rw [hr0] at ex
      simp only [List.length_nil] at ex
      omega
    · have hj : 0 < R'.road.length := by rw [decide_eq_false_iff_not] at q1; omega
      refine w_cut (fun τ => Sub σ' τ) s1 fun τ sb => ?_
      have A1 := A'.sub sb
      have W1 := W'.sub sb
      obtain ⟨⟨pp, l⟩, hkk⟩ : ∃ x, R'.road[0]? = some x := ⟨_, List.getElem?_eq_getElem hj⟩
      obtain ⟨h, hh, _⟩ := H'.good.mail hkk
      have hpp : pp < nums.length := by rw [← H'.good.len]; exact lt_of_get hh
      obtain ⟨h', s, hh', hs⟩ := H'.at hpp
      rw [hh] at hh'; cases hh'
      have F := H'.fair hkk hh hs
      have hst := H'.low n64 hh hs
      have hdl := I.len
      repeat walk_at "u"
      refine w_fn G (by decide) (came_ok5 (k := 0) hK W1 hkk hs F (by omega) (by omega) (by omega)) (fun v τ4 q => ?_) fun _ _ q => q.elim
      obtain ⟨⟨b2, rfl, _⟩, W4, K4⟩ := q
      have A4 := A1.off K4 (fun b q => I.ap b (.inr q)) W1.noTup
      obtain ⟨Hb, er, em', _⟩ := H'.bring hkk hh hs
      rw [hdl, ← er, ← em'] at W4
      have bc := H'.good.bring_count hj cnt'
      have hbd4 := Hb.good.bound n64
      repeat walk_at "u"
      exact ⟨_, rest_dec bc.2 hbd4, ⟨_, _, _, _, W4, Hb, bc.1, A4, (K'.trans (Keep.of_sub sb)).trans (K4.wide fun b q => .inr q), ⟨j + 1, by rw [ej]; rfl⟩, rfl, by walk_at "m", rest_cnt cnt' bc.1 bc.2 ex⟩, by walk_at "m", by walk_at "m"⟩
end
section
variable {g : Pg} {σ : Store} {L : RL} {R : Rng}
theorem hand_at_bad (hK : g.K = heap g.w.params) (A : RingAt g.w.params 150 260 L σ R) {a : Int} {t : Tok} (hb : a < 0 ∨ (R.hands.length : Int) ≤ a) (hz : R.hands.length ≤ 100000) : Fn g 2 (.ref 187) [.ref L.r, .int a t] σ (fun _ _ => False) (Thr 49 σ) := by
  have hx := A.top
  obtain ⟨kd, hd⟩ := A.dict
  obtain ⟨kh, hh⟩ := A.hl
  have hlen : (L.xs.map Value.ref).length = R.hands.length := by rw [List.length_map, A.lenx]
  refine' fn_throw [(Str.ofString "self", .ref L.r), (Str.ofString "place", .int a t)] ?k6 ?k7 ?k9 ?kB ?c5 ?c2 ?c3 ?c4 ?_
  walk_at "enter"
  intro c m hg G hsc hcl hin hm
  have m1 : m (Str.ofString "self") = some (.ref L.r) := by rw [hm]; rfl
  have m2 : m (Str.ofString "place") = some (.int a t) := by rw [hm]; rfl
  clear hm
  subst hg
  show W c (execs (_ :: _) c.env) _ _ _ _
  rcases (show a < 0 ∨ 0 ≤ a ∧ (R.hands.length : Int) ≤ a by omega) with hb | hb
  · repeat walk_at "s"
    refine w_fn G (by decide) (is_number_ok hK) (fun v σ' q => ?_) fun _ _ q => q.elim
    obtain ⟨rfl, rfl⟩ := q
    repeat walk_at "s"
    refine br_isF (decide_eq_false (by omega)) ?_
    repeat walk_at "s"
    rename_i e t tk he ht hte
    exact raised (Sub.refl _) he ht hte
  · repeat walk_at "s"
    refine w_fn G (by decide) (is_number_ok hK) (fun v σ' q => ?_) fun _ _ q => q.elim
    obtain ⟨rfl, rfl⟩ := q
    repeat walk_at "s"
    refine br_isT (decide_eq_true (by omega)) ?_
    repeat walk_at "s"
    refine br_isT (decide_eq_true (by omega)) ?_
    repeat walk_at "s"
    rename_i e t tk he ht hte
    exact raised (Sub.refl _) he ht hte
theorem bring_bad (hK : g.K = heap g.w.params) (A : RingAt g.w.params 150 260 L σ R) {a : Int} {t : Tok} (hb : a < 0 ∨ (R.road.length : Int) ≤ a) (hz : R.road.length ≤ 100000) : Fn g 2 (.ref 215) [.ref L.r, .int a t] σ (fun _ _ => False) (Thr 61 σ) := by
  have hx := A.top
  obtain ⟨kd, hd⟩ := A.dict
  obtain ⟨ms, kr, er, am⟩ := A.road
  have hlen : (ms.map Value.ref).length = R.road.length := by rw [List.length_map, am.len]
  refine' fn_throw [(Str.ofString "self", .ref L.r), (Str.ofString "place", .int a t)] ?k6 ?k7 ?k9 ?kB ?c5 ?c2 ?c3 ?c4 ?_
  walk_at "enter"
  intro c m hg G hsc hcl hin hm
  have m1 : m (Str.ofString "self") = some (.ref L.r) := by rw [hm]; rfl
  have m2 : m (Str.ofString "place") = some (.int a t) := by rw [hm]; rfl
  clear hm
  subst hg
  show W c (execs (_ :: _) c.env) _ _ _ _
  rcases (show a < 0 ∨ 0 ≤ a ∧ (R.road.length : Int) ≤ a by omega) with hb | hb
  · repeat walk_at "s"
    refine w_fn G (by decide) (is_number_ok hK) (fun v σ' q => ?_) fun _ _ q => q.elim
    obtain ⟨rfl, rfl⟩ := q
    repeat walk_at "s"
    refine br_isF (decide_eq_false (by omega)) ?_
    repeat walk_at "s"
    rename_i e t tk he ht hte
    exact raised (Sub.refl _) he ht hte
  · repeat walk_at "s"
    refine w_fn G (by decide) (is_number_ok hK) (fun v σ' q => ?_) fun _ _ q => q.elim
    obtain ⟨rfl, rfl⟩ := q
    repeat walk_at "s"
    refine br_isT (decide_eq_true (by omega)) ?_
    repeat walk_at "s"
    refine br_isT (decide_eq_true (by omega)) ?_
    repeat walk_at "s"
    rename_i e t tk he ht hte
    exact raised (Sub.refl _) he ht hte
theorem wake_bad (hK : g.K = heap g.w.params) (A : RingAt g.w.params 150 260 L σ R) {a : Int} {t : Tok} (hb : a < 0 ∨ (R.hands.length : Int) ≤ a) (hz : R.hands.length ≤ 100000) : Fn g 3 (.ref 201) [.ref L.r, .int a t] σ (fun _ _ => False) (Thr 49 σ) := by
  have hx := A.top
  obtain ⟨kd, hd⟩ := A.dict
  refine' fn_throw [(Str.ofString "self", .ref L.r), (Str.ofString "place", .int a t)] ?k6 ?k7 ?k9 ?kB ?c5 ?c2 ?c3 ?c4 ?_
  walk_at "enter"
  intro c m hg G hsc hcl hin hm
  have m1 : m (Str.ofString "self") = some (.ref L.r) := by rw [hm]; rfl
  have m2 : m (Str.ofString "place") = some (.int a t) := by rw [hm]; rfl
  clear hm
  subst hg
  show W c (execs (_ :: _) c.env) _ _ _ _
  repeat walk_at "s"
  exact w_fn G (by decide) (hand_at_bad hK A hb hz) (fun v σ' q => q.elim) fun v σ' q => .inl q
end
section
variable {g : Pg} {σ : Store} {L : RL} {ho lh lm : Addr} {ds : List Addr} {nums : List Int} {R : Rng} {ss : List LSt}
theorem strange_ok (hK : g.K = heap g.w.params) (I : S05 g 150 260 L ho lh lm ds nums σ R ss) {t : Tok} :
    FnT g 5 (.ref 353) [.ref L.r, .ref ho, .int (nums.length : Int) t] σ (fun v σ' => v = .bool true ∧ Sub σ σ') := by
  have n64 := I.n64
  have hcnt := I.cnt
  have hmost := I.most
  have hhl := I.H.good.len
  refine' fn_tries [(Str.ofString "_law_ring", .ref L.r), (Str.ofString "_law_house", .ref ho), (Str.ofString "_law_many", .int (nums.length : Int) t)] ?k6 ?k7 ?k9 ?kB ?c5 ?c2 ?c3 ?c4 ?_
  walk_at "enter"
  intro A env env' m₀ m s₀ T K0 hsc0 hin0 hm
  have m1 : m (Str.ofString "_law_ring") = some (.ref L.r) := by rw [hm]; rfl
  have m2 : m (Str.ofString "_law_house") = some (.ref ho) := by rw [hm]; rfl
  have m3 : m (Str.ofString "_law_many") = some (.int (nums.length : Int) t) := by rw [hm]; rfl
  clear hm
  have hK0 := hK
  show WT _ _ _ _ _ _ _ (execs (_ :: _) env') _ _ _
  refine WT.cons (WT.for T K0 (kind_is (c := inX g A env' g.h) hsc0 (by decide +kernel)) (fun m => m (Str.ofString "_law_ring") = some (.ref L.r) ∧ m (Str.ofString "_law_house") = some (.ref ho) ∧ m (Str.ofString "_law_many") = some (.int (nums.length : Int) t)) (fun _ => rfl) (WT.of' T K0 hsc0 hin0 ?_))
  intro c hg G hsc hcl hin
  have hK : c.g.K = heap c.g.w.params := by rw [hg]; exact hK0
  obtain ⟨t0, hho0⟩ := I.W.dic
  have hho : DicAt c.g σ ho (hsD lh lm (R.many : Int) t0) := by rw [hg]; exact hho0
  obtain ⟨bs, km, em, am⟩ := I.W.mails
  have hml : (bs.map Value.ref).length = R.road.length := by rw [List.length_map]; exact am.len
  repeat walk_at "u"
  rename_i u0 u1 u2 u3 u4 lb hlb
  have sb := sub_upd (o := lstO [Value.int ((bs.map Value.ref).length : Int) u1, Value.int (R.many : Int) t0, Value.int (-1) u4] 0) hlb
  refine ⟨lb, _, 0, rfl, upd_same, ⟨m1, m2, m3⟩, ?_, ?_⟩
  · rintro i v m' σ' hv ⟨n1, n2, n3⟩ s1
    have I1 := I.sub (sb.trans s1)
    obtain ⟨a, ta, rfl, ha⟩ : ∃ (a : Int) (ta : Tok), v = .int a ta ∧ (a < 0 ∨ (R.road.length : Int) ≤ a) := by
      match i, hv with
      | 0, hv => cases hv; exact ⟨_, _, rfl, .inr (by rw [hml]; exact Int.le_refl _)⟩
      | 1, hv => cases hv; exact ⟨_, _, rfl, .inr (by omega)⟩
      | 2, hv => cases hv; exact ⟨_, _, rfl, .inl (by decide)⟩
      | i + 3, hv => exact absurd hv (by simp)
    refine' WT.cons (WT.try' T K0 hsc0 hin0 (C := 61) (D := 61) (fl := .next) ?_ ?y1 ?y2 ?y3 ?y4 ?y5 ?y6)
    (case y1 => rw [hK0]; kernel_rfl)
    (case y2 => decide +kernel)
    (case y3 => decide +kernel)
    (case y4 => rw [hK0]; kernel_rfl)
    (case y5 => intro A' Q' E' s' q; exact wpAny_execs_cons (wpAny_Pass (wpAny_execs_nil q)))
    (case y6 => intro σ2 s2; exact WT.nil ⟨rfl, ⟨by walk_at "m", by walk_at "m", by walk_at "m"⟩, s2⟩)
    intro c' hg' G' hsc' hcl' hin'
    clear hK hsc hcl hin G hho hg
    have hsc := hsc'
    have hcl := hcl'
    have hin := hin'
    have G := G'
    clear G' hsc' hcl' hin'
    subst hg'
    have hK := hK0
    have hx := I1.A.top
    obtain ⟨kd, hdR⟩ := I1.A.dict
    repeat walk_at "s"
    exact w_fn G (by decide) (bring_bad hK I1.A ha (by omega)) (fun v σ' q => q.elim) fun v σ' q => ⟨q.1, rfl, q.2⟩
  · rintro m' σ' ⟨n1, n2, n3⟩ s1
    have I1 := I.sub (sb.trans s1)
    show WT _ _ _ _ _ _ _ (execs (_ :: _) env') _ _ _
    refine' WT.cons (WT.try' T K0 hsc0 hin0 (C := 49) (D := 49) (fl := .ret (.bool true)) ?_ ?z1 ?z2 ?z3 ?z4 ?z5 ?z6)
    (case z1 => rw [hK0]; kernel_rfl)
    (case z2 => decide +kernel)
    (case z3 => decide +kernel)
    (case z4 => rw [hK0]; kernel_rfl)
    (case z5 => intro A' Q' E' s' q; exact wpAny_execs_cons (wpAny_Return_some (wpAny_Constant_bool q)))
    (case z6 => intro σ2 s2; exact ⟨_, rfl, rfl, (sb.trans s1).trans s2⟩)
    intro c' hg' G' hsc' hcl' hin'
    clear hK hsc hcl hin G hho hg
    have hsc := hsc'
    have hcl := hcl'
    have hin := hin'
    have G := G'
    clear G' hsc' hcl' hin'
    subst hg'
    have hK := hK0
    have hx := I1.A.top
    obtain ⟨kd, hdR⟩ := I1.A.dict
    repeat walk_at "s"
    exact w_fn G (by decide) (wake_bad hK I1.A (.inr (by rw [hhl]; exact Int.le_refl _)) (by omega)) (fun v σ' q => q.elim) fun v σ' q => ⟨q.1, rfl, q.2⟩
end
section
variable {g : Pg} {σ σ' : Store} {L L2 : RL} {ho lh lm : Addr} {ds : List Addr} {nums : List Int} {R R2 : Rng} {ss : List LSt} {CH CR : Addr} {P : Params}
/-- a ring made later lies apart from an earlier one -/
theorem rings_apart (A : RingAt P CH CR L σ R) (hr : R.road = []) (sb : Sub σ σ') (A2 : RingAt P CH CR L2 σ' R2) (h2 : 0 < R2.hands.length) (nD2 : ∀ b, L2.D b → σ b = none) : ∀ b, L.D b → ¬ L2.F b := by
  intro b hb hF
  have A' := A.sub sb
  rcases hF with rfl | rfl | rfl | rfl | hF | hF
  · exact A'.notD_inst A2.top hb
  · exact A.has hb (nD2 _ (.inl rfl))
  · obtain ⟨kh2, eh2⟩ := A2.hl
    refine A'.notD_lst eh2 (fun q => ?_) hb
    obtain ⟨ms, kr, er, am⟩ := A'.road
    rw [q, er] at eh2
    have e := congrArg Obj.data (Option.some.inj eh2)
    injection e with e1 e2
    have e3 := congrArg Array.size e1
    simp only [List.size_toArray, List.length_map] at e3
    have e4 := am.len
    rw [hr] at e4
    have := A2.lenx
    simp only [List.length_nil] at e4
    omega
  · exact A.has hb (nD2 _ (.inr (.inl rfl)))
  · obtain ⟨i, hi, rfl⟩ := List.getElem_of_mem hF
    have h3 : i < R2.hands.length := A2.lenx ▸ hi
    have h4 : i < L2.dxs.length := by rw [A2.lend]; exact h3
    obtain ⟨k, e', _⟩ := A2.hand i L2.xs[i] L2.dxs[i] R2.hands[i] (List.getElem?_eq_getElem hi) (List.getElem?_eq_getElem h4) (List.getElem?_eq_getElem h3)
    exact A'.notD_inst e' hb
  · exact A.has hb (nD2 _ (.inr (.inr hF)))
/-- all stays when what lies apart is turned -/
theorem S05.off {D : Addr → Prop} (I : S05 g CH CR L ho lh lm ds nums σ R ss) (K : Keep D σ σ') (h : ∀ b, D b → ¬ L.F b ∧ b ≠ lh ∧ ¬ HD ho lm ds b) (ht : ∀ b vs, D b → σ b ≠ some (tupO vs)) : S05 g CH CR L ho lh lm ds nums σ' R ss :=
  ⟨I.A.off K (fun b q => (h b q).1) ht, I.W.off K (fun q => (h _ q).2.2 (.inl rfl)) (fun q => (h _ q).2.1 rfl) (fun q => (h _ q).2.2 (.inr (.inl rfl))) (fun d hd q => (h _ q).2.2 (.inr (.inr hd))) ht, I.H, I.ap, I.len, I.n64, I.cnt⟩
theorem S05.noTup (I : S05 g CH CR L ho lh lm ds nums σ R ss) : ∀ b vs, D05 L ho lm ds b → σ b ≠ some (tupO vs) := fun b vs q e => q.elim (fun q => I.A.notD_tup e q) fun q => I.W.noTup b vs q e
/-- what is new lies apart -/
theorem S05.new (I : S05 g CH CR L ho lh lm ds nums σ R ss) {a : Addr} (h : σ a = none) : ¬ L.F a ∧ a ≠ lh ∧ ¬ HD ho lm ds a := by
  refine ⟨fun q => I.A.hasF q h, fun q => ?_, I.W.notNew h⟩
  obtain ⟨k, e⟩ := I.W.hands
  rw [q, e] at h; cases h
theorem S05.newD (I : S05 g CH CR L ho lh lm ds nums σ R ss) {a : Addr} (h : σ a = none) : ¬ D05 L ho lm ds a := fun q => q.elim (fun q => (I.new h).1 (RL.D_F q)) (I.new h).2.2
/-- the start -/
theorem S05.begin (A : RingAt g.w.params CH CR L σ (Rng.start nums)) (hf : Fit nums) (ap : ∀ b, (b = lh ∨ HD ho lm ds b) → ¬ L.F b) {t : Tok} {kh km : Nat} (h1 : DicAt g σ ho (hsD lh lm 0 t)) (h2 : σ lh = some (lstO (ds.map .ref) kh)) (h3 : All2 (fun d s => ∃ k, DicAt g σ d (st7 s k)) ds (nums.map fun x => ({ num := x } : LSt))) (h4 : σ lm = some (lstO [] km)) (nd : (ho :: ds).Nodup) (ne : lm ≠ lh) :
    S05 g CH CR L ho lh lm ds nums σ (Rng.start nums) (nums.map fun x => ({ num := x } : LSt)) := by
  refine ⟨A, ⟨⟨t, h1⟩, ⟨kh, h2⟩, h3, ⟨[], km, h4, .nil⟩, nd, ne⟩, House.start hf.pos hf.nd, ap, ?_, hf.most, Nat.le_refl _⟩
  rw [h3.len, List.length_map]
/-- between two turns of the law -/
structure L05 (g : Pg) (CH CR : Addr) (L L2 : RL) (ho lh lm : Addr) (ds : List Addr) (nums : List Int) (hl tl : Addr) (tv : List Value) (σ : Store) (j : Nat) : Prop where
  S : ∃ R ss, S05 g CH CR L ho lh lm ds nums σ R ss
  B : RingAt g.w.params CH CR L2 σ ((Rng.start [3, 5]).wake 1)
  Hd : HeldAt (D05 L ho lm ds) σ hl j
  tA : σ tl = some (lstO tv 0)
  ap : ∀ b, D05 L ho lm ds b → ¬ L2.F b
  tD : ¬ D05 L ho lm ds tl
variable {hl tl : Addr} {tv : List Value} {j : Nat}
theorem L05.sub (I : L05 g CH CR L L2 ho lh lm ds nums hl tl tv σ j) (s : Sub σ σ') : L05 g CH CR L L2 ho lh lm ds nums hl tl tv σ' j :=
  ⟨let ⟨R, ss, q⟩ := I.S; ⟨R, ss, q.sub s⟩, I.B.sub s, I.Hd.sub s, s _ _ I.tA, I.ap, I.tD⟩
theorem L05.turn (I : L05 g CH CR L L2 ho lh lm ds nums hl tl tv σ j) (K : Keep (D05 L ho lm ds) σ σ') (S' : ∃ R ss, S05 g CH CR L ho lh lm ds nums σ' R ss) : L05 g CH CR L L2 ho lh lm ds nums hl tl tv σ' j := by
  obtain ⟨R, ss, q⟩ := I.S
  exact ⟨S', I.B.off K I.ap q.noTup, I.Hd.keep K q.noTup, K _ _ I.tA I.tD, I.ap, I.tD⟩
theorem L05.more {i : Nat} (I : L05 g CH CR L L2 ho lh lm ds nums hl tl tv σ i) (h : i ≤ j) : L05 g CH CR L L2 ho lh lm ds nums hl tl tv σ j := ⟨I.S, I.B, I.Hd.more h, I.tA, I.ap, I.tD⟩
/-- a pair is held -/
theorem L05.put (I : L05 g CH CR L L2 ho lh lm ds nums hl tl tv σ j) {as : List Addr} {k k' : Nat} {a : Addr} (hh : σ hl = some (lstO (as.map .ref) k)) (hj : as.length ≤ j) (hA : ∀ a ∈ as, PairAt (D05 L ho lm ds) hl σ a) (hD : ¬ D05 L ho lm ds hl) (hp : PairAt (D05 L ho lm ds) hl σ a) (hF : ¬ L.F hl ∧ hl ≠ lh ∧ ¬ HD ho lm ds hl) (hF2 : ¬ L2.F hl) (ht : tl ≠ hl) :
    L05 g CH CR L L2 ho lh lm ds nums hl tl tv (upd σ hl (lstO (as.map .ref ++ [.ref a]) k')) (j + 1) := by
  obtain ⟨R, ss, q⟩ := I.S
  have K : Keep (· = hl) σ (upd σ hl (lstO (as.map .ref ++ [.ref a]) k')) := Keep.refl.upd (.inl rfl)
  have nt : ∀ b vs, b = hl → σ b ≠ some (tupO vs) := fun b vs e z => by subst e; exact tup_lst z hh rfl
  refine ⟨⟨R, ss, q.off K (fun b e => by subst e; exact hF) nt⟩, I.B.off K (fun b e => by subst e; exact hF2) nt, ⟨as ++ [a], k', by rw [List.map_append]; exact upd_same, by rw [List.length_append]; exact Nat.succ_le_succ hj, hD, fun b hb => ?_⟩, look_off ht I.tA, I.ap, I.tD⟩
  rcases List.mem_append.mp hb with z | z
  · exact (hA b z).put hh
  · rw [List.mem_singleton.mp z]; exact hp.put hh
end
set_option hygiene false in
local macro_rules | `(tactic| walk_at "sl") => `(tactic| ((with_reducible refine w_step ?_ ?ht); rotate_left; (case ht => intro _ _; with_unfolding_all exact rfl)))
section
variable {g : Pg} {σ : Store} {L : RL} {ho lh lm : Addr} {ds : List Addr} {nums : List Int} {R : Rng} {ss : List LSt}
theorem all_ok (hK : g.K = heap g.w.params) (I : S05 g 150 260 L ho lh lm ds nums σ R ss) {a : Int} {t : Tok} :
    Fn g 7 (.ref 381) [.ref L.r, .ref ho, .int a t] σ (fun v σ' => v = .bool true ∧ Sub σ σ') NoE := by
  have n64 := I.n64
  have hdl := I.len
  refine' fn_body [(Str.ofString "_law_ring", .ref L.r), (Str.ofString "_law_house", .ref ho), (Str.ofString "_law_turn", .int a t)] ?k6 ?k7 ?k9 ?kB ?c5 ?c2 ?c3 ?c4 ?_
  walk_at "enter"
  intro c m hg G hsc hcl hin hm
  have m1 : m (Str.ofString "_law_ring") = some (.ref L.r) := by rw [hm]; rfl
  have m2 : m (Str.ofString "_law_house") = some (.ref ho) := by rw [hm]; rfl
  have m3 : m (Str.ofString "_law_turn") = some (.int a t) := by rw [hm]; rfl
  clear hm
  subst hg
  show W c (execs (_ :: _) c.env) _ _ _ _
  obtain ⟨t0, hho⟩ := I.W.dic
  obtain ⟨kh, hlh⟩ := I.W.hands
  have hml : (ds.map Value.ref).length = nums.length := by rw [List.length_map]; exact hdl
  have hm64 : (ds.map Value.ref).length ≤ 64 := by omega
  repeat walk_at "u"
  rename_i rg r1 r2 r3 hrg
  refine w_list_range G upd_same (by decide) (by decide) (by omega) (by omega) (by omega) fun pl ys jj hpl hyl hys => ?_
  have s1 := (sub_upd (o := rngO 0 ((ds.map Value.ref).length : Int) r1 r2 r3) hrg).trans (sub_upd (o := lstO ys jj) hpl)
  have hP : Places nums.length ys := fun v hv => by
    obtain ⟨i, hi, e⟩ := List.getElem_of_mem hv
    obtain ⟨tt, e'⟩ := hys i v (by rw [List.getElem?_eq_getElem hi, e])
    exact ⟨i, tt, by rw [e', Int.zero_add], by omega⟩
  have hpl2 : upd (upd σ rg (rngO 0 ((ds.map Value.ref).length : Int) r1 r2 r3)) pl (lstO ys jj) pl = some (lstO ys jj) := upd_same
  generalize upd (upd σ rg (rngO 0 ((ds.map Value.ref).length : Int) r1 r2 r3)) pl (lstO ys jj) = τ at s1 hpl2
  repeat walk_at "u"
  rename_i e10 e9 e8 e7 e6 lb hlb e3 e2 e1 e0
  have x1 : 0 ≤ (a.fdiv 2).fmod 2 := Int.fmod_nonneg_of_pos _ (by decide)
  have x2 : (a.fdiv 2).fmod 2 < 2 := Int.fmod_lt_of_pos _ (by decide)
  obtain ⟨y, ty, ey, hy⟩ : ∃ (y : Int) (ty : Tok), [Value.int 1 e8, Value.int (-1) e6][((a.fdiv 2).fmod 2).toNat]? = some (.int y ty) ∧ y ≠ 0 := by
    rcases (show (a.fdiv 2).fmod 2 = 0 ∨ (a.fdiv 2).fmod 2 = 1 by omega) with q | q
    · rw [q]; exact ⟨1, e8, rfl, by decide⟩
    · rw [q]; exact ⟨-1, e6, rfl, by decide⟩
  have s2 := sub_upd (o := lstO [Value.int 1 e8, Value.int (-1) e6] 0) hlb
  refine w_item (v := .int y ty) upd_same (by omega) (by omega) ey ?_ (by with_unfolding_all rfl)
  refine ⟨pl, ys, jj, y, ty, rfl, rfl, hy, s2 _ _ hpl2, by rw [sizeLine_eq]; omega, fun pz zs hpz hzl hzm => ?_⟩
  have s3 := (s1.trans s2).trans (sub_upd (o := lstO zs 0) hpz)
  repeat walk_at "u"
  refine w_fn G (by decide) (looked_ok hK (I.sub s3) upd_same (fun v hv => hP v (hzm v hv))) (fun v τ3 q => ?_) fun _ _ q => q.elim
  obtain ⟨rfl, s4⟩ := q
  exact ⟨rfl, s3.trans s4⟩
end
structure M05 (c : Cx) (L L2 : RL) (ho hl : Addr) (nn : Int) (tm : Tok) (m : Loc) : Prop where
  script : m (Str.ofString "_law_script") = some (.ref c.g.bl)
  ring : m (Str.ofString "_law_ring") = some (.ref L.r)
  other : m (Str.ofString "_law_other") = some (.ref L2.r)
  house : m (Str.ofString "_law_house") = some (.ref ho)
  held : m (Str.ofString "_law_held") = some (.ref hl)
  many : m (Str.ofString "_law_many") = some (.int nn tm)
set_option hygiene false in
local macro_rules | `(tactic| walk_at "sl") => `(tactic| ((with_reducible refine w_tailL ?_ ?ht); rotate_left; (case ht => intro _ _; with_unfolding_all exact rfl)))
theorem law_holds : PySem.Challenge.rw_uf060019_05.Holds := by
  refine holds_law (by decide +kernel) fun said => ?_
  refine holds_open (q := view) (loose := []) (Xt := fun s => xlAt view [] s && recOk [] s) (XP := XL view []) (Yf := Hook.obs hook) (Ya := Hook.val hook) (YP := Hook.says hook) top_runs (Hook.of hook) (Hook.keeps hook) (fun s e => xl_of s (Bool.and_eq_true_iff.mp e).1) XL.keeps (by rfl) (by rfl) (by rfl) (fun s e => recFacts_of (Bool.and_eq_true_iff.mp e).2) (by rfl) (by first | assumption | decide +kernel) (by decide +kernel) ⟨rfl, rfl, rfl, rfl, rfl, by decide +kernel⟩ ?hw ?hc
  (case hw => w_witness2)
  intro w s₀ s₁ mg mb G Y fa o pm cd doc dV kV ho hd hcd hD hmg hg args vals as hpre hlay hrd hwl hlo
  have KX := kIn_of Y
  refine Ground.open G ?_
  intro T B D TE TW
  wrow_args hpre hlay hrd hwl hlo
  refine enter_call ?_
  rename_i ns _ _ _ _ _ _ _ l vs _ hL _ _ _ hI _ hc _
  have hdV : dV = .none := by
    rcases hD.pos with q | q
    · exact q.2
    · exact absurd rfl q.1
  have hkV : kV = .none := by
    rcases hD.kw with q | q
    · exact q.2
    · exact absurd rfl q.1
  subst hdV hkV
  have h63 : ns.length ≤ 63 := by omega
  refine codeAny_mono (top_call (g := ⟨_, w, heap w.params, _, _, _, mg, mb, l, vs, s₁.heap⟩) (binds := [(Str.ofString "_law_script", .ref l)]) T KX hL rfl ho hd hcd rfl rfl (of_decide_eq_true rfl) (of_decide_eq_true rfl) rfl rfl rfl ?_) (fun r s' q => ?_)
  rotate_left
  · obtain ⟨rfl, k1, k2, k3⟩ := q
    exact GoodW.toG (good_true PySem.Challenge.rw_uf060019_05 k1 k2 (k3.trans hg))
  intro c hg' G' hsc hcl hh0 hfrm
  have hK : c.g.K = heap c.g.w.params := by rw [hg']
  have hB : IntsAre c.g.bv ns := by rw [hg']; exact hI
  have hl' : l = c.g.bl := by rw [hg']
  have hnd : (c.env.scope.names.map (·.1)).Nodup := by rw [hsc]; exact of_decide_eq_true rfl
  rw [hsc] at hnd
  have hin : interactive c.env = false := by unfold interactive; rw [hsc]; rfl
  dsimp only [docDef] at hsc hcl hnd ⊢
  generalize hm : (fun y => List.lookup y [(Str.ofString "_law_script", Value.ref l)].reverse) = m
  have m1 : m (Str.ofString "_law_script") = some (.ref c.g.bl) := by rw [← hm, ← hl']; rfl
  clear hm
  rename Gnd 300 c => G
  have hh1 : c.h₀ = c.g.h := by rw [hg']; exact hh0
  clear hg' hh0
  repeat walk_at "u"
  repeat walk_at "u"
  refine w_fn G (by decide) (numbers_ok hK hB h63) (fun v σ1 q => ?_) fun _ _ q => q.elim
  obtain ⟨nl, nvs, nums, kn, rfl, hnl0, hnl, hni, hfit, s1⟩ := q
  have hnlen := hni.length
  have f1 := hfit.pos
  have f2 := hfit.most
  repeat walk_at "u"
  rename_i nc knc hnc
  have s2 := sub_upd (o := lstO nvs knc) hnc
  refine w_fn G (by decide) (mk_ring hK (nl := nc) upd_same hni f1 f2 hfit.nn hfit.nd) (fun v σ2 q => ?_) fun _ _ q => q.elim
  obtain ⟨L, rfl, A, s3, hD⟩ := q
  have hnl2 := s3 _ _ (s2 _ _ hnl)
  repeat walk_at "u"
  rename_i u3 u5 l3 hl3
  have s4 := sub_upd (o := lstO [Value.int 3 u3, Value.int 5 u5] 0) hl3
  refine w_fn G (by decide) (mk_ring hK (nl := l3) (ns := [3, 5]) upd_same (.cons 3 u3 (.cons 5 u5 .nil)) (by decide) (by decide) (by decide) (by decide)) (fun v σ3 q => ?_) fun _ _ q => q.elim
  obtain ⟨L2, rfl, A2, s5, hD2⟩ := q
  have hx2 := A2.top
  obtain ⟨kd2, hdR2⟩ := A2.dict
  repeat walk_at "u"
  refine w_fn G (by decide) (r_wake (p := 1) (h := { num := 5 }) hK A2 rfl (by rw [A2.lenx]; decide) (Nat.le_of_ble_eq_true rfl)) (fun v σ4 q => ?_) fun _ _ q => q.elim
  obtain ⟨rfl, A3, K3⟩ := q
  have nD2 : ∀ b, L2.D b → σ2 b = none := fun b q => upd_none (hD2 b q)
  have A4 : RingAt c.g.w.params 150 260 L σ4 (Rng.start nums) := (A.sub (s4.trans s5)).off K3 (fun b q z => A.hasF z (nD2 b q)) (fun b vs q e => A2.notD_tup e q)
  have hnl4 : σ4 nl = some (lstO nvs kn) := K3 _ _ (s5 _ _ (s4 _ _ hnl2)) fun q => by rw [nD2 _ q] at hnl2; cases hnl2
  clear hx2 hdR2
  have ap12 := rings_apart A rfl (s4.trans s5) A2 (by decide) nD2
  have ap21 : ∀ b, L2.D b → ¬ L.F b := fun b q z => A.hasF z (nD2 b q)
  clear A A2 s1 s2 s3 s4 s5 hD hD2 nD2 hnl hnl2 hnc hl3 K3 hnl0
  repeat walk_at "u"
  refine w_dictS rfl rfl (fun q => nomatch q) (Nat.le_of_ble_eq_true rfl) ?_
  refine w_pairs ?_
  repeat walk_at "u"
  refine w_comp (allfree hsc hcl rfl) rfl (by decide +kernel) (fun _ => rfl) ?_
  repeat walk_at "u"
  refine comp_list G (by decide +kernel) rfl (by decide +kernel) (DicsTo c.g σ4 nums) (fun _ _ _ _ s h => h.mono s) hnl4 (by rw [sizeLine_eq]; omega) ⟨[], rfl, List.nodup_nil, (by rw [List.take_zero]; exact .nil), fun d hd => absurd hd (by simp)⟩ ?_ ?_
  · intro j v hv e C oC mm τ ys CE sub τC hP hn hmm
    obtain ⟨a, t, ha, rfl⟩ := ints_get hni hv
    repeat walk_at "u"
    refine w_fn G (by decide) (start_ok hK) (fun v τ2 q => ?_) fun _ _ q => q.elim
    obtain ⟨d, k, rfl, hd0, ⟨od, ed, rd⟩, s2⟩ := q
    have nd : d ≠ C := fun q => by rw [q, upd_same] at hd0; cases hd0
    exact ⟨rfl, s2, hP.succ (sub_drop ((sub_upd τC).trans s2) τC) ha (upd_none hd0) sub ⟨od, by rw [drop_ne nd]; exact ed, rd⟩⟩
  intro lh σ5 ys kh hlh4 hlh5 s5 hys hP
  obtain ⟨ds, rfl, hdn, hda, hdf⟩ := hP
  repeat walk_at "u"
  refine w_pairs ?_
  repeat walk_at "u"
  refine w_pairs ?_
  repeat walk_at "u"
  refine w_pairs_nil ?_
  rename_i y5 y4 lm hlm y1 y0
  refine ⟨[(Str.ofString "hands", .ref lh), (Str.ofString "mails", .ref lm), (Str.ofString "sent", .int 0 y0)], ⟨rfl, rfl, rfl, rfl, rfl, rfl, trivial⟩, fun ho o hho0 hdo => ?_⟩
  have nml : lm ≠ lh := fun q => by rw [q, upd_same] at hlm; cases hlm
  have nol : ho ≠ lh := fun q => by rw [q, upd_ne (Ne.symm nml), upd_same] at hho0; cases hho0
  have nom : ho ≠ lm := fun q => by rw [q, upd_same] at hho0; cases hho0
  have hlm5 : σ5 lm = none := upd_none hlm
  have hho5 : σ5 ho = none := upd_none (upd_none hho0)
  have down : ∀ b, σ5 b = none → σ4 b = none := fun b q => by
    cases z : σ4 b with
    | none => rfl
    | some o => rw [s5 _ _ z] at q; cases q
  rw [hnlen, ← hni.length, hnlen, List.take_length] at hda
  have fresh : ∀ b, (b = lh ∨ HD ho lm ds b) → σ4 b = none := fun b q => by
    rcases q with rfl | rfl | rfl | q
    · exact hlh4
    · exact down _ hho5
    · exact down _ hlm5
    · exact hdf b q
  have s6 := ((sub_upd (o := lstO (ds.map .ref) kh) hlh5).trans (sub_upd (o := lstO [] 0) hlm)).trans (sub_upd (o := o) hho0)
  have ap2 : ∀ b, D05 L ho lm ds b → ¬ L2.F b := fun b q => q.elim (ap12 b) fun q z => A3.hasF z (fresh b (.inr q))
  refine w_cut (fun τ => S05 c.g 150 260 L ho lh lm ds nums τ (Rng.start nums) (nums.map fun x => ({ num := x } : LSt)) ∧ RingAt c.g.w.params 150 260 L2 τ ((Rng.start [3, 5]).wake 1) ∧ τ nl = some (lstO nvs kn)) ⟨?_, A3.sub (s5.trans s6), (s5.trans s6) _ _ hnl4⟩ ?_
  · refine S05.begin (A4.sub (s5.trans s6)) hfit (fun b q z => A4.hasF z (fresh b q)) (show DicAt c.g _ ho (hsD lh lm 0 y0) from DicAt.new hdo) (look_off (Ne.symm nol) (look_off (Ne.symm nml) upd_same)) (hda.mono fun _ _ q => q.imp fun _ q => q.sub s6) (look_off (Ne.symm nom) upd_same) (List.nodup_cons.mpr ⟨fun q => ?_, hdn⟩) nml
    obtain ⟨i, hi, e⟩ := List.getElem_of_mem q
    obtain ⟨s', _, k', o', e', _⟩ := hda.get' (List.getElem?_eq_getElem hi)
    rw [e, hho5] at e'; cases e'
  rintro τ0 ⟨I0, B0, hnl0⟩
  clear hda hdf hdn hlh4 hlh5 hlm hlm5 hho5 hho0 hdo down fresh s5 s6 A3 A4 hnl4 ap12 ap21 nol nom nml hys σ5
  repeat walk_at "u"
  rename_i hl hhl tm
  rw [hnlen]
  have s7 := sub_upd (o := lstO [] 0) hhl
  have I1 := I0.sub s7
  have B1 := B0.sub s7
  have hlN := I0.new hhl
  have hlD := I0.newD hhl
  have hlF2 : ¬ L2.F hl := fun q => B0.hasF q hhl
  have hhl1 : upd τ0 hl (lstO [] 0) hl = some (lstO [] 0) := upd_same
  clear s7 I0 B0 hhl
  generalize upd τ0 hl (lstO [] 0) = τ1 at I1 B1 hhl1
  refine w_execs_cons (w_forG ?_ (by intro _; rfl))
  repeat walk_at "u"
  refine ⟨_, _, 8, _, rfl, rfl, .inl G.base, by rw [sizeLine_eq, hB.length]; omega, fun tl htl => ?_⟩
  have s8 := sub_upd (o := lstO (List.drop 8 c.g.bv) 0) htl
  have tlD := I1.newD htl
  have ntl : tl ≠ hl := fun q => by rw [q, hhl1] at htl; cases htl
  have J0 : L05 c.g 150 260 L L2 ho lh lm ds nums hl tl (List.drop 8 c.g.bv) (upd τ1 tl (lstO (List.drop 8 c.g.bv) 0)) 0 := ⟨⟨_, _, I1.sub s8⟩, B1.sub s8, ⟨[], 0, s8 _ _ hhl1, Nat.le_refl _, hlD, fun a ha => absurd ha (by simp)⟩, upd_same, ap2, tlD⟩
  clear I1 B1 hhl1 s8 htl
  generalize upd τ1 tl (lstO (List.drop 8 c.g.bv) 0) = τ2 at J0
  have htl2 := J0.tA
  repeat walk_at "u"
  refine w_enumerate htl2 fun it en hit hen hne => ?_
  clear htl2
  refine turns_enum (σ := τ2) (l := tl) (vs := List.drop 8 c.g.bv) (k := 0) G (kind_is hsc (by decide +kernel)) (cell_no (sc := c.env.scope) (k := .local) (by rw [hcl, hsc]) (by rw [hsc]; decide +kernel) (fun q => nomatch q) (by rw [hsc]; exact hnd)) (kind_is hsc (by decide +kernel)) (cell_no (sc := c.env.scope) (k := .local) (by rw [hcl, hsc]) (by rw [hsc]; decide +kernel) (fun q => nomatch q) (by rw [hsc]; exact hnd)) (fun j m' σ' => L05 c.g 150 260 L L2 ho lh lm ds nums hl tl (List.drop 8 c.g.bv) σ' j ∧ M05 c L L2 ho hl (nums.length : Int) tm m') upd_same (look_off (Ne.symm hne) upd_same) ((sub_upd hit).trans (sub_upd (by rw [upd_ne hne]; exact hen))) hen hit hne ?_ ?_ ?_ ?_
  · rintro i m' σ' ⟨J, _⟩; exact J.tA
  · exact ⟨J0, by walk_at "m", by walk_at "m", by walk_at "m", by walk_at "m", by walk_at "m", by walk_at "m"⟩
  · rintro j v tj m' σ' hv ⟨J, n1, n2, n3, n4, n5, n6⟩
    obtain ⟨a, ta, _, rfl⟩ := ints_get (ints_drop hB 8) hv
    have hj : j < 63 := by
      obtain ⟨h, _⟩ := List.getElem?_eq_some_iff.mp hv
      rw [List.length_drop, hB.length] at h; omega
    repeat walk_at "u"
    rename_i tt
    generalize (((a + 7919 * (j : Int)) * 48271).fmod 2147483647).fdiv 11 = tn
    have y1 : 0 ≤ (tn.fdiv 7).fmod 5 := Int.fmod_nonneg_of_pos _ (by decide)
    have y2 : (tn.fdiv 7).fmod 5 < 5 := Int.fmod_lt_of_pos _ (by decide)
    obtain ⟨R0, ss0, I0⟩ := J.S
    refine x_assign_comp G (kind_is hsc (by decide +kernel)) (by decide +kernel) (allfree hsc hcl rfl) rfl (by decide +kernel) (fun _ => rfl) ?_
    repeat walk_at "u"
    rename_i rg r1 r2 r3 hrg
    obtain ⟨M, eM, hM1, hM2⟩ : ∃ M : Int, (if (6 : Int) < (nums.length : Int) then (6 : Int) else (nums.length : Int)) = M ∧ 0 ≤ M ∧ M ≤ 6 := ⟨_, rfl, by split <;> omega, by split <;> omega⟩
    rw [eM]
    have s0 := sub_upd (o := rngO 0 M r1 r2 r3) hrg
    refine comp_rangeU G (kind_is hsc (by decide +kernel)) (cell_no (sc := c.env.scope) (k := .local) (by rw [hcl, hsc]) (by rw [hsc]; decide +kernel) (fun q => nomatch q) (by rw [hsc]; exact hnd)) (by decide +kernel) rfl (by decide +kernel) (fun i ys _ => Places nums.length ys) (fun _ _ _ _ _ h => h) upd_same (by decide) (by decide) (by omega) (by omega) (by rw [sizeLine_eq]; omega) (fun v hv => absurd hv (by simp)) ?_ ?_
    · intro i ti hi e C oC mm τ ys CE sub τC hP hn hmm
      rw [Int.zero_add] at hmm
      repeat walk_at "u"
      refine ⟨rfl, Sub.refl _, fun v hv => (List.mem_append.mp hv).elim (hP v) fun q => ?_⟩
      obtain ⟨p, ep, hp⟩ := fmod_nat (n := nums.length) (by omega) (tn.fdiv 72 + (i : Int) * (1 + (tn.fdiv 7).fmod 5))
      rw [List.mem_singleton.mp q, ep]
      exact ⟨p, _, rfl, hp⟩
    intro pz σ1 ys kk hpz0 hpz1 s1 hys hP
    have pzD := (I0.sub (s0.trans s1)).newD hpz1
    have J1 := J.sub ((s0.trans s1).trans (sub_upd (o := lstO ys kk) hpz1))
    have hpz : upd σ1 pz (lstO ys kk) pz = some (lstO ys kk) := upd_same
    clear I0 hpz0 hpz1 s1 s0 hrg J
    generalize upd σ1 pz (lstO ys kk) = σ2 at J1 hpz
    obtain ⟨R1, ss1, I1⟩ := J1.S
    walk_at "s"
    repeat walk_at "u"
    refine w_fn G (by decide) (step_ok hK I1) (fun v σ3 q => ?_) fun _ _ q => q.elim
    obtain ⟨rfl, S3, K3⟩ := q
    have J3 := J1.turn K3 S3
    have hpz3 := K3 _ _ hpz pzD
    obtain ⟨R3, ss3, I3⟩ := S3
    repeat walk_at "u"
    refine x_if_cut (fun m'' σ'' => Sub σ3 σ'' ∧ m'' (Str.ofString "_law_turn") = some (.int tn tt) ∧ m'' (Str.ofString "_law_places") = some (.ref pz) ∧ M05 c L L2 ho hl (nums.length : Int) tm m'') ?_ ?_
    · repeat walk_at "u"
      refine br_any (fun q1 => ?_) fun q1 => ?_
      · repeat walk_at "u"
        refine w_fnT G (by decide) hfrm hh1 (strange_ok hK I3) fun v σ4 q => ?_
        obtain ⟨rfl, s4⟩ := q
        repeat walk_at "u"
        exact ⟨s4, by walk_at "m", by walk_at "m", by walk_at "m", by walk_at "m", by walk_at "m", by walk_at "m", by walk_at "m", by walk_at "m"⟩
      · repeat walk_at "u"
        exact ⟨Sub.refl _, by walk_at "m", by walk_at "m", by walk_at "m", by walk_at "m", by walk_at "m", by walk_at "m", by walk_at "m", by walk_at "m"⟩
    · rintro m4 σ4 ⟨s4, p7, p8, p1, p2, p3, p4, p5, p6⟩
      have J4 := J3.sub s4
      have I4 := I3.sub s4
      have hpz4 := s4 _ _ hpz3
      walk_at "s"
      repeat walk_at "u"
      refine w_fn G (by decide) (looked_ok hK I4 hpz4 hP) (fun v σ5 q => ?_) fun _ _ q => q.elim
      obtain ⟨rfl, s5⟩ := q
      have J5 := J4.sub s5
      have I5 := I4.sub s5
      clear J1 J3 J4 I1 I3 I4 hpz hpz3 hpz4 K3
      have hmost := I5.most
      obtain ⟨t0, hho⟩ := I5.W.dic
      obtain ⟨bs, km, em, am⟩ := I5.W.mails
      have hml : (bs.map Value.ref).length = R3.road.length := by rw [List.length_map]; exact am.len
      have hx := I5.A.top
      obtain ⟨kd, hdR⟩ := I5.A.dict
      obtain ⟨as, kl, hhl, hal, hlD, hpa⟩ := J5.Hd
      repeat walk_at "u"
      walk_at "s"
      repeat walk_at "u"
      refine br_any (fun q2 => ?_) fun q2 => ?_
      · repeat walk_at "u"
        refine w_fn G (by decide) (r_mails hK I5.A (by omega)) (fun v σ6 q => ?_) fun _ _ q => q.elim
        obtain ⟨l1, ms, k1, rfl, hl10, am1, rfl⟩ := q
        have s6 := sub_upd (o := lstO (ms.map .ref) k1) hl10
        have em6 := s6 _ _ em
        have hho6 := hho.sub s6
        repeat walk_at "u"
        rename_i u0 l2 k2 hl20 pa hpn
        have s7 := sub_upd (o := lstO (bs.map .ref) k2) hl20
        have s8 := (s6.trans s7).trans (sub_upd (o := tupO [.ref l1, .ref l2]) hpn)
        have e1 : upd σ5 l1 (lstO (ms.map .ref) k1) l1 = some (lstO (ms.map .ref) k1) := upd_same
        have e2 : upd (upd σ5 l1 (lstO (ms.map .ref) k1)) l2 (lstO (bs.map .ref) k2) l2 = some (lstO (bs.map .ref) k2) := upd_same
        have Pp : PairAt (D05 L ho lm ds) hl (upd (upd (upd σ5 l1 (lstO (ms.map .ref) k1)) l2 (lstO (bs.map .ref) k2)) pa (tupO [.ref l1, .ref l2])) pa :=
          ⟨l1, l2, k1, k2, ms, bs, R3.road, upd_same, sub_upd hpn _ _ (s7 _ _ e1), sub_upd hpn _ _ e2, I5.newD hl10, (I5.sub s6).newD hl20, fun q => (by rw [q, hhl] at hl10; cases hl10), fun q => (by rw [q, s6 _ _ hhl] at hl20; cases hl20), am1.mono fun _ _ r => r.sub s8, am.mono fun _ _ r => r.sub s8⟩
        have J8 := J5.sub s8
        have hhl8 := s8 _ _ hhl
        have hA8 := fun b hb => (hpa b hb).sub s8
        have hal2 : (as.map Value.ref).length ≤ 63 := by rw [List.length_map]; omega
        clear em6 hho6 e1 e2 hl10 hl20 hpn s6 s7 hhl hpa J5 I5 hho em am hx hdR
        generalize upd (upd (upd σ5 l1 (lstO (ms.map .ref) k1)) l2 (lstO (bs.map .ref) k2)) pa (tupO [.ref l1, .ref l2]) = σ8 at Pp J8 hhl8 hA8
        refine w_append hhl8 (by rw [sizeLine_eq]; omega) ?_
        have J9 := J8.put (k' := kl + 1) hhl8 hal hA8 hlD Pp hlN hlF2 ntl
        clear J8 Pp hhl8 hA8 s8 am1 hml
        generalize upd σ8 hl (lstO (List.map Value.ref as ++ [Value.ref pa]) (kl + 1)) = σ9 at J9
        obtain ⟨R9, ss9, I9⟩ := J9.S
        have hmost9 := I9.most
        have hx := I9.A.top
        obtain ⟨kd9, hdR⟩ := I9.A.dict
        repeat walk_at "u"
        refine w_fn G (by decide) (r_mails hK I9.A (by omega)) (fun v σ10 q => ?_) fun _ _ q => q.elim
        obtain ⟨l3, ms3, k3, rfl, hl30, am3, rfl⟩ := q
        have hml3 : (ms3.map Value.ref).length = R9.road.length := by rw [List.length_map]; exact am3.len
        repeat walk_at "u"
        refine w_clearA upd_same (by rw [sizeLine_eq]; omega) fun k4 => ?_
        have s9 : Sub σ9 (upd (upd σ9 l3 (lstO (ms3.map .ref) k3)) l3 (lstO [] k4)) := fun b o e => look_off (new_ne e hl30) (look_off (new_ne e hl30) e)
        have J10 := J9.sub s9
        repeat walk_at "u"
        exact ⟨J10, by walk_at "m", by walk_at "m", by walk_at "m", by walk_at "m", by walk_at "m", by walk_at "m"⟩
      · repeat walk_at "u"
        exact ⟨J5.more (Nat.le_succ _), by walk_at "m", by walk_at "m", by walk_at "m", by walk_at "m", by walk_at "m", by walk_at "m"⟩
  · rintro m' σ' ⟨J, n1, n2, n3, n4, n5, n6⟩
    show W c (execs (_ :: _) c.env) _ _ _ _
    obtain ⟨R, ss, I⟩ := J.S
    repeat walk_at "u"
    refine w_fn G (by decide) (cell_ok hK hB h63 (by decide)) (fun v σ1 q => ?_) fun _ _ q => q.elim
    obtain ⟨⟨t1, rfl⟩, rfl⟩ := q
    generalize ns.getD (Int.toNat 1) 0 = snd
    repeat walk_at "u"
    walk_at "s"
    repeat walk_at "u"
    refine w_fn G (by decide) (all_ok hK I) (fun v σ2 q => ?_) fun _ _ q => q.elim
    obtain ⟨rfl, s2⟩ := q
    have J2 := J.sub s2
    have I2 := I.sub s2
    clear J I
    repeat walk_at "u"
    refine x_if_cut (fun m'' σ'' => L05 c.g 150 260 L L2 ho lh lm ds nums hl tl (List.drop 8 c.g.bv) σ'' (List.drop 8 c.g.bv).length ∧ m'' (Str.ofString "_law_other") = some (.ref L2.r) ∧ m'' (Str.ofString "_law_held") = some (.ref hl)) ?_ ?_
    · repeat walk_at "u"
      refine w_fn G (by decide) (cell_ok hK hB h63 (by decide)) (fun v σ3 q => ?_) fun _ _ q => q.elim
      obtain ⟨⟨t3, rfl⟩, rfl⟩ := q
      repeat walk_at "u"
      refine br_any (fun q1 => ?_) fun q1 => ?_
      · repeat walk_at "u"
        refine w_fn G (by decide) (rests_ok hK I2) (fun v σ4 q => ?_) fun _ _ q => q.elim
        obtain ⟨rfl, S4, K4⟩ := q
        have J4 := J2.turn K4 S4
        obtain ⟨R4, ss4, I4⟩ := S4
        repeat walk_at "u"
        refine w_fn G (by decide) (all_ok hK I4) (fun v σ5 q => ?_) fun _ _ q => q.elim
        obtain ⟨rfl, s5⟩ := q
        repeat walk_at "u"
        exact ⟨J4.sub s5, by walk_at "m", by walk_at "m"⟩
      · repeat walk_at "u"
        exact ⟨J2, by walk_at "m", by walk_at "m"⟩
    rintro m3 σ3 ⟨J3, p1, p2⟩
    obtain ⟨as, kl, hhl, hal, hlD, hpa⟩ := J3.Hd
    have hdl : (List.drop 8 c.g.bv).length ≤ 63 := by rw [List.length_drop, hB.length]; omega
    walk_at "s"
    repeat walk_at "u"
    refine w_compT (allfree hsc hcl rfl) rfl (by decide +kernel) (fun _ => rfl) ?_
    repeat walk_at "u"
    refine comp_listT G (by decide +kernel) rfl (by decide +kernel) (fun _ ys _ => ys = []) (fun _ _ _ _ _ h => h) hhl (by rw [sizeLine_eq, List.length_map]; omega) rfl ?_ ?_
    · intro i v hv e C oC mm τ ys CE sub τC hP hn hmm
      rw [List.getElem?_map, Option.map_eq_some_iff] at hv
      obtain ⟨pa, hpa', rfl⟩ := hv
      obtain ⟨l1, l2, k1, k2, xs1, xs2, ms, g1, g2, g3, _, _, _, _, g8, g9⟩ := ((hpa pa (List.mem_of_getElem? hpa')).sub sub).sub (sub_upd (o := oC) τC)
      repeat walk_at "u"
      refine w_item_tup (j := 0) (v := .ref l1) g1 (by decide) (by decide) rfl rfl ?_ (by with_unfolding_all rfl)
      repeat walk_at "u"
      refine w_item_tup (j := 1) (v := .ref l2) g1 (by decide) (by decide) rfl rfl ?_ (by with_unfolding_all rfl)
      repeat walk_at "u"
      refine ne_mails G g2 g3 g8 g9 ?_
      repeat walk_at "u"
      exact ⟨rfl, Sub.refl _, hP⟩
    · intro D τ ys kk hD1 hD2 s2 hP
      subst hP
      repeat walk_at "u"
      rename_i zz hzz
      have s4 := (s2.trans (sub_upd (o := lstO [] kk) hD2)).trans (sub_upd (o := lstO [] 0) hzz)
      have B4 := J3.B.sub s4
      clear J3 J2 I2 hpa hhl
      generalize upd (upd τ D (lstO [] kk)) zz (lstO [] 0) = σ4 at B4
      have hx := B4.top
      obtain ⟨kd4, hdR⟩ := B4.dict
      refine br_isT rfl ?_
      repeat walk_at "u"
      refine w_fn G (by decide) (r_mails hK B4 (Nat.le_of_ble_eq_true rfl)) (fun v σ5 q => ?_) fun _ _ q => q.elim
      obtain ⟨l1, ms, k1, rfl, hl10, am, rfl⟩ := q
      repeat walk_at "u"
      rename_i b18 b17 b16 b15 b14 b13 q1 hq1 b10 b9 b8 b7 b6 b5 b4 q2 hq2 lz hlz
      have s5 := (((sub_upd (o := lstO (ms.map .ref) k1) hl10).trans (sub_upd (o := tupO [Value.int 0 b18, Value.int 1 b17, Value.str (Str.ofString "ask") b16, Value.int 5 b15, Value.int 0 b14, Value.int 1 b13]) hq1)).trans (sub_upd (o := tupO [Value.int 0 b10, Value.int (-1) b8, Value.str (Str.ofString "ask") b7, Value.int 5 b6, Value.int 0 b5, Value.int 1 b4]) hq2)).trans (sub_upd (o := lstO [Value.ref q1, Value.ref q2] 0) hlz)
      have B5 := B4.sub s5
      have am5 : All2 (MailAt _) ms ((Rng.start [3, 5]).wake 1).road := am.mono fun _ _ r => r.sub s5
      have er : ((Rng.start [3, 5]).wake 1).road = [(0, ⟨1, .ask, 5, 0, 1⟩), (0, ⟨-1, .ask, 5, 0, 1⟩)] := rfl
      have e1 : (upd (upd (upd (upd σ4 l1 (lstO (ms.map .ref) k1)) q1 (tupO [Value.int 0 b18, Value.int 1 b17, Value.str (Str.ofString "ask") b16, Value.int 5 b15, Value.int 0 b14, Value.int 1 b13])) q2 (tupO [Value.int 0 b10, Value.int (-1) b8, Value.str (Str.ofString "ask") b7, Value.int 5 b6, Value.int 0 b5, Value.int 1 b4])) lz (lstO [Value.ref q1, Value.ref q2] 0)) q1 = some (tupO [Value.int 0 b18, Value.int 1 b17, Value.str (Str.ofString "ask") b16, Value.int 5 b15, Value.int 0 b14, Value.int 1 b13]) := sub_upd hlz _ _ (sub_upd hq2 _ _ upd_same)
      have e2 : (upd (upd (upd (upd σ4 l1 (lstO (ms.map .ref) k1)) q1 (tupO [Value.int 0 b18, Value.int 1 b17, Value.str (Str.ofString "ask") b16, Value.int 5 b15, Value.int 0 b14, Value.int 1 b13])) q2 (tupO [Value.int 0 b10, Value.int (-1) b8, Value.str (Str.ofString "ask") b7, Value.int 5 b6, Value.int 0 b5, Value.int 1 b4])) lz (lstO [Value.ref q1, Value.ref q2] 0)) q2 = some (tupO [Value.int 0 b10, Value.int (-1) b8, Value.str (Str.ofString "ask") b7, Value.int 5 b6, Value.int 0 b5, Value.int 1 b4]) := sub_upd hlz _ _ upd_same
      have e3 := sub_upd (o := lstO [Value.ref q1, Value.ref q2] 0) hlz _ _ (sub_upd (o := tupO [Value.int 0 b10, Value.int (-1) b8, Value.str (Str.ofString "ask") b7, Value.int 5 b6, Value.int 0 b5, Value.int 1 b4]) hq2 _ _ (sub_upd (o := tupO [Value.int 0 b18, Value.int 1 b17, Value.str (Str.ofString "ask") b16, Value.int 5 b15, Value.int 0 b14, Value.int 1 b13]) hq1 l1 (lstO (ms.map .ref) k1) upd_same))
      refine eq_mails G (as := ms) (bs := [q1, q2]) e3 upd_same am5 (by rw [er]; exact .cons ⟨b18, fun i => [b17, b16, b15, b14, b13].getD i 0, e1⟩ (.cons ⟨b10, fun i => [b8, b7, b6, b5, b4].getD i 0, e2⟩ .nil)) ?_
      clear e1 e2 e3 am am5 hx hdR hq1 hq2 hlz hl10
      generalize upd (upd (upd (upd σ4 l1 (lstO (ms.map .ref) k1)) q1 (tupO [Value.int 0 b18, Value.int 1 b17, Value.str (Str.ofString "ask") b16, Value.int 5 b15, Value.int 0 b14, Value.int 1 b13])) q2 (tupO [Value.int 0 b10, Value.int (-1) b8, Value.str (Str.ofString "ask") b7, Value.int 5 b6, Value.int 0 b5, Value.int 1 b4])) lz (lstO [Value.ref q1, Value.ref q2] 0) = σ6 at B5
      have hx := B5.top
      obtain ⟨kd5, hdR⟩ := B5.dict
      repeat walk_at "u"
      refine w_fn G (by decide) (r_sent hK B5) (fun v σ7 q => ?_) fun _ _ q => q.elim
      obtain ⟨⟨ts, rfl⟩, rfl⟩ := q
      repeat walk_at "u"
      rfl
end Mine

theorem PySem.Challenge.cw_uf060019_05_holds : PySem.Challenge.rw_uf060019_05.Holds :=
  Mine.law_holds
