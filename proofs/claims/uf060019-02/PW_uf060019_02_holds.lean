import PyProof.Rows.All
import PyProof.Rows.EqNone
import PyProof.Rows.Range3
import PyProof.SliceMore
import PyProof.TupleOfSeq
import PyProof.Rows.MaxTwoN
import PyProof.IsiHeapPairs
import PyProof.IsiNone
import PyProof.ExcAttrAll.ValueError
import PyProof.ExcArgsOwn
import KE.KTryMore
import KE.LcSums
import KE.KListMore
import KE.KPop
import OpenK.KPick
import OpenK.KFor
import OpenK.KLaw
import OpenK.KOwn
import OpenK.KList
import OpenK.KCell
import OpenK.KWalk
import OpenK.KLine
import Wide.Line
import Open.Line
import PySem.Challenge.RW_uf060019_02
set_option Elab.async false
set_option compiler.extract_closed false
set_option maxRecDepth 100000
set_option maxHeartbeats 8000000
open PySem PySem.W PySem.Calls PyProof.Rows
namespace Mine
/-! ## the top: what it leaves -/
abbrev pg : Program := PySem.Challenge.pw_uf060019_02
noncomputable def stA : Stmt → Arguments
  | .FunctionDef _ a _ _ _ _ _ _ _ _ => a
  | _ => { posonlyargs := [], args := [], vararg := none, kwonlyargs := [], kw_defaults := [], kwarg := none, defaults := [] }
noncomputable def stB : Stmt → List Stmt
  | .FunctionDef _ _ b _ _ _ _ _ _ _ => b
  | .ClassDef _ _ _ b _ _ _ _ _ _ _ => b
  | _ => []
noncomputable def stS : Stmt → Scope
  | .FunctionDef _ _ _ _ _ _ s _ _ _ => s
  | _ => pg.main.scope
noncomputable def st (i : Nat) : Stmt := pg.main.body.getD i (.Pass ⟨0, 0, 0, 0⟩)
noncomputable def st2 (i j : Nat) : Stmt := (stB (st i)).getD j (.Pass ⟨0, 0, 0, 0⟩)
noncomputable def heap (P : Params) : Frag := 
  (nat_lit 2, { cls := Value.none, data := Data.dict #[] }) ::
  (nat_lit 3, { cls := Value.type "dict", data := Data.dict #[{ hash := PyData.keyHash P (Str.ofString "__name__"), key := Value.str (Str.ofString "__name__") 165, val := Value.str (Str.ofString "law_uf060019_02") 309 }, { hash := PyData.keyHash P (Str.ofString "__doc__"), key := Value.str (Str.ofString "__doc__") 166, val := Value.none }, { hash := PyData.keyHash P (Str.ofString "__package__"), key := Value.str (Str.ofString "__package__") 167, val := Value.none }, { hash := PyData.keyHash P (Str.ofString "__loader__"), key := Value.str (Str.ofString "__loader__") 168, val := Value.builtin "__main__.__loader__#opaque" }, { hash := PyData.keyHash P (Str.ofString "__spec__"), key := Value.str (Str.ofString "__spec__") 169, val := Value.none }, { hash := PyData.keyHash P (Str.ofString "__annotations__"), key := Value.str (Str.ofString "__annotations__") 170, val := Value.ref 6 }, { hash := PyData.keyHash P (Str.ofString "__builtins__"), key := Value.str (Str.ofString "__builtins__") 171, val := Value.ref 4 }, { hash := PyData.keyHash P (Str.ofString "__file__"), key := Value.str (Str.ofString "__file__") 173, val := Value.str (Str.ofString "/claim/cut.py") 172 }, { hash := PyData.keyHash P (Str.ofString "__cached__"), key := Value.str (Str.ofString "__cached__") 174, val := Value.none }, { hash := PyData.keyHash P (Str.ofString "ASK"), key := Value.str (Str.ofString "ASK") 190, val := Value.str (Str.ofString "ask") 189 }, { hash := PyData.keyHash P (Str.ofString "ANSWER"), key := Value.str (Str.ofString "ANSWER") 192, val := Value.str (Str.ofString "answer") 191 }, { hash := PyData.keyHash P (Str.ofString "CROWN"), key := Value.str (Str.ofString "CROWN") 194, val := Value.str (Str.ofString "crown") 193 }, { hash := PyData.keyHash P (Str.ofString "Hand"), key := Value.str (Str.ofString "Hand") 308, val := Value.ref 101 }, { hash := PyData.keyHash P (Str.ofString "_law_cell_at"), key := Value.str (Str.ofString "_law_cell_at") 318, val := Value.ref 112 }, { hash := PyData.keyHash P (Str.ofString "_law_whole"), key := Value.str (Str.ofString "_law_whole") 325, val := Value.ref 119 }, { hash := PyData.keyHash P (Str.ofString "_law_letters"), key := Value.str (Str.ofString "_law_letters") 335, val := Value.ref 126 }, { hash := PyData.keyHash P (Str.ofString "_law_truth"), key := Value.str (Str.ofString "_law_truth") 343, val := Value.ref 133 }, { hash := PyData.keyHash P (Str.ofString "_law_start"), key := Value.str (Str.ofString "_law_start") 351, val := Value.ref 140 }, { hash := PyData.keyHash P (Str.ofString "_law_asks"), key := Value.str (Str.ofString "_law_asks") 360, val := Value.ref 147 }, { hash := PyData.keyHash P (Str.ofString "_law_woken"), key := Value.str (Str.ofString "_law_woken") 367, val := Value.ref 154 }, { hash := PyData.keyHash P (Str.ofString "_law_taken"), key := Value.str (Str.ofString "_law_taken") 382, val := Value.ref 161 }, { hash := PyData.keyHash P (Str.ofString "_law_number"), key := Value.str (Str.ofString "_law_number") 392, val := Value.ref 168 }, { hash := PyData.keyHash P (Str.ofString "_law_is_due"), key := Value.str (Str.ofString "_law_is_due") 399, val := Value.ref 175 }, { hash := PyData.keyHash P (Str.ofString "_law_letter"), key := Value.str (Str.ofString "_law_letter") 405, val := Value.ref 180 }, { hash := PyData.keyHash P (Str.ofString "_law_told"), key := Value.str (Str.ofString "_law_told") 416, val := Value.ref 187 }, { hash := PyData.keyHash P (Str.ofString "_law_stands"), key := Value.str (Str.ofString "_law_stands") 422, val := Value.ref 192 }, { hash := PyData.keyHash P (Str.ofString "_law_step"), key := Value.str (Str.ofString "_law_step") 437, val := Value.ref 199 }, { hash := PyData.keyHash P (Str.ofString "law"), key := Value.str (Str.ofString "law") 443, val := Value.ref 204 }] 28 }) ::
  (nat_lit 22, { cls := Value.type "tuple", data := Data.seq #[] }) ::
  (nat_lit 24, { cls := Value.type "tuple", data := Data.seq #[Value.str (Str.ofString "self") 210, Value.str (Str.ofString "number") 211] }) ::
  (nat_lit 25, { cls := Value.type "tuple", data := Data.seq #[] }) ::
  (nat_lit 27, { cls := Value.type "code", data := Data.fields #[Value.str (Str.ofString "__init__") 207, Value.str (Str.ofString "Hand.__init__") 208, Value.str (Str.ofString "/claim/cut.py") 209, Value.int 7 0, Value.int 2 0, Value.int 0 0, Value.int 0 0, Value.int 3 0, Value.ref 22, Value.bool true, Value.int 181 0, Value.ref 23, Value.none, Value.ref 24, Value.ref 25, Value.ref 26, Value.int 212 0, Value.int 7 0, Value.str (Str.ofString "/claim/cut.py") 213] }) ::
  (nat_lit 28, { cls := Value.type "function", data := Data.func { name := Str.ofString "__init__", qualname := Str.ofString "Hand.__init__", params := stA (st2 4 0), body := FuncBody.stmts (stB (st2 4 0)), scope := stS (st2 4 0), globals := 3, closure := [], defaults := Value.none, kwdefaults := Value.none, pyModule := Value.str (Str.ofString "ringcrown.hand") 187, code := Value.ref 27 } }) ::
  (nat_lit 29, { cls := Value.type "tuple", data := Data.seq #[] }) ::
  (nat_lit 31, { cls := Value.type "tuple", data := Data.seq #[Value.str (Str.ofString "self") 218, Value.str (Str.ofString "right") 219, Value.str (Str.ofString "left") 220] }) ::
  (nat_lit 32, { cls := Value.type "tuple", data := Data.seq #[] }) ::
  (nat_lit 34, { cls := Value.type "code", data := Data.fields #[Value.str (Str.ofString "two_asks") 215, Value.str (Str.ofString "Hand.two_asks") 216, Value.str (Str.ofString "/claim/cut.py") 217, Value.int 16 0, Value.int 1 0, Value.int 0 0, Value.int 0 0, Value.int 3 0, Value.ref 29, Value.bool true, Value.int 181 0, Value.ref 30, Value.none, Value.ref 31, Value.ref 32, Value.ref 33, Value.int 221 0, Value.int 16 0, Value.str (Str.ofString "/claim/cut.py") 222] }) ::
  (nat_lit 35, { cls := Value.type "function", data := Data.func { name := Str.ofString "two_asks", qualname := Str.ofString "Hand.two_asks", params := stA (st2 4 1), body := FuncBody.stmts (stB (st2 4 1)), scope := stS (st2 4 1), globals := 3, closure := [], defaults := Value.none, kwdefaults := Value.none, pyModule := Value.str (Str.ofString "ringcrown.hand") 187, code := Value.ref 34 } }) ::
  (nat_lit 36, { cls := Value.type "tuple", data := Data.seq #[] }) ::
  (nat_lit 38, { cls := Value.type "tuple", data := Data.seq #[Value.str (Str.ofString "self") 227] }) ::
  (nat_lit 39, { cls := Value.type "tuple", data := Data.seq #[] }) ::
  (nat_lit 41, { cls := Value.type "code", data := Data.fields #[Value.str (Str.ofString "wake") 224, Value.str (Str.ofString "Hand.wake") 225, Value.str (Str.ofString "/claim/cut.py") 226, Value.int 21 0, Value.int 1 0, Value.int 0 0, Value.int 0 0, Value.int 3 0, Value.ref 36, Value.bool true, Value.int 181 0, Value.ref 37, Value.none, Value.ref 38, Value.ref 39, Value.ref 40, Value.int 228 0, Value.int 21 0, Value.str (Str.ofString "/claim/cut.py") 229] }) ::
  (nat_lit 42, { cls := Value.type "function", data := Data.func { name := Str.ofString "wake", qualname := Str.ofString "Hand.wake", params := stA (st2 4 2), body := FuncBody.stmts (stB (st2 4 2)), scope := stS (st2 4 2), globals := 3, closure := [], defaults := Value.none, kwdefaults := Value.none, pyModule := Value.str (Str.ofString "ringcrown.hand") 187, code := Value.ref 41 } }) ::
  (nat_lit 43, { cls := Value.type "tuple", data := Data.seq #[] }) ::
  (nat_lit 45, { cls := Value.type "tuple", data := Data.seq #[Value.str (Str.ofString "self") 234, Value.str (Str.ofString "letter") 235, Value.str (Str.ofString "first") 236] }) ::
  (nat_lit 46, { cls := Value.type "tuple", data := Data.seq #[] }) ::
  (nat_lit 48, { cls := Value.type "code", data := Data.fields #[Value.str (Str.ofString "take") 231, Value.str (Str.ofString "Hand.take") 232, Value.str (Str.ofString "/claim/cut.py") 233, Value.int 27 0, Value.int 2 0, Value.int 0 0, Value.int 0 0, Value.int 3 0, Value.ref 43, Value.bool true, Value.int 181 0, Value.ref 44, Value.none, Value.ref 45, Value.ref 46, Value.ref 47, Value.int 237 0, Value.int 27 0, Value.str (Str.ofString "/claim/cut.py") 238] }) ::
  (nat_lit 49, { cls := Value.type "function", data := Data.func { name := Str.ofString "take", qualname := Str.ofString "Hand.take", params := stA (st2 4 3), body := FuncBody.stmts (stB (st2 4 3)), scope := stS (st2 4 3), globals := 3, closure := [], defaults := Value.none, kwdefaults := Value.none, pyModule := Value.str (Str.ofString "ringcrown.hand") 187, code := Value.ref 48 } }) ::
  (nat_lit 50, { cls := Value.type "tuple", data := Data.seq #[] }) ::
  (nat_lit 52, { cls := Value.type "tuple", data := Data.seq #[Value.str (Str.ofString "self") 243, Value.str (Str.ofString "letter") 244, Value.str (Str.ofString "way") 245, Value.str (Str.ofString "number") 246] }) ::
  (nat_lit 53, { cls := Value.type "tuple", data := Data.seq #[] }) ::
  (nat_lit 55, { cls := Value.type "code", data := Data.fields #[Value.str (Str.ofString "ask_came") 240, Value.str (Str.ofString "Hand.ask_came") 241, Value.str (Str.ofString "/claim/cut.py") 242, Value.int 35 0, Value.int 2 0, Value.int 0 0, Value.int 0 0, Value.int 3 0, Value.ref 50, Value.bool true, Value.int 181 0, Value.ref 51, Value.none, Value.ref 52, Value.ref 53, Value.ref 54, Value.int 247 0, Value.int 35 0, Value.str (Str.ofString "/claim/cut.py") 248] }) ::
  (nat_lit 56, { cls := Value.type "function", data := Data.func { name := Str.ofString "ask_came", qualname := Str.ofString "Hand.ask_came", params := stA (st2 4 4), body := FuncBody.stmts (stB (st2 4 4)), scope := stS (st2 4 4), globals := 3, closure := [], defaults := Value.none, kwdefaults := Value.none, pyModule := Value.str (Str.ofString "ringcrown.hand") 187, code := Value.ref 55 } }) ::
  (nat_lit 57, { cls := Value.type "tuple", data := Data.seq #[] }) ::
  (nat_lit 59, { cls := Value.type "tuple", data := Data.seq #[Value.str (Str.ofString "self") 253, Value.str (Str.ofString "letter") 254] }) ::
  (nat_lit 60, { cls := Value.type "tuple", data := Data.seq #[] }) ::
  (nat_lit 62, { cls := Value.type "code", data := Data.fields #[Value.str (Str.ofString "answer_came") 250, Value.str (Str.ofString "Hand.answer_came") 251, Value.str (Str.ofString "/claim/cut.py") 252, Value.int 51 0, Value.int 2 0, Value.int 0 0, Value.int 0 0, Value.int 3 0, Value.ref 57, Value.bool true, Value.int 181 0, Value.ref 58, Value.none, Value.ref 59, Value.ref 60, Value.ref 61, Value.int 255 0, Value.int 51 0, Value.str (Str.ofString "/claim/cut.py") 256] }) ::
  (nat_lit 63, { cls := Value.type "function", data := Data.func { name := Str.ofString "answer_came", qualname := Str.ofString "Hand.answer_came", params := stA (st2 4 5), body := FuncBody.stmts (stB (st2 4 5)), scope := stS (st2 4 5), globals := 3, closure := [], defaults := Value.none, kwdefaults := Value.none, pyModule := Value.str (Str.ofString "ringcrown.hand") 187, code := Value.ref 62 } }) ::
  (nat_lit 64, { cls := Value.type "tuple", data := Data.seq #[] }) ::
  (nat_lit 66, { cls := Value.type "tuple", data := Data.seq #[Value.str (Str.ofString "self") 261, Value.str (Str.ofString "letter") 262] }) ::
  (nat_lit 67, { cls := Value.type "tuple", data := Data.seq #[] }) ::
  (nat_lit 69, { cls := Value.type "code", data := Data.fields #[Value.str (Str.ofString "crown_came") 258, Value.str (Str.ofString "Hand.crown_came") 259, Value.str (Str.ofString "/claim/cut.py") 260, Value.int 64 0, Value.int 2 0, Value.int 0 0, Value.int 0 0, Value.int 3 0, Value.ref 64, Value.bool true, Value.int 181 0, Value.ref 65, Value.none, Value.ref 66, Value.ref 67, Value.ref 68, Value.int 263 0, Value.int 64 0, Value.str (Str.ofString "/claim/cut.py") 264] }) ::
  (nat_lit 70, { cls := Value.type "function", data := Data.func { name := Str.ofString "crown_came", qualname := Str.ofString "Hand.crown_came", params := stA (st2 4 6), body := FuncBody.stmts (stB (st2 4 6)), scope := stS (st2 4 6), globals := 3, closure := [], defaults := Value.none, kwdefaults := Value.none, pyModule := Value.str (Str.ofString "ringcrown.hand") 187, code := Value.ref 69 } }) ::
  (nat_lit 71, { cls := Value.type "tuple", data := Data.seq #[] }) ::
  (nat_lit 73, { cls := Value.type "tuple", data := Data.seq #[Value.str (Str.ofString "self") 269] }) ::
  (nat_lit 74, { cls := Value.type "tuple", data := Data.seq #[] }) ::
  (nat_lit 76, { cls := Value.type "code", data := Data.fields #[Value.str (Str.ofString "is_awake") 266, Value.str (Str.ofString "Hand.is_awake") 267, Value.str (Str.ofString "/claim/cut.py") 268, Value.int 70 0, Value.int 1 0, Value.int 0 0, Value.int 0 0, Value.int 3 0, Value.ref 71, Value.bool true, Value.int 181 0, Value.ref 72, Value.none, Value.ref 73, Value.ref 74, Value.ref 75, Value.int 270 0, Value.int 70 0, Value.str (Str.ofString "/claim/cut.py") 271] }) ::
  (nat_lit 77, { cls := Value.type "function", data := Data.func { name := Str.ofString "is_awake", qualname := Str.ofString "Hand.is_awake", params := stA (st2 4 7), body := FuncBody.stmts (stB (st2 4 7)), scope := stS (st2 4 7), globals := 3, closure := [], defaults := Value.none, kwdefaults := Value.none, pyModule := Value.str (Str.ofString "ringcrown.hand") 187, code := Value.ref 76 } }) ::
  (nat_lit 78, { cls := Value.type "tuple", data := Data.seq #[] }) ::
  (nat_lit 80, { cls := Value.type "tuple", data := Data.seq #[Value.str (Str.ofString "self") 276] }) ::
  (nat_lit 81, { cls := Value.type "tuple", data := Data.seq #[] }) ::
  (nat_lit 83, { cls := Value.type "code", data := Data.fields #[Value.str (Str.ofString "is_first") 273, Value.str (Str.ofString "Hand.is_first") 274, Value.str (Str.ofString "/claim/cut.py") 275, Value.int 73 0, Value.int 1 0, Value.int 0 0, Value.int 0 0, Value.int 3 0, Value.ref 78, Value.bool true, Value.int 181 0, Value.ref 79, Value.none, Value.ref 80, Value.ref 81, Value.ref 82, Value.int 277 0, Value.int 73 0, Value.str (Str.ofString "/claim/cut.py") 278] }) ::
  (nat_lit 84, { cls := Value.type "function", data := Data.func { name := Str.ofString "is_first", qualname := Str.ofString "Hand.is_first", params := stA (st2 4 8), body := FuncBody.stmts (stB (st2 4 8)), scope := stS (st2 4 8), globals := 3, closure := [], defaults := Value.none, kwdefaults := Value.none, pyModule := Value.str (Str.ofString "ringcrown.hand") 187, code := Value.ref 83 } }) ::
  (nat_lit 85, { cls := Value.type "tuple", data := Data.seq #[] }) ::
  (nat_lit 87, { cls := Value.type "tuple", data := Data.seq #[Value.str (Str.ofString "self") 283] }) ::
  (nat_lit 88, { cls := Value.type "tuple", data := Data.seq #[] }) ::
  (nat_lit 90, { cls := Value.type "code", data := Data.fields #[Value.str (Str.ofString "stage") 280, Value.str (Str.ofString "Hand.stage") 281, Value.str (Str.ofString "/claim/cut.py") 282, Value.int 76 0, Value.int 1 0, Value.int 0 0, Value.int 0 0, Value.int 3 0, Value.ref 85, Value.bool true, Value.int 181 0, Value.ref 86, Value.none, Value.ref 87, Value.ref 88, Value.ref 89, Value.int 284 0, Value.int 76 0, Value.str (Str.ofString "/claim/cut.py") 285] }) ::
  (nat_lit 91, { cls := Value.type "function", data := Data.func { name := Str.ofString "stage", qualname := Str.ofString "Hand.stage", params := stA (st2 4 9), body := FuncBody.stmts (stB (st2 4 9)), scope := stS (st2 4 9), globals := 3, closure := [], defaults := Value.none, kwdefaults := Value.none, pyModule := Value.str (Str.ofString "ringcrown.hand") 187, code := Value.ref 90 } }) ::
  (nat_lit 92, { cls := Value.type "tuple", data := Data.seq #[] }) ::
  (nat_lit 94, { cls := Value.type "tuple", data := Data.seq #[Value.str (Str.ofString "self") 290] }) ::
  (nat_lit 95, { cls := Value.type "tuple", data := Data.seq #[] }) ::
  (nat_lit 97, { cls := Value.type "code", data := Data.fields #[Value.str (Str.ofString "knows") 287, Value.str (Str.ofString "Hand.knows") 288, Value.str (Str.ofString "/claim/cut.py") 289, Value.int 79 0, Value.int 1 0, Value.int 0 0, Value.int 0 0, Value.int 3 0, Value.ref 92, Value.bool true, Value.int 181 0, Value.ref 93, Value.none, Value.ref 94, Value.ref 95, Value.ref 96, Value.int 291 0, Value.int 79 0, Value.str (Str.ofString "/claim/cut.py") 292] }) ::
  (nat_lit 98, { cls := Value.type "function", data := Data.func { name := Str.ofString "knows", qualname := Str.ofString "Hand.knows", params := stA (st2 4 10), body := FuncBody.stmts (stB (st2 4 10)), scope := stS (st2 4 10), globals := 3, closure := [], defaults := Value.none, kwdefaults := Value.none, pyModule := Value.str (Str.ofString "ringcrown.hand") 187, code := Value.ref 97 } }) ::
  (nat_lit 99, { cls := Value.type "tuple", data := Data.seq #[Value.str (Str.ofString "at_stage") 294, Value.str (Str.ofString "far") 295, Value.str (Str.ofString "greatest") 296, Value.str (Str.ofString "had") 297, Value.str (Str.ofString "lost") 298, Value.str (Str.ofString "number") 299, Value.str (Str.ofString "won") 300] }) ::
  (nat_lit 100, { cls := Value.type "dict", data := Data.dict #[{ hash := PyData.keyHash P (Str.ofString "__module__"), key := Value.str (Str.ofString "__module__") 202, val := Value.str (Str.ofString "ringcrown.hand") 187 }, { hash := PyData.keyHash P (Str.ofString "__firstlineno__"), key := Value.str (Str.ofString "__firstlineno__") 206, val := Value.int 5 205 }, { hash := PyData.keyHash P (Str.ofString "__init__"), key := Value.str (Str.ofString "__init__") 214, val := Value.ref 28 }, { hash := PyData.keyHash P (Str.ofString "two_asks"), key := Value.str (Str.ofString "two_asks") 223, val := Value.ref 35 }, { hash := PyData.keyHash P (Str.ofString "wake"), key := Value.str (Str.ofString "wake") 230, val := Value.ref 42 }, { hash := PyData.keyHash P (Str.ofString "take"), key := Value.str (Str.ofString "take") 239, val := Value.ref 49 }, { hash := PyData.keyHash P (Str.ofString "ask_came"), key := Value.str (Str.ofString "ask_came") 249, val := Value.ref 56 }, { hash := PyData.keyHash P (Str.ofString "answer_came"), key := Value.str (Str.ofString "answer_came") 257, val := Value.ref 63 }, { hash := PyData.keyHash P (Str.ofString "crown_came"), key := Value.str (Str.ofString "crown_came") 265, val := Value.ref 70 }, { hash := PyData.keyHash P (Str.ofString "is_awake"), key := Value.str (Str.ofString "is_awake") 272, val := Value.ref 77 }, { hash := PyData.keyHash P (Str.ofString "is_first"), key := Value.str (Str.ofString "is_first") 279, val := Value.ref 84 }, { hash := PyData.keyHash P (Str.ofString "stage"), key := Value.str (Str.ofString "stage") 286, val := Value.ref 91 }, { hash := PyData.keyHash P (Str.ofString "knows"), key := Value.str (Str.ofString "knows") 293, val := Value.ref 98 }, { hash := PyData.keyHash P (Str.ofString "__static_attributes__"), key := Value.str (Str.ofString "__static_attributes__") 301, val := Value.ref 99 }, { hash := PyData.keyHash P (Str.ofString "__dict__"), key := Value.str (Str.ofString "__dict__") 303, val := Value.ref 102 }, { hash := PyData.keyHash P (Str.ofString "__weakref__"), key := Value.str (Str.ofString "__weakref__") 305, val := Value.ref 103 }, { hash := PyData.keyHash P (Str.ofString "__doc__"), key := Value.str (Str.ofString "__doc__") 306, val := Value.none }] 4 }) ::
  (nat_lit 101, { cls := Value.type "type", data := Data.cls { name := Str.ofString "Hand", bases := [Value.type "object"], mro := [Value.ref 101, Value.type "object"], ns := 100, qualname := Str.ofString "Hand" }, slots := #[none, none, some (Value.str (Str.ofString "Hand") 195), some (Value.str (Str.ofString "Hand") 203), some (Value.builtin "object.__new__"), some (Value.bool true)] }) ::
  (nat_lit 102, { cls := Value.type "getset_descriptor", data := Data.fields #[Value.str (Str.ofString "__dict__") 302, Value.ref 101, Value.builtin "function.__dict__", Value.builtin "function.__dict__#set"] }) ::
  (nat_lit 103, { cls := Value.type "getset_descriptor", data := Data.fields #[Value.str (Str.ofString "__weakref__") 304, Value.ref 101, Value.builtin "ExceptionGroup.__weakref__", Value.none] }) ::
  (nat_lit 106, { cls := Value.type "tuple", data := Data.seq #[] }) ::
  (nat_lit 108, { cls := Value.type "tuple", data := Data.seq #[Value.str (Str.ofString "_law_script") 314, Value.str (Str.ofString "_law_k") 315] }) ::
  (nat_lit 109, { cls := Value.type "tuple", data := Data.seq #[] }) ::
  (nat_lit 111, { cls := Value.type "code", data := Data.fields #[Value.str (Str.ofString "_law_cell_at") 311, Value.str (Str.ofString "_law_cell_at") 312, Value.str (Str.ofString "/claim/cut.py") 313, Value.int 82 0, Value.int 2 0, Value.int 0 0, Value.int 0 0, Value.int 3 0, Value.ref 106, Value.bool true, Value.int 181 0, Value.ref 107, Value.none, Value.ref 108, Value.ref 109, Value.ref 110, Value.int 316 0, Value.int 82 0, Value.str (Str.ofString "/claim/cut.py") 317] }) ::
  (nat_lit 112, { cls := Value.type "function", data := Data.func { name := Str.ofString "_law_cell_at", qualname := Str.ofString "_law_cell_at", params := stA (st 6), body := FuncBody.stmts (stB (st 6)), scope := stS (st 6), globals := 3, closure := [], defaults := Value.none, kwdefaults := Value.none, pyModule := Value.str (Str.ofString "law_uf060019_02") 309, code := Value.ref 111 } }) ::
  (nat_lit 113, { cls := Value.type "tuple", data := Data.seq #[] }) ::
  (nat_lit 115, { cls := Value.type "tuple", data := Data.seq #[Value.str (Str.ofString "_law_found") 322] }) ::
  (nat_lit 116, { cls := Value.type "tuple", data := Data.seq #[] }) ::
  (nat_lit 118, { cls := Value.type "code", data := Data.fields #[Value.str (Str.ofString "_law_whole") 319, Value.str (Str.ofString "_law_whole") 320, Value.str (Str.ofString "/claim/cut.py") 321, Value.int 86 0, Value.int 1 0, Value.int 0 0, Value.int 0 0, Value.int 3 0, Value.ref 113, Value.bool true, Value.int 181 0, Value.ref 114, Value.none, Value.ref 115, Value.ref 116, Value.ref 117, Value.int 323 0, Value.int 86 0, Value.str (Str.ofString "/claim/cut.py") 324] }) ::
  (nat_lit 119, { cls := Value.type "function", data := Data.func { name := Str.ofString "_law_whole", qualname := Str.ofString "_law_whole", params := stA (st 7), body := FuncBody.stmts (stB (st 7)), scope := stS (st 7), globals := 3, closure := [], defaults := Value.none, kwdefaults := Value.none, pyModule := Value.str (Str.ofString "law_uf060019_02") 309, code := Value.ref 118 } }) ::
  (nat_lit 120, { cls := Value.type "tuple", data := Data.seq #[] }) ::
  (nat_lit 122, { cls := Value.type "tuple", data := Data.seq #[Value.str (Str.ofString "_law_found") 329, Value.str (Str.ofString "_law_due") 330, Value.str (Str.ofString "_law_one") 331, Value.str (Str.ofString "_law_part") 332] }) ::
  (nat_lit 123, { cls := Value.type "tuple", data := Data.seq #[] }) ::
  (nat_lit 125, { cls := Value.type "code", data := Data.fields #[Value.str (Str.ofString "_law_letters") 326, Value.str (Str.ofString "_law_letters") 327, Value.str (Str.ofString "/claim/cut.py") 328, Value.int 88 0, Value.int 2 0, Value.int 0 0, Value.int 0 0, Value.int 3 0, Value.ref 120, Value.bool true, Value.int 181 0, Value.ref 121, Value.none, Value.ref 122, Value.ref 123, Value.ref 124, Value.int 333 0, Value.int 88 0, Value.str (Str.ofString "/claim/cut.py") 334] }) ::
  (nat_lit 126, { cls := Value.type "function", data := Data.func { name := Str.ofString "_law_letters", qualname := Str.ofString "_law_letters", params := stA (st 8), body := FuncBody.stmts (stB (st 8)), scope := stS (st 8), globals := 3, closure := [], defaults := Value.none, kwdefaults := Value.none, pyModule := Value.str (Str.ofString "law_uf060019_02") 309, code := Value.ref 125 } }) ::
  (nat_lit 127, { cls := Value.type "tuple", data := Data.seq #[] }) ::
  (nat_lit 129, { cls := Value.type "tuple", data := Data.seq #[Value.str (Str.ofString "_law_found") 339, Value.str (Str.ofString "_law_due") 340] }) ::
  (nat_lit 130, { cls := Value.type "tuple", data := Data.seq #[] }) ::
  (nat_lit 132, { cls := Value.type "code", data := Data.fields #[Value.str (Str.ofString "_law_truth") 336, Value.str (Str.ofString "_law_truth") 337, Value.str (Str.ofString "/claim/cut.py") 338, Value.int 98 0, Value.int 2 0, Value.int 0 0, Value.int 0 0, Value.int 3 0, Value.ref 127, Value.bool true, Value.int 181 0, Value.ref 128, Value.none, Value.ref 129, Value.ref 130, Value.ref 131, Value.int 341 0, Value.int 98 0, Value.str (Str.ofString "/claim/cut.py") 342] }) ::
  (nat_lit 133, { cls := Value.type "function", data := Data.func { name := Str.ofString "_law_truth", qualname := Str.ofString "_law_truth", params := stA (st 9), body := FuncBody.stmts (stB (st 9)), scope := stS (st 9), globals := 3, closure := [], defaults := Value.none, kwdefaults := Value.none, pyModule := Value.str (Str.ofString "law_uf060019_02") 309, code := Value.ref 132 } }) ::
  (nat_lit 134, { cls := Value.type "tuple", data := Data.seq #[] }) ::
  (nat_lit 136, { cls := Value.type "tuple", data := Data.seq #[Value.str (Str.ofString "_law_number_here") 347, Value.str (Str.ofString "_law_found") 348] }) ::
  (nat_lit 137, { cls := Value.type "tuple", data := Data.seq #[] }) ::
  (nat_lit 139, { cls := Value.type "code", data := Data.fields #[Value.str (Str.ofString "_law_start") 344, Value.str (Str.ofString "_law_start") 345, Value.str (Str.ofString "/claim/cut.py") 346, Value.int 100 0, Value.int 1 0, Value.int 0 0, Value.int 0 0, Value.int 3 0, Value.ref 134, Value.bool true, Value.int 181 0, Value.ref 135, Value.none, Value.ref 136, Value.ref 137, Value.ref 138, Value.int 349 0, Value.int 100 0, Value.str (Str.ofString "/claim/cut.py") 350] }) ::
  (nat_lit 140, { cls := Value.type "function", data := Data.func { name := Str.ofString "_law_start", qualname := Str.ofString "_law_start", params := stA (st 10), body := FuncBody.stmts (stB (st 10)), scope := stS (st 10), globals := 3, closure := [], defaults := Value.none, kwdefaults := Value.none, pyModule := Value.str (Str.ofString "law_uf060019_02") 309, code := Value.ref 139 } }) ::
  (nat_lit 141, { cls := Value.type "tuple", data := Data.seq #[] }) ::
  (nat_lit 143, { cls := Value.type "tuple", data := Data.seq #[Value.str (Str.ofString "_law_state") 355, Value.str (Str.ofString "_law_steps") 356, Value.str (Str.ofString "_law_turn") 357] }) ::
  (nat_lit 144, { cls := Value.type "tuple", data := Data.seq #[] }) ::
  (nat_lit 146, { cls := Value.type "code", data := Data.fields #[Value.str (Str.ofString "_law_asks") 352, Value.str (Str.ofString "_law_asks") 353, Value.str (Str.ofString "/claim/cut.py") 354, Value.int 106 0, Value.int 1 0, Value.int 0 0, Value.int 0 0, Value.int 3 0, Value.ref 141, Value.bool true, Value.int 181 0, Value.ref 142, Value.none, Value.ref 143, Value.ref 144, Value.ref 145, Value.int 358 0, Value.int 106 0, Value.str (Str.ofString "/claim/cut.py") 359] }) ::
  (nat_lit 147, { cls := Value.type "function", data := Data.func { name := Str.ofString "_law_asks", qualname := Str.ofString "_law_asks", params := stA (st 11), body := FuncBody.stmts (stB (st 11)), scope := stS (st 11), globals := 3, closure := [], defaults := Value.none, kwdefaults := Value.none, pyModule := Value.str (Str.ofString "law_uf060019_02") 309, code := Value.ref 146 } }) ::
  (nat_lit 148, { cls := Value.type "tuple", data := Data.seq #[] }) ::
  (nat_lit 150, { cls := Value.type "tuple", data := Data.seq #[Value.str (Str.ofString "_law_state") 364] }) ::
  (nat_lit 151, { cls := Value.type "tuple", data := Data.seq #[] }) ::
  (nat_lit 153, { cls := Value.type "code", data := Data.fields #[Value.str (Str.ofString "_law_woken") 361, Value.str (Str.ofString "_law_woken") 362, Value.str (Str.ofString "/claim/cut.py") 363, Value.int 111 0, Value.int 1 0, Value.int 0 0, Value.int 0 0, Value.int 3 0, Value.ref 148, Value.bool true, Value.int 181 0, Value.ref 149, Value.none, Value.ref 150, Value.ref 151, Value.ref 152, Value.int 365 0, Value.int 111 0, Value.str (Str.ofString "/claim/cut.py") 366] }) ::
  (nat_lit 154, { cls := Value.type "function", data := Data.func { name := Str.ofString "_law_woken", qualname := Str.ofString "_law_woken", params := stA (st 12), body := FuncBody.stmts (stB (st 12)), scope := stS (st 12), globals := 3, closure := [], defaults := Value.none, kwdefaults := Value.none, pyModule := Value.str (Str.ofString "law_uf060019_02") 309, code := Value.ref 153 } }) ::
  (nat_lit 155, { cls := Value.type "tuple", data := Data.seq #[] }) ::
  (nat_lit 157, { cls := Value.type "tuple", data := Data.seq #[Value.str (Str.ofString "_law_state") 371, Value.str (Str.ofString "_law_letter_here") 372, Value.str (Str.ofString "_law_found") 373, Value.str (Str.ofString "_law_way") 374, Value.str (Str.ofString "_law_word") 375, Value.str (Str.ofString "_law_number_here") 376, Value.str (Str.ofString "_law_stage") 377, Value.str (Str.ofString "_law_steps") 378, Value.str (Str.ofString "_law_mine") 379] }) ::
  (nat_lit 158, { cls := Value.type "tuple", data := Data.seq #[] }) ::
  (nat_lit 160, { cls := Value.type "code", data := Data.fields #[Value.str (Str.ofString "_law_taken") 368, Value.str (Str.ofString "_law_taken") 369, Value.str (Str.ofString "/claim/cut.py") 370, Value.int 116 0, Value.int 2 0, Value.int 0 0, Value.int 0 0, Value.int 3 0, Value.ref 155, Value.bool true, Value.int 181 0, Value.ref 156, Value.none, Value.ref 157, Value.ref 158, Value.ref 159, Value.int 380 0, Value.int 116 0, Value.str (Str.ofString "/claim/cut.py") 381] }) ::
  (nat_lit 161, { cls := Value.type "function", data := Data.func { name := Str.ofString "_law_taken", qualname := Str.ofString "_law_taken", params := stA (st 13), body := FuncBody.stmts (stB (st 13)), scope := stS (st 13), globals := 3, closure := [], defaults := Value.none, kwdefaults := Value.none, pyModule := Value.str (Str.ofString "law_uf060019_02") 309, code := Value.ref 160 } }) ::
  (nat_lit 162, { cls := Value.type "tuple", data := Data.seq #[] }) ::
  (nat_lit 164, { cls := Value.type "tuple", data := Data.seq #[Value.str (Str.ofString "_law_cell") 386, Value.str (Str.ofString "_law_state") 387, Value.str (Str.ofString "_law_own") 388, Value.str (Str.ofString "_law_more") 389] }) ::
  (nat_lit 165, { cls := Value.type "tuple", data := Data.seq #[] }) ::
  (nat_lit 167, { cls := Value.type "code", data := Data.fields #[Value.str (Str.ofString "_law_number") 383, Value.str (Str.ofString "_law_number") 384, Value.str (Str.ofString "/claim/cut.py") 385, Value.int 145 0, Value.int 2 0, Value.int 0 0, Value.int 0 0, Value.int 3 0, Value.ref 162, Value.bool true, Value.int 181 0, Value.ref 163, Value.none, Value.ref 164, Value.ref 165, Value.ref 166, Value.int 390 0, Value.int 145 0, Value.str (Str.ofString "/claim/cut.py") 391] }) ::
  (nat_lit 168, { cls := Value.type "function", data := Data.func { name := Str.ofString "_law_number", qualname := Str.ofString "_law_number", params := stA (st 14), body := FuncBody.stmts (stB (st 14)), scope := stS (st 14), globals := 3, closure := [], defaults := Value.none, kwdefaults := Value.none, pyModule := Value.str (Str.ofString "law_uf060019_02") 309, code := Value.ref 167 } }) ::
  (nat_lit 169, { cls := Value.type "tuple", data := Data.seq #[] }) ::
  (nat_lit 171, { cls := Value.type "tuple", data := Data.seq #[Value.str (Str.ofString "_law_state") 396] }) ::
  (nat_lit 172, { cls := Value.type "tuple", data := Data.seq #[] }) ::
  (nat_lit 174, { cls := Value.type "code", data := Data.fields #[Value.str (Str.ofString "_law_is_due") 393, Value.str (Str.ofString "_law_is_due") 394, Value.str (Str.ofString "/claim/cut.py") 395, Value.int 155 0, Value.int 1 0, Value.int 0 0, Value.int 0 0, Value.int 3 0, Value.ref 169, Value.bool true, Value.int 181 0, Value.ref 170, Value.none, Value.ref 171, Value.ref 172, Value.ref 173, Value.int 397 0, Value.int 155 0, Value.str (Str.ofString "/claim/cut.py") 398] }) ::
  (nat_lit 175, { cls := Value.type "function", data := Data.func { name := Str.ofString "_law_is_due", qualname := Str.ofString "_law_is_due", params := stA (st 15), body := FuncBody.stmts (stB (st 15)), scope := stS (st 15), globals := 3, closure := [], defaults := Value.none, kwdefaults := Value.none, pyModule := Value.str (Str.ofString "law_uf060019_02") 309, code := Value.ref 174 } }) ::
  (nat_lit 176, { cls := Value.type "tuple", data := Data.seq #[] }) ::
  (nat_lit 179, { cls := Value.type "code", data := Data.fields #[Value.str (Str.ofString "_law_letter") 400, Value.str (Str.ofString "_law_letter") 401, Value.str (Str.ofString "/claim/cut.py") 402, Value.int 159 0, Value.int 3 0, Value.int 0 0, Value.int 0 0, Value.int 3 0, Value.ref 176, Value.bool true, Value.int 181 0, Value.ref 177, Value.none, Value.none, Value.none, Value.ref 178, Value.int 403 0, Value.int 159 0, Value.str (Str.ofString "/claim/cut.py") 404] }) ::
  (nat_lit 180, { cls := Value.type "function", data := Data.func { name := Str.ofString "_law_letter", qualname := Str.ofString "_law_letter", params := stA (st 16), body := FuncBody.stmts (stB (st 16)), scope := stS (st 16), globals := 3, closure := [], defaults := Value.none, kwdefaults := Value.none, pyModule := Value.str (Str.ofString "law_uf060019_02") 309, code := Value.ref 179 } }) ::
  (nat_lit 181, { cls := Value.type "tuple", data := Data.seq #[] }) ::
  (nat_lit 183, { cls := Value.type "tuple", data := Data.seq #[Value.str (Str.ofString "_law_hand") 409, Value.str (Str.ofString "_law_state") 410, Value.str (Str.ofString "_law_which") 411, Value.str (Str.ofString "_law_found") 412, Value.str (Str.ofString "_law_due") 413] }) ::
  (nat_lit 184, { cls := Value.type "tuple", data := Data.seq #[] }) ::
  (nat_lit 186, { cls := Value.type "code", data := Data.fields #[Value.str (Str.ofString "_law_told") 406, Value.str (Str.ofString "_law_told") 407, Value.str (Str.ofString "/claim/cut.py") 408, Value.int 178 0, Value.int 3 0, Value.int 0 0, Value.int 0 0, Value.int 3 0, Value.ref 181, Value.bool true, Value.int 181 0, Value.ref 182, Value.none, Value.ref 183, Value.ref 184, Value.ref 185, Value.int 414 0, Value.int 178 0, Value.str (Str.ofString "/claim/cut.py") 415] }) ::
  (nat_lit 187, { cls := Value.type "function", data := Data.func { name := Str.ofString "_law_told", qualname := Str.ofString "_law_told", params := stA (st 17), body := FuncBody.stmts (stB (st 17)), scope := stS (st 17), globals := 3, closure := [], defaults := Value.none, kwdefaults := Value.none, pyModule := Value.str (Str.ofString "law_uf060019_02") 309, code := Value.ref 186 } }) ::
  (nat_lit 188, { cls := Value.type "tuple", data := Data.seq #[] }) ::
  (nat_lit 191, { cls := Value.type "code", data := Data.fields #[Value.str (Str.ofString "_law_stands") 417, Value.str (Str.ofString "_law_stands") 418, Value.str (Str.ofString "/claim/cut.py") 419, Value.int 192 0, Value.int 3 0, Value.int 0 0, Value.int 0 0, Value.int 3 0, Value.ref 188, Value.bool true, Value.int 181 0, Value.ref 189, Value.none, Value.none, Value.none, Value.ref 190, Value.int 420 0, Value.int 192 0, Value.str (Str.ofString "/claim/cut.py") 421] }) ::
  (nat_lit 192, { cls := Value.type "function", data := Data.func { name := Str.ofString "_law_stands", qualname := Str.ofString "_law_stands", params := stA (st 18), body := FuncBody.stmts (stB (st 18)), scope := stS (st 18), globals := 3, closure := [], defaults := Value.none, kwdefaults := Value.none, pyModule := Value.str (Str.ofString "law_uf060019_02") 309, code := Value.ref 191 } }) ::
  (nat_lit 193, { cls := Value.type "tuple", data := Data.seq #[] }) ::
  (nat_lit 195, { cls := Value.type "tuple", data := Data.seq #[Value.str (Str.ofString "_law_hand") 426, Value.str (Str.ofString "_law_state") 427, Value.str (Str.ofString "_law_cell") 428, Value.str (Str.ofString "_law_more") 429, Value.str (Str.ofString "_law_held") 430, Value.str (Str.ofString "_law_before") 431, Value.str (Str.ofString "_law_slept") 432, Value.str (Str.ofString "_law_found") 433, Value.str (Str.ofString "_law_letter_here") 434] }) ::
  (nat_lit 196, { cls := Value.type "tuple", data := Data.seq #[] }) ::
  (nat_lit 198, { cls := Value.type "code", data := Data.fields #[Value.str (Str.ofString "_law_step") 423, Value.str (Str.ofString "_law_step") 424, Value.str (Str.ofString "/claim/cut.py") 425, Value.int 195 0, Value.int 5 0, Value.int 0 0, Value.int 0 0, Value.int 3 0, Value.ref 193, Value.bool true, Value.int 181 0, Value.ref 194, Value.none, Value.ref 195, Value.ref 196, Value.ref 197, Value.int 435 0, Value.int 195 0, Value.str (Str.ofString "/claim/cut.py") 436] }) ::
  (nat_lit 199, { cls := Value.type "function", data := Data.func { name := Str.ofString "_law_step", qualname := Str.ofString "_law_step", params := stA (st 19), body := FuncBody.stmts (stB (st 19)), scope := stS (st 19), globals := 3, closure := [], defaults := Value.none, kwdefaults := Value.none, pyModule := Value.str (Str.ofString "law_uf060019_02") 309, code := Value.ref 198 } }) ::
  (nat_lit 200, { cls := Value.type "tuple", data := Data.seq #[] }) ::
  (nat_lit 203, { cls := Value.type "code", data := Data.fields #[Value.str (Str.ofString "law") 438, Value.str (Str.ofString "law") 439, Value.str (Str.ofString "/claim/cut.py") 440, Value.int 214 0, Value.int 1 0, Value.int 0 0, Value.int 0 0, Value.int 3 0, Value.ref 200, Value.bool true, Value.int 181 0, Value.ref 201, Value.none, Value.none, Value.none, Value.ref 202, Value.int 441 0, Value.int 214 0, Value.str (Str.ofString "/claim/cut.py") 442] }) ::
  (nat_lit 204, { cls := Value.type "function", data := Data.func { name := Str.ofString "law", qualname := Str.ofString "law", params := stA (st 20), body := FuncBody.stmts (stB (st 20)), scope := stS (st 20), globals := 3, closure := [], defaults := Value.none, kwdefaults := Value.none, pyModule := Value.str (Str.ofString "law_uf060019_02") 309, code := Value.ref 203 } }) :: []
noncomputable def addrs : List Addr := nat_lit 2 :: nat_lit 3 :: nat_lit 22 :: nat_lit 24 :: nat_lit 25 :: nat_lit 27 :: nat_lit 28 :: nat_lit 29 :: nat_lit 31 :: nat_lit 32 :: nat_lit 34 :: nat_lit 35 :: nat_lit 36 :: nat_lit 38 :: nat_lit 39 :: nat_lit 41 :: nat_lit 42 :: nat_lit 43 :: nat_lit 45 :: nat_lit 46 :: nat_lit 48 :: nat_lit 49 :: nat_lit 50 :: nat_lit 52 :: nat_lit 53 :: nat_lit 55 :: nat_lit 56 :: nat_lit 57 :: nat_lit 59 :: nat_lit 60 :: nat_lit 62 :: nat_lit 63 :: nat_lit 64 :: nat_lit 66 :: nat_lit 67 :: nat_lit 69 :: nat_lit 70 :: nat_lit 71 :: nat_lit 73 :: nat_lit 74 :: nat_lit 76 :: nat_lit 77 :: nat_lit 78 :: nat_lit 80 :: nat_lit 81 :: nat_lit 83 :: nat_lit 84 :: nat_lit 85 :: nat_lit 87 :: nat_lit 88 :: nat_lit 90 :: nat_lit 91 :: nat_lit 92 :: nat_lit 94 :: nat_lit 95 :: nat_lit 97 :: nat_lit 98 :: nat_lit 99 :: nat_lit 100 :: nat_lit 101 :: nat_lit 102 :: nat_lit 103 :: nat_lit 106 :: nat_lit 108 :: nat_lit 109 :: nat_lit 111 :: nat_lit 112 :: nat_lit 113 :: nat_lit 115 :: nat_lit 116 :: nat_lit 118 :: nat_lit 119 :: nat_lit 120 :: nat_lit 122 :: nat_lit 123 :: nat_lit 125 :: nat_lit 126 :: nat_lit 127 :: nat_lit 129 :: nat_lit 130 :: nat_lit 132 :: nat_lit 133 :: nat_lit 134 :: nat_lit 136 :: nat_lit 137 :: nat_lit 139 :: nat_lit 140 :: nat_lit 141 :: nat_lit 143 :: nat_lit 144 :: nat_lit 146 :: nat_lit 147 :: nat_lit 148 :: nat_lit 150 :: nat_lit 151 :: nat_lit 153 :: nat_lit 154 :: nat_lit 155 :: nat_lit 157 :: nat_lit 158 :: nat_lit 160 :: nat_lit 161 :: nat_lit 162 :: nat_lit 164 :: nat_lit 165 :: nat_lit 167 :: nat_lit 168 :: nat_lit 169 :: nat_lit 171 :: nat_lit 172 :: nat_lit 174 :: nat_lit 175 :: nat_lit 176 :: nat_lit 179 :: nat_lit 180 :: nat_lit 181 :: nat_lit 183 :: nat_lit 184 :: nat_lit 186 :: nat_lit 187 :: nat_lit 188 :: nat_lit 191 :: nat_lit 192 :: nat_lit 193 :: nat_lit 195 :: nat_lit 196 :: nat_lit 198 :: nat_lit 199 :: nat_lit 200 :: nat_lit 203 :: nat_lit 204 :: []
noncomputable def view : Program := { pg with main := { pg.main with body := [1, 2, 3, 4, 6, 7, 8, 9, 10, 11, 12, 13, 14, 15, 16, 17, 18, 19, 20].filterMap fun i => pg.main.body[i]? } }
noncomputable def hook : Hook := kHook heap addrs (fun _ => by kernel_rfl)
theorem top_runs : LeftO pg view [] (fun s => xlAt view [] s && recOk [] s) (Hook.obs hook) (Hook.val hook) 2224 := by intro w; kernel_rfl
end Mine

example : (PySem.Challenge.rw_uf060019_02, Mine.heap) = (PySem.Challenge.rw_uf060019_02, Mine.heap) := by k_fill; rfl
namespace Mine

inductive Word where
  | ask | answer | crown
deriving DecidableEq

structure Ltr where
  way : Int
  word : Word
  num : Int
  stage : Nat
  steps : Nat

structure Hnd where
  num : Int
  stage : Option Nat := none
  far : Nat := 1
  had : Nat := 0
  lost : Bool := false
  won : Bool := false
  top : Option Int := none

def Hnd.asks (h : Hnd) (s : Nat) : List Ltr := [⟨1, .ask, h.num, s, h.far⟩, ⟨-1, .ask, h.num, s, h.far⟩]
def Hnd.wake (h : Hnd) : Hnd × List Ltr :=
  match h.stage with
  | some _ => (h, [])
  | none => ({ h with stage := some 0 }, h.asks 0)
def Hnd.askCame (h : Hnd) (l : Ltr) : Hnd × List Ltr :=
  if l.num < h.num then (h, [])
  else if h.num < l.num then
    ({ h with lost := true }, if 1 < l.steps then [⟨l.way, .ask, l.num, l.stage, l.steps - 1⟩] else [⟨-l.way, .answer, l.num, l.stage, 0⟩])
  else if h.won then (h, [])
  else ({ h with won := true, top := some h.num }, [⟨1, .crown, h.num, 0, 0⟩])
def Hnd.answerCame (h : Hnd) (l : Ltr) : Hnd × List Ltr :=
  if l.num ≠ h.num then (h, [l])
  else match h.stage with
    | none => (h, [])
    | some s =>
      if l.stage ≠ s then (h, [])
      else if h.had + 1 ≠ 2 ∨ h.lost = true then ({ h with had := h.had + 1 }, [])
      else ({ h with stage := some (s + 1), far := h.far + h.far, had := 0 },
        [⟨1, .ask, h.num, s + 1, h.far + h.far⟩, ⟨-1, .ask, h.num, s + 1, h.far + h.far⟩])
def Hnd.crownCame (h : Hnd) (l : Ltr) : Hnd × List Ltr :=
  if l.num = h.num then (h, []) else ({ h with top := some l.num }, [l])
def Hnd.came (h : Hnd) (l : Ltr) : Hnd × List Ltr :=
  match l.word with
  | .ask => h.askCame l
  | .answer => h.answerCame l
  | .crown => h.crownCame l
def Hnd.take (h : Hnd) (l : Ltr) : Hnd × List Ltr :=
  ((h.wake.1.came l).1, h.wake.2 ++ (h.wake.1.came l).2)

structure Rng where
  hands : List Hnd
  road : List (Nat × Ltr)
  many : Nat

def dest (n p : Nat) (way : Int) : Nat := (((p : Int) + way) % (n : Int)).toNat
def Rng.post (R : Rng) (p : Nat) (ls : List Ltr) : Rng :=
  { R with road := R.road ++ ls.map (fun l => (dest R.hands.length p l.way, l)), many := R.many + ls.length }
def Rng.wake (R : Rng) (p : Nat) : Rng :=
  match R.hands[p]? with
  | none => R
  | some h => ({ R with hands := R.hands.set p h.wake.1 } : Rng).post p h.wake.2
def Rng.bring (R : Rng) (k : Nat) : Rng :=
  match R.road[k]? with
  | none => R
  | some (p, l) =>
    match R.hands[p]? with
    | none => R
    | some h => ({ R with hands := R.hands.set p (h.take l).1, road := R.road.eraseIdx k } : Rng).post p (h.take l).2

/-! ### the circle -/
def wayOf (r : Bool) : Int := if r then 1 else -1
def pl (n o : Nat) (r : Bool) (j : Nat) : Nat := (((o : Int) + wayOf r * (j : Int)) % (n : Int)).toNat

end Mine

namespace Mine

structure GM where
  kind : Word
  o : Nat
  r : Bool
  j : Nat
  s : Nat

abbrev nmAt (nums : List Int) (i : Nat) : Int := nums.getD i 0
/-- the number j places away from o -/
abbrev nmOff (nums : List Int) (o : Nat) (r : Bool) (j : Nat) : Int := nmAt nums (pl nums.length o r j)

def GM.mail (nums : List Int) (m : GM) : Nat × Ltr :=
  match m.kind with
  | .ask => (pl nums.length m.o m.r m.j, ⟨wayOf m.r, .ask, nmAt nums m.o, m.s, 2 ^ m.s + 1 - m.j⟩)
  | .answer => (pl nums.length m.o m.r m.j, ⟨-wayOf m.r, .answer, nmAt nums m.o, m.s, 0⟩)
  | .crown => (pl nums.length m.o true m.j, ⟨1, .crown, nmAt nums m.o, 0, 0⟩)

def GM.isTok (o : Nat) (r : Bool) (m : GM) : Bool := (m.kind != .crown) && (m.o == o) && (m.r == r)

def price (n t : Nat) : Nat := if 2 ^ t < n then 4 * 2 ^ t else 2 * n
def costTo (n : Nat) : Nat → Nat
  | 0 => 0
  | t + 1 => costTo n t + price n t
def cost (n : Nat) (h : Hnd) : Nat :=
  match h.stage with
  | none => 0
  | some s => costTo n (s + 1)
def credit (n : Nat) (m : GM) : Nat :=
  match m.kind with
  | .ask => if 2 ^ m.s < n then 2 ^ m.s - m.j + 2 ^ m.s else n - m.j
  | .answer => m.j
  | .crown => n - m.j

structure HInv (nums : List Int) (g : Nat → Bool → Bool) (i : Nat) (h : Hnd) : Prop where
  num : h.num = nmAt nums i
  asleep : h.stage = none → h = { num := nmAt nums i } ∧ ∀ r, g i r = false
  far : ∀ s, h.stage = some s → h.far = 2 ^ s
  had : ∀ s, h.stage = some s → h.had = (g i true).toNat + (g i false).toNat
  full : g i true = true → g i false = true → h.lost = true
  got : ∀ s r, h.stage = some s → g i r = true → ∀ j, 1 ≤ j → j ≤ 2 ^ s → nmOff nums i r j < nmAt nums i
  past : ∀ s, h.stage = some (s + 1) → 2 ^ s < nums.length ∧ ∀ r j, 1 ≤ j → j ≤ 2 ^ s → nmOff nums i r j < nmAt nums i
  won : h.won = true → (∀ q, q < nums.length → nmAt nums q ≤ nmAt nums i) ∧ h.top = some (nmAt nums i)
  lost : h.lost = true → ∃ q, q < nums.length ∧ nmAt nums i < nmAt nums q
  top : ∀ x, h.top = some x → x ∈ nums ∧ ∀ q, q < nums.length → nmAt nums q ≤ x

def MInv (nums : List Int) (hs : List Hnd) (m : GM) : Prop :=
  ∃ h, hs[m.o]? = some h ∧
    match m.kind with
    | .ask => h.stage = some m.s ∧ 1 ≤ m.j ∧ m.j ≤ 2 ^ m.s ∧ ∀ i, 1 ≤ i → i < m.j → nmOff nums m.o m.r i < nmAt nums m.o
    | .answer => h.stage = some m.s ∧ m.j < 2 ^ m.s ∧ ∀ i, 1 ≤ i → i ≤ 2 ^ m.s → nmOff nums m.o m.r i < nmAt nums m.o
    | .crown => h.won = true ∧ 1 ≤ m.j ∧ m.j ≤ nums.length ∧ ∀ i, 1 ≤ i → i < m.j → ∃ h', hs[pl nums.length m.o true i]? = some h' ∧ h'.top = some (nmAt nums m.o)

structure GInv (nums : List Int) (hs : List Hnd) (ms : List GM) (g : Nat → Bool → Bool) (many : Nat) : Prop where
  pos : 0 < nums.length
  nodup : nums.Nodup
  len : hs.length = nums.length
  hand : ∀ i h, hs[i]? = some h → HInv nums g i h
  out : ∀ i, nums.length ≤ i → ∀ r, g i r = false
  mail : ∀ m ∈ ms, MInv nums hs m
  tok : ∀ o r, ms.countP (GM.isTok o r) + (g o r).toNat ≤ 1
  reach : ∀ o h, hs[o]? = some h → h.stage ≠ none → ∀ r, (∃ h', hs[pl nums.length o r 1]? = some h' ∧ h'.stage ≠ none) ∨ ∃ m ∈ ms, m.kind = .ask ∧ m.o = o ∧ m.r = r ∧ m.j = 1
  alive : ∀ o h, hs[o]? = some h → h.stage ≠ none → h.won = false → (∀ q, q < nums.length → nmAt nums q ≤ nmAt nums o) → ∀ r, g o r = true ∨ 0 < ms.countP (GM.isTok o r)
  crowned : ∀ o h, hs[o]? = some h → h.won = true → (∃ m ∈ ms, m.kind = .crown ∧ m.o = o) ∨ ∀ p, p < nums.length → ∃ h', hs[p]? = some h' ∧ h'.top = some (nmAt nums o)
  pot : many + (ms.map (credit nums.length)).sum ≤ (hs.map (cost nums.length)).sum + (if hs.any (·.won) then nums.length else 0)

/-! ### small facts of lists -/
end Mine

namespace Mine
variable {nums : List Int} {hs : List Hnd} {ms : List GM} {g : Nat → Bool → Bool} {many p k : Nat} {h h' : Hnd} {m : GM}

end Mine

namespace Mine
variable {nums : List Int} {hs : List Hnd} {ms : List GM} {g g' : Nat → Bool → Bool} {many p k : Nat} {h h' : Hnd} {m : GM}

end Mine

namespace Mine
variable {nums : List Int} {hs : List Hnd} {ms : List GM} {g g' : Nat → Bool → Bool} {many p k : Nat} {h h' : Hnd} {m : GM}

/-- what a letter leads to -/
def Leads (nums : List Int) (hs : List Hnd) (ms : List GM) (many k p : Nat) (c : Hnd × List Ltr) : Prop :=
  ∃ new g', GInv nums (hs.set p c.1) (ms.eraseIdx k ++ new) g' (many + new.length) ∧ c.2.map (fun l => (dest nums.length p l.way, l)) = new.map (GM.mail nums)

end Mine

namespace Mine
variable {nums : List Int} {hs : List Hnd} {ms : List GM} {g g' : Nat → Bool → Bool} {many p k : Nat} {h h' : Hnd} {m : GM} {R : Rng}

def Good (nums : List Int) (R : Rng) : Prop := ∃ ms g, GInv nums R.hands ms g R.many ∧ R.road = ms.map (GM.mail nums)

def Rng.start (nums : List Int) : Rng := ⟨nums.map fun x => { num := x }, [], 0⟩

theorem wake_awake (aw : h.stage ≠ none) : h.wake = (h, []) := by
  unfold Hnd.wake
  cases e : h.stage with
  | none => exact absurd e aw
  | some s => rfl
theorem wake_asleep (as : h.stage = none) : h.wake = ({ h with stage := some 0 }, h.asks 0) := by
  unfold Hnd.wake
  rw [as]
theorem wake_stage (h : Hnd) : h.wake.1.stage ≠ none := by
  unfold Hnd.wake
  cases e : h.stage with
  | none => exact fun q => nomatch q
  | some s => dsimp only; rw [e]; exact fun q => nomatch q

theorem map_eraseIdx {α β : Type} (f : α → β) (l : List α) (k : Nat) : (l.map f).eraseIdx k = (l.eraseIdx k).map f := by
  induction l generalizing k with
  | nil => rfl
  | cons x xs ih => cases k with
    | zero => rfl
    | succ k => simp [ih]
end Mine

namespace Mine
variable {nums : List Int} {hs : List Hnd} {ms : List GM} {g g' : Nat → Bool → Bool} {many p k : Nat} {h h' : Hnd} {m : GM} {R : Rng}

/-! ### what is kept (safety) -/
/-- how a hand may turn -/
structure Hnd.Le (h h' : Hnd) : Prop where
  num : h'.num = h.num
  won : h.won = true → h'.won = true
  top : h.top.isSome = true → h'.top.isSome = true
  stage : ∀ s, h.stage = some s → ∃ s', h'.stage = some s' ∧ s ≤ s'
def Rng.Le (R R' : Rng) : Prop := R'.hands.length = R.hands.length ∧ ∀ (p : Nat) (h : Hnd), R.hands[p]? = some h → ∃ h' : Hnd, R'.hands[p]? = some h' ∧ h.Le h'
/-! ### the count of those under way -/
/-! ### the end -/
end Mine

namespace Mine
variable {nums : List Int} {hs : List Hnd} {ms : List GM} {g g' : Nat → Bool → Bool} {many p k : Nat} {h h' : Hnd} {m : GM} {R : Rng}

def geStage (t : Nat) (h : Hnd) : Bool := match h.stage with | none => false | some s => decide (t ≤ s)

/-- the hands at stage t + 1 or beyond, by their places -/
def placesAt (hs : List Hnd) (t : Nat) : List Nat := (List.range hs.length).filter fun i => (hs[i]?.map (geStage t)).getD false
def sumTo (f : Nat → Nat) : Nat → Nat
  | 0 => 0
  | t + 1 => sumTo f t + f t
/-- the bound, stage by stage -/
def bterm (n t : Nat) : Nat := if 2 ^ t < n then 4 * 2 ^ t * (n / (2 ^ (t - 1) + 1)) else 0
def bnd (n : Nat) : Nat := 7 * n + (bterm n 1 + bterm n 2 + bterm n 3 + bterm n 4 + bterm n 5 + bterm n 6)

end Mine

namespace Mine
def bsum (n : Nat) : Nat → Nat
  | 0 => 0
  | i + 1 => bsum n i + bterm n (i + 1)
end Mine
namespace Mine
/-- a hand's stage as the law tells it -/
def stCode (h : Hnd) : Int := match h.stage with | none => -1 | some s => (s : Int)
end Mine
namespace Mine
end Mine

namespace Mine
/-! ## 02: the law's own picture of a hand -/
structure LSt where
  num : Int
  awake : Bool := false
  beaten : Bool := false
  first : Bool := false
  stage : Nat := 0
  came : Nat := 0
  known : Option Int := none
  most : Int := 0
  seen : Int := 0
  around : Bool := false
  eager : Bool := false
def LSt.asks (s : LSt) : List Ltr := [⟨1, .ask, s.num, s.stage, 2 ^ s.stage⟩, ⟨-1, .ask, s.num, s.stage, 2 ^ s.stage⟩]
def LSt.woken (s : LSt) : LSt × List Ltr := if s.awake then (s, []) else ({ s with awake := true }, s.asks)
/-- what came of a letter: the state, what is put to the passed ones, the letters sent -/
def LSt.got (s : LSt) (l : Ltr) : LSt × List Ltr × List Ltr :=
  match l.word with
  | .ask =>
    if l.num = s.num ∧ s.first = false then ({ s with first := true, around := true, known := some l.num }, [], [⟨1, .crown, l.num, 0, 0⟩])
    else if s.num < l.num then
      if l.steps = 1 then ({ s with beaten := true, seen := if l.num > s.seen then l.num else s.seen }, [], [⟨-l.way, .answer, l.num, l.stage, 0⟩])
      else ({ s with beaten := true, seen := (if l.num > s.seen then l.num else s.seen), most := if l.num > s.most then l.num else s.most },
        (if l.steps < 64 ∧ s.known ≠ some l.num then [⟨-l.way, .answer, l.num, l.stage, 0⟩] else []), [⟨l.way, .ask, l.num, l.stage, l.steps - 1⟩])
    else (s, [], [])
  | .answer =>
    if l.num = s.num then
      if s.came + 1 = 2 ∧ s.beaten = false then ({ s with came := 0, stage := l.stage + 1 }, [], ({ s with came := 0, stage := l.stage + 1 } : LSt).asks)
      else ({ s with came := s.came + 1 }, [], [])
    else (s, [], [l])
  | .crown => if l.num = s.num then (s, [], []) else ({ s with known := some l.num }, [], [l])
def LSt.taken (s : LSt) (l : Ltr) : LSt × List Ltr × List Ltr := ((s.woken.1.got l).1, (s.woken.1.got l).2.1, s.woken.2 ++ (s.woken.1.got l).2.2)
/-- the hand and its picture -/
structure Sim (h : Hnd) (s : LSt) : Prop where
  num : h.num = s.num
  stage : h.stage = if s.awake then some s.stage else none
  low : s.awake = false → s.stage = 0
  far : h.far = 2 ^ s.stage
  had : h.had = s.came
  lost : h.lost = s.beaten
  won : h.won = s.first
  top : h.top = s.known
theorem sim_start {a b : Int} {e : Bool} : Sim { num := a } { num := a, most := b, seen := b, eager := e } := ⟨rfl, rfl, fun _ => rfl, rfl, rfl, rfl, rfl, rfl⟩
theorem Sim.woken {h : Hnd} {s : LSt} (S : Sim h s) : Sim h.wake.1 s.woken.1 ∧ h.wake.2 = s.woken.2 ∧ s.woken.1.awake = true := by
  unfold Hnd.wake LSt.woken
  cases ha : s.awake with
  | true =>
    have e := S.stage
    rw [ha, if_pos rfl] at e
    rw [e, if_pos rfl]
    exact ⟨S, rfl, ha⟩
  | false =>
    have e := S.stage
    rw [ha, if_neg (by decide)] at e
    rw [e, if_neg (by decide)]
    refine ⟨⟨S.num, ?_, fun q => (by cases q), S.far, S.had, S.lost, S.won, S.top⟩, ?_, rfl⟩
    · show some 0 = some s.stage
      rw [S.low ha]
    · show h.asks 0 = s.asks
      unfold Hnd.asks LSt.asks
      rw [S.num, S.far, S.low ha]
/-- a letter that a ring's hands may have sent -/
structure Fair (s : LSt) (l : Ltr) : Prop where
  ask : l.word = .ask → 1 ≤ l.steps
  answer : l.word = .answer → l.num = s.num → l.stage = s.stage
theorem Sim.got {h : Hnd} {s : LSt} (S : Sim h s) (ha : s.awake = true) {l : Ltr} (F : Fair s l) : Sim (h.came l).1 (s.got l).1 ∧ (h.came l).2 = (s.got l).2.2 := by
  have S0 := S
  obtain ⟨hn, hst, hlow, hfar, hhad, hlost, hwon, htop⟩ := S
  rw [ha, if_pos rfl] at hst
  have low : ∀ {x : LSt}, x.awake = true → x.awake = false → x.stage = 0 := fun a b => by rw [a] at b; cases b
  obtain ⟨hnum, hstage, hfr, hhd, hls, hwn, htp⟩ := h
  dsimp only at hn hst hfar hhad hlost hwon htop
  subst hn hst hfar hhad hlost hwon htop
  unfold Hnd.came LSt.got
  cases hw : l.word with
  | ask =>
    dsimp only
    have h1 := F.ask hw
    unfold Hnd.askCame
    dsimp only
    by_cases q1 : l.num < s.num
    · have q2 : ¬ (l.num = s.num ∧ s.first = false) := fun q => by omega
      have q3 : ¬ s.num < l.num := by omega
      rw [if_pos q1, if_neg q2, if_neg q3]
      exact ⟨S0, rfl⟩
    · rw [if_neg q1]
      by_cases q2 : s.num < l.num
      · have q4 : ¬ (l.num = s.num ∧ s.first = false) := fun q => by omega
        rw [if_neg q4, if_pos q2, if_pos q2]
        by_cases q3 : l.steps = 1
        · have q5 : ¬ 1 < l.steps := by omega
          rw [if_neg q5, if_pos q3]
          exact ⟨⟨rfl, by show some s.stage = _; rw [show _ = s.awake from rfl, ha]; rfl, low ha, rfl, rfl, rfl, rfl, rfl⟩, rfl⟩
        · have q5 : 1 < l.steps := by omega
          rw [if_pos q5, if_neg q3]
          exact ⟨⟨rfl, by show some s.stage = _; rw [show _ = s.awake from rfl, ha]; rfl, low ha, rfl, rfl, rfl, rfl, rfl⟩, rfl⟩
      · have q4 : l.num = s.num := by omega
        rw [if_neg q2]
        cases hf : s.first with
        | true =>
          have q5 : ¬ (l.num = s.num ∧ true = false) := fun q => by cases q.2
          rw [if_pos rfl, if_neg q5, if_neg q2]
          exact ⟨by rw [← hf]; exact S0, rfl⟩
        | false =>
          have q5 : l.num = s.num ∧ false = false := ⟨q4, rfl⟩
          rw [if_neg (show ¬ false = true by decide), if_pos q5]
          exact ⟨⟨rfl, by show some s.stage = _; rw [show _ = s.awake from rfl, ha]; rfl, low ha, rfl, rfl, rfl, rfl, by show some s.num = some l.num; rw [q4]⟩, by rw [q4]⟩
  | answer =>
    dsimp only
    unfold Hnd.answerCame
    dsimp only
    by_cases q1 : l.num = s.num
    · have q0 : ¬ l.num ≠ s.num := fun q => q q1
      rw [if_neg q0, if_pos q1]
      have e2 := F.answer hw q1
      have q3 : ¬ l.stage ≠ s.stage := fun q => q e2
      rw [if_neg q3]
      by_cases q2 : s.came + 1 = 2 ∧ s.beaten = false
      · have q4 : ¬ (s.came + 1 ≠ 2 ∨ s.beaten = true) := fun q => by
          rcases q with q | q
          · exact q q2.1
          · rw [q2.2] at q; cases q
        rw [if_neg q4, if_pos q2]
        have ef : 2 ^ s.stage + 2 ^ s.stage = 2 ^ (s.stage + 1) := by rw [Nat.pow_succ]; omega
        refine ⟨⟨rfl, ?_, low ha, ?_, rfl, rfl, rfl, rfl⟩, ?_⟩
        · show some (s.stage + 1) = if s.awake = true then some (l.stage + 1) else none
          rw [ha, if_pos rfl, e2]
        · show 2 ^ s.stage + 2 ^ s.stage = 2 ^ (l.stage + 1)
          rw [e2, ef]
        · unfold LSt.asks
          dsimp only
          rw [e2, ef]
      · have q4 : s.came + 1 ≠ 2 ∨ s.beaten = true := by
          by_cases y : s.came + 1 = 2
          · right
            cases hb : s.beaten with
            | true => rfl
            | false => exact absurd ⟨y, hb⟩ q2
          · exact .inl y
        rw [if_pos q4, if_neg q2]
        exact ⟨⟨rfl, by show some s.stage = _; rw [show _ = s.awake from rfl, ha]; rfl, low ha, rfl, rfl, rfl, rfl, rfl⟩, rfl⟩
    · rw [if_pos q1, if_neg q1]
      exact ⟨S0, rfl⟩
  | crown =>
    dsimp only
    unfold Hnd.crownCame
    dsimp only
    by_cases q1 : l.num = s.num
    · rw [if_pos q1, if_pos q1]
      exact ⟨S0, rfl⟩
    · rw [if_neg q1, if_neg q1]
      exact ⟨⟨rfl, by show some s.stage = _; rw [show _ = s.awake from rfl, ha]; rfl, low ha, rfl, rfl, rfl, rfl, rfl⟩, rfl⟩
theorem woken_facts (s : LSt) : s.woken.1.num = s.num ∧ s.woken.1.stage = s.stage := by
  unfold LSt.woken; split <;> exact ⟨rfl, rfl⟩
theorem Sim.taken {h : Hnd} {s : LSt} (S : Sim h s) {l : Ltr} (F : Fair s l) : Sim (h.take l).1 (s.taken l).1 ∧ (h.take l).2 = (s.taken l).2.2 := by
  obtain ⟨S1, e1, a1⟩ := S.woken
  obtain ⟨w1, w2⟩ := woken_facts s
  obtain ⟨S2, e2⟩ := S1.got a1 (l := l) ⟨F.ask, fun q z => by rw [w2]; exact F.answer q (by rw [← w1]; exact z)⟩
  refine ⟨S2, ?_⟩
  show h.wake.2 ++ (h.wake.1.came l).2 = s.woken.2 ++ _
  rw [e1, e2]
end Mine

namespace Mine
theorem taken_facts {s : LSt} {l : Ltr} (F : Fair s l) : (s.taken l).1.num = s.num ∧ (s.taken l).1.stage ≤ s.stage + 1 ∧ (s.taken l).2.1.length ≤ 1 ∧ (∀ q ∈ (s.taken l).2.1, q.word = .answer ∧ s.num < q.num ∧ q.stage = l.stage) ∧ (s.taken l).2.2.length ≤ 4 := by
  obtain ⟨w1, w2⟩ := woken_facts s
  have w3 : s.woken.2.length ≤ 2 := by
    unfold LSt.woken
    split
    · exact Nat.zero_le _
    · exact Nat.le_refl _
  have key : ∀ t : LSt, t.num = s.num → t.stage = s.stage → (t.got l).1.num = s.num ∧ (t.got l).1.stage ≤ s.stage + 1 ∧ (t.got l).2.1.length ≤ 1 ∧ (∀ q ∈ (t.got l).2.1, q.word = .answer ∧ s.num < q.num ∧ q.stage = l.stage) ∧ (t.got l).2.2.length ≤ 2 := by
    intro t e1 e2
    unfold LSt.got
    cases hw : l.word with
    | ask =>
      dsimp only
      split
      · exact ⟨e1, by show t.stage ≤ _; omega, Nat.zero_le _, fun q hq => absurd hq (by simp), by show 1 ≤ 2; omega⟩
      · split
        · rename_i q2
          split
          · exact ⟨e1, by show t.stage ≤ _; omega, Nat.zero_le _, fun q hq => absurd hq (by simp), by show 1 ≤ 2; omega⟩
          · refine ⟨e1, by show t.stage ≤ _; omega, ?_, fun q hq => ?_, by show 1 ≤ 2; omega⟩
            · dsimp only; split <;> simp
            · dsimp only at hq
              split at hq
              · rw [List.mem_singleton] at hq; subst hq; exact ⟨rfl, by rw [← e1]; exact q2, rfl⟩
              · simp at hq
        · exact ⟨e1, by show t.stage ≤ _; omega, Nat.zero_le _, fun q hq => absurd hq (by simp), Nat.zero_le _⟩
    | answer =>
      dsimp only
      split
      · rename_i q1
        have := F.answer hw (by rw [q1, e1])
        split
        · exact ⟨e1, by show l.stage + 1 ≤ _; omega, Nat.zero_le _, fun q hq => absurd hq (by simp), by show 2 ≤ 2; omega⟩
        · exact ⟨e1, by show t.stage ≤ _; omega, Nat.zero_le _, fun q hq => absurd hq (by simp), Nat.zero_le _⟩
      · exact ⟨e1, by show t.stage ≤ _; omega, Nat.zero_le _, fun q hq => absurd hq (by simp), by show 1 ≤ 2; omega⟩
    | crown =>
      dsimp only
      split
      · exact ⟨e1, by show t.stage ≤ _; omega, Nat.zero_le _, fun q hq => absurd hq (by simp), Nat.zero_le _⟩
      · exact ⟨e1, by show t.stage ≤ _; omega, Nat.zero_le _, fun q hq => absurd hq (by simp), by show 1 ≤ 2; omega⟩
  obtain ⟨k1, k2, k3, k4, k5⟩ := key s.woken.1 w1 w2
  refine ⟨k1, k2, k3, k4, ?_⟩
  show (s.woken.2 ++ (s.woken.1.got l).2.2).length ≤ 4
  rw [List.length_append]; omega
/-- around does not matter to the likeness -/
theorem Sim.off {h : Hnd} {s : LSt} (S : Sim h s) : Sim h { s with around := false } := ⟨S.num, S.stage, S.low, S.far, S.had, S.lost, S.won, S.top⟩
end Mine

open PySem PySem.W PySem.Calls PyProof.Rows
namespace Mine

/-! ## the known part of the heap -/
abbrev Store := Addr → Option Obj
abbrev Loc := Str → Option Value

def St (h₀ : Heap) (L : Addr) (h : Heap) (σ : Store) : Prop := ∀ a o, σ a = some o → h.get? a = some o ∧ a ≠ L ∧ h₀.get? a = none
def upd (σ : Store) (a : Addr) (o : Obj) : Store := fun b => if b = a then some o else σ b
theorem upd_same {σ : Store} {a : Addr} {o : Obj} : upd σ a o a = some o := if_pos rfl
theorem upd_ne {σ : Store} {a b : Addr} {o : Obj} (h : b ≠ a) : upd σ a o b = σ b := if_neg h
/-- one store holds all that another one holds -/
def Sub (σ τ : Store) : Prop := ∀ a o, σ a = some o → τ a = some o
theorem Sub.refl (σ : Store) : Sub σ σ := fun _ _ e => e
theorem Sub.trans {σ τ υ : Store} (h : Sub σ τ) (k : Sub τ υ) : Sub σ υ := fun a o e => k a o (h a o e)
theorem sub_upd {σ : Store} {a : Addr} {o : Obj} (h : σ a = none) : Sub σ (upd σ a o) := fun b x e => by
  by_cases q : b = a
  · subst q; rw [h] at e; cases e
  · rw [upd_ne q]; exact e
def lst (σ : Store) (n : Nat) : List (Addr × Obj) := (List.range n).filterMap fun a => (σ a).map fun o => (a, o)
theorem mem_lst {σ : Store} {n : Nat} {p : Addr × Obj} : p ∈ lst σ n ↔ p.1 < n ∧ σ p.1 = some p.2 := by
  unfold lst
  rw [List.mem_filterMap]
  constructor
  · rintro ⟨a, ha, e⟩
    rw [Option.map_eq_some_iff] at e
    obtain ⟨o, ho, rfl⟩ := e
    exact ⟨List.mem_range.mp ha, ho⟩
  · rintro ⟨h1, h2⟩
    exact ⟨p.1, List.mem_range.mpr h1, by rw [h2]; rfl⟩
theorem St.news {h₀ h : Heap} {L : Addr} {σ : Store} (S : St h₀ L h σ) (n : Nat) : News h₀ L h (lst σ n) := fun p hp => S p.1 p.2 (mem_lst.mp hp).2
theorem St.of_news {h₀ h : Heap} {L : Addr} {σ : Store} {news : List (Addr × Obj)} (N : News h₀ L h news) (k : ∀ a o, σ a = some o → (a, o) ∈ news) : St h₀ L h σ := fun a o e => N (a, o) (k a o e)
theorem St.lt {h₀ h : Heap} {L : Addr} {σ : Store} (S : St h₀ L h σ) {a : Addr} {o : Obj} (e : σ a = some o) : a < h.objs.size := Heap.lt_size (S a o e).1
theorem St.mem {h₀ h : Heap} {L : Addr} {σ : Store} (S : St h₀ L h σ) {a : Addr} {o : Obj} (e : σ a = some o) : (a, o) ∈ lst σ h.objs.size := mem_lst.mpr ⟨S.lt e, e⟩
/-- one object more -/
theorem St.cons {h₀ h h' : Heap} {L : Addr} {σ : Store} {a : Addr} {o : Obj} {n : Nat} (S : St h₀ L h σ) (hn : n = h.objs.size) (N : News h₀ L h' ((a, o) :: lst σ n)) : St h₀ L h' (upd σ a o) := by
  subst hn
  refine St.of_news N fun b x e => ?_
  by_cases q : b = a
  · subst q; rw [upd_same] at e; cases e; exact .head _
  · rw [upd_ne q] at e; exact .tail _ (S.mem e)
theorem lst_split {σ : Store} {d : Nat} {o : Obj} (hd : σ d = some o) : ∀ n : Nat, d < n → ∃ pre post, lst σ n = pre ++ (d, o) :: post ∧ (∀ p ∈ pre, p.1 ≠ d) ∧ ∀ p ∈ post, p.1 ≠ d
  | 0, h => by omega
  | n + 1, h => by
    have e : lst σ (n + 1) = lst σ n ++ ((σ n).map fun o => (n, o)).toList := by
      unfold lst
      rw [List.range_succ, List.filterMap_append]
      cases h : σ n <;> simp [h]
    by_cases q : d = n
    · subst q
      refine ⟨lst σ d, [], by rw [e, hd]; rfl, fun p hp => Nat.ne_of_lt (mem_lst.mp hp).1, fun _ hp => nomatch hp⟩
    · obtain ⟨pre, post, h1, h2, h3⟩ := lst_split hd n (by omega)
      refine ⟨pre, post ++ ((σ n).map fun o => (n, o)).toList, by rw [e, h1]; simp, h2, fun p hp => ?_⟩
      rcases List.mem_append.mp hp with k | k
      · exact h3 p k
      · cases z : σ n with
        | none => rw [z] at k; cases k
        | some x => rw [z] at k; cases k with
          | head => exact fun e => q e.symm
          | tail _ k => cases k
theorem upd_of {d : Addr} {o o' : Obj} : ∀ {pre post : List (Addr × Obj)}, (∀ p ∈ pre, p.1 ≠ d) → (∀ p ∈ post, p.1 ≠ d) → Upd d o o' (pre ++ (d, o) :: post) (pre ++ (d, o') :: post)
  | [], _, _, h2 => .head h2
  | _ :: _, _, h1, h2 => .tail (h1 _ (.head _)) (upd_of (fun p hp => h1 p (.tail _ hp)) h2)
/-- an object of the ledger turned: the list, and what is known behind it -/
theorem St.turn {h₀ h : Heap} {L : Addr} {σ : Store} {d : Addr} {o o' : Obj} (S : St h₀ L h σ) (hd : σ d = some o) :
    ∃ l l', l = lst σ h.objs.size ∧ Upd d o o' l l' ∧ ∀ h', News h₀ L h' l' → St h₀ L h' (upd σ d o') := by
  obtain ⟨pre, post, e, h1, h2⟩ := lst_split hd h.objs.size (S.lt hd)
  refine ⟨_, pre ++ (d, o') :: post, rfl, e ▸ upd_of h1 h2, fun h' N => St.of_news N fun b x ex => ?_⟩
  by_cases q : b = d
  · subst q; rw [upd_same] at ex; cases ex; simp
  · rw [upd_ne q] at ex
    have := S.mem ex
    rw [e] at this
    rcases List.mem_append.mp this with k | k
    · exact List.mem_append.mpr (.inl k)
    · cases k with
      | head => exact absurd rfl q
      | tail _ k => exact List.mem_append.mpr (.inr (.tail _ k))

/-! ## a step's word -/
/-- what stands as the top left it -/
structure Pg where
  prog : Program
  w : World
  K : Frag
  p : Program
  loose : List Str
  mean : ExcName → Option Value
  mg : Str → Option Value
  mb : Str → Option Value
  bl : Addr
  bv : List Value
  h : Heap
structure Cx where
  g : Pg
  A : Around
  env : Env
  h₀ : Heap

/-- the addresses of a frame: its table, its cells -/
def FA (c : Cx) (a : Addr) : Prop := a = c.env.locals ∨ ∃ x, c.env.cells.lookup x = some a
def loc (c : Cx) (m : Loc) : Loc := fun x => if (c.env.cells.lookup x).isSome = true then none else m x
structure Frm (c : Cx) (h : Heap) (m : Loc) : Prop where
  F : Fr c.h₀ c.env.locals h (loc c m)
  cell : ∀ x a, c.env.cells.lookup x = some a → h.IsCell a (m x)
  off : ∀ x a, c.env.cells.lookup x = some a → a ≠ c.env.locals ∧ c.h₀.get? a = none
  inj : ∀ x y a, c.env.cells.lookup x = some a → c.env.cells.lookup y = some a → x = y
/-- the known part, off the frame -/
def Sto (c : Cx) (h : Heap) (σ : Store) : Prop := ∀ a o, σ a = some o → h.get? a = some o ∧ ¬ FA c a ∧ c.h₀.get? a = none
theorem Sto.lt {c : Cx} {h : Heap} {σ : Store} (S : Sto c h σ) {a : Addr} {o : Obj} (e : σ a = some o) : a < h.objs.size := Heap.lt_size (S a o e).1
theorem Sto.fresh {c : Cx} {h : Heap} {σ : Store} (S : Sto c h σ) : σ h.objs.size = none := by
  cases e : σ h.objs.size with
  | none => rfl
  | some o => exact absurd (S.lt e) (Nat.lt_irrefl _)
theorem Sto.sub {c : Cx} {h : Heap} {σ τ : Store} (S : Sto c h τ) (k : Sub σ τ) : Sto c h σ := fun a o e => S a o (k a o e)
theorem Frm.keep {c : Cx} {h : Heap} {m : Loc} (F : Frm c h m) : ∀ b o, c.h₀.get? b = some o → h.get? b = some o := F.F.keep
theorem Frm.has {c : Cx} {h : Heap} {m : Loc} (F : Frm c h m) {a : Addr} (k : FA c a) : ∃ o, h.get? a = some o := by
  rcases k with rfl | ⟨x, hx⟩
  · obtain ⟨oL, _, _, hL, _⟩ := F.F.ns; exact ⟨oL, hL⟩
  · obtain ⟨o, ho, _⟩ := F.cell x a hx; exact ⟨o, ho⟩
theorem Frm.notNew {c : Cx} {h : Heap} {m : Loc} (F : Frm c h m) {a : Addr} (n : h.get? a = none) : ¬ FA c a := fun k => by
  obtain ⟨o, ho⟩ := F.has k; rw [ho] at n; cases n
/-- another heap that keeps the frame -/
theorem Frm.on {c : Cx} {h h' : Heap} {m : Loc} (F : Frm c h m) (F' : Fr c.h₀ c.env.locals h' (loc c m)) (k : ∀ x a, c.env.cells.lookup x = some a → ∀ o, h.get? a = some o → h'.get? a = some o) : Frm c h' m :=
  ⟨F', fun x a hx => let ⟨o, ho, hd⟩ := F.cell x a hx; ⟨o, k x a hx o ho, hd⟩, F.off, F.inj⟩
theorem Frm.keeps {c : Cx} {h h' : Heap} {m : Loc} (F : Frm c h m) (k : ∀ b o, h.get? b = some o → h'.get? b = some o) : Frm c h' m := F.on (F.F.keeps k) fun _ _ _ o e => k _ o e

/-- what a step leaves alone: all that is not known, and no elder object comes to be known -/
structure Fra (c : Cx) (σ : Store) (h h' : Heap) (σ' : Store) : Prop where
  kept : ∀ a o, h.get? a = some o → σ a = none → ¬ FA c a → h'.get? a = some o
  grow : ∀ a o, σ' a = some o → σ a ≠ none ∨ h.get? a = none
theorem Fra.refl {c : Cx} {σ : Store} {h : Heap} : Fra c σ h h σ := ⟨fun _ _ e _ _ => e, fun a o e => .inl (by rw [e]; exact fun q => nomatch q)⟩
theorem Fra.trans {c : Cx} {σ σ₁ σ₂ : Store} {h h₁ h₂ : Heap} (x : Fra c σ h h₁ σ₁) (y : Fra c σ₁ h₁ h₂ σ₂) (S : Sto c h₂ σ₂) : Fra c σ h h₂ σ₂ := by
  refine ⟨fun a o e n l => ?_, fun a o e => ?_⟩
  · refine y.kept a o (x.kept a o e n l) ?_ l
    cases q : σ₁ a with
    | none => rfl
    | some o' =>
      rcases x.grow a o' q with k | k
      · exact absurd n k
      · rw [e] at k; cases k
  · cases n : σ a with
    | some _ => exact .inl fun q => nomatch q
    | none =>
      right
      cases k : h.get? a with
      | none => rfl
      | some o' =>
        exfalso
        have k1 := x.kept a o' k n (S a o e).2.1
        rcases y.grow a o e with q | q
        · cases z : σ₁ a with
          | none => exact q z
          | some o2 =>
            rcases x.grow a o2 z with r | r
            · exact r n
            · rw [k] at r; cases r
        · rw [k1] at q; cases q

def After (c : Cx) (σ : Store) (s s' : Shared) (P : Loc → Store → Prop) : Prop :=
  ∃ h' tk m' σ', s' = { s with heap := h', toks := tk } ∧ Frm c h' m' ∧ Sto c h' σ' ∧ Fra c σ s.heap h' σ' ∧ P m' σ'

/-- an exception in flight through a frame -/
structure Flies (c : Cx) (σ : Store) (h h' : Heap) (m' : Loc) (σ' : Store) (e C : Addr) : Prop where
  fly : ∃ B a0 outer, c.A.frames = some (c.env :: outer) ∧ Heap.FlyingW B (c.env :: outer) e (.ref C) a0 h' ∧ c.g.h.StaysIn B ∧ (∀ a o, σ' a = some o → B.get? a = some o) ∧
    (∀ a o, h.get? a = some o → σ a = none → ¬ FA c a → a ∉ outer.filterMap (·.frame) → B.get? a = some o) ∧
    (∀ a o, h.get? a = some o → σ a = none → ¬ FA c a → ∃ sl, h'.get? a = some { o with slots := sl })
  ns : h'.Ns c.env.locals (loc c m')
  off : ∀ a o, σ' a = some o → ¬ FA c a
  grow : ∀ a o, σ' a = some o → σ a ≠ none ∨ h.get? a = none
/-- what an exception leaves: X of a ref: it was made here; X of a class's int: it flies -/
def AftX (c : Cx) (σ : Store) (s s' : Shared) (X : Value → Loc → Store → Prop) (v : Value) : Prop :=
  (After c σ s s' (X v) ∧ ∃ e, v = .ref e) ∨ ∃ h' tk m' σ' e C, s' = { s with heap := h', toks := tk } ∧ v = .ref e ∧ Flies c σ s.heap h' m' σ' e C ∧ X (.int (C : Nat) 0) m' σ'

def W (c : Cx) {α : Type} (t : Sem α) (m : Loc) (σ : Store) (Q : α → Loc → Store → Prop) (X : Value → Loc → Store → Prop) : Prop :=
  ∀ s, Frm c s.heap m → Sto c s.heap σ →
    wpAny (model c.g.prog c.g.w) c.A t (fun a s' => After c σ s s' (Q a)) (fun e s' => AftX c σ s s' X e) s

/-- all that is new in a heap -/
def full (c : Cx) (h : Heap) : Store := fun a => if a = c.env.locals ∨ (c.h₀.get? a).isSome = true then none else h.get? a
theorem full_some {c : Cx} {h : Heap} {a : Addr} {o : Obj} : full c h a = some o ↔ a ≠ c.env.locals ∧ c.h₀.get? a = none ∧ h.get? a = some o := by
  unfold full
  by_cases e : a = c.env.locals ∨ (c.h₀.get? a).isSome = true
  · rw [if_pos e]
    constructor
    · intro q; cases q
    · rintro ⟨h1, h2, _⟩
      rcases e with e | e
      · exact absurd e h1
      · rw [h2] at e; cases e
  · rw [if_neg e]
    constructor
    · intro q
      refine ⟨fun k => e (.inl k), ?_, q⟩
      cases k : c.h₀.get? a with
      | none => rfl
      | some _ => exact absurd (.inr (by rw [k]; rfl)) e
    · exact fun q => q.2.2
theorem st_full (c : Cx) (h : Heap) : St c.h₀ c.env.locals h (full c h) := fun a o e => let ⟨h1, h2, h3⟩ := full_some.mp e; ⟨h3, h1, h2⟩
theorem Sto.full {c : Cx} {h : Heap} {σ : Store} (S : Sto c h σ) : Sub σ (full c h) := fun a o e => full_some.mpr ⟨fun q => (S a o e).2.1 (.inl q), (S a o e).2.2, (S a o e).1⟩
abbrev allOf (c : Cx) (h : Heap) : List (Addr × Obj) := lst (full c h) h.objs.size
theorem all_news (c : Cx) (h : Heap) : News c.h₀ c.env.locals h (allOf c h) := (st_full c h).news _
theorem kept_of {c : Cx} {s : Shared} {h' : Heap} {m m' : Loc} (F : Frm c s.heap m) (F' : Fr c.h₀ c.env.locals h' m') {b : Addr} {x : Obj} (e : s.heap.get? b = some x) (l : b ≠ c.env.locals)
    (k : full c s.heap b = some x → h'.get? b = some x) : h'.get? b = some x := by
  cases q : c.h₀.get? b with
  | some y => rw [F.keep b y q] at e; cases e; exact F'.keep b x q
  | none => exact k (full_some.mpr ⟨l, q, e⟩)
theorem no_end (h : Heap) : h.get? h.objs.size = none := by
  cases e : h.get? h.objs.size with
  | none => rfl
  | some o => exact absurd (Heap.lt_size e) (Nat.lt_irrefl _)
/-- one object more -/
theorem grown {c : Cx} {s : Shared} {h' : Heap} {m : Loc} {σ : Store} {a : Addr} {o : Obj} (F : Frm c s.heap m) (S : Sto c s.heap σ) (F' : Fr c.h₀ c.env.locals h' (loc c m)) (ha : s.heap.get? a = none)
    (N' : News c.h₀ c.env.locals h' ((a, o) :: allOf c s.heap)) : Frm c h' m ∧ Sto c h' (upd σ a o) ∧ Fra c σ s.heap h' (upd σ a o) := by
  have Sf := (st_full c s.heap).cons rfl N'
  have old : ∀ b x, s.heap.get? b = some x → b ≠ c.env.locals → h'.get? b = some x := fun b x e l => kept_of F F' e l fun z => by
    by_cases q : b = a
    · subst q; rw [ha] at e; cases e
    · exact (Sf b x (by rw [upd_ne q]; exact z)).1
  refine ⟨F.on F' fun x b hb o e => old b o e (F.off x b hb).1, fun b x e => ?_, fun b x e n l => old b x e fun q => l (.inl q), fun b x e => ?_⟩
  · by_cases q : b = a
    · subst q
      have := Sf b x (by rw [upd_same] at e ⊢; exact e)
      exact ⟨this.1, F.notNew ha, this.2.2⟩
    · have := Sf b x (by rw [upd_ne q] at e ⊢; exact S.full b x e)
      rw [upd_ne q] at e
      exact ⟨this.1, (S b x e).2.1, this.2.2⟩
  · by_cases q : b = a
    · subst q; exact .inr ha
    · rw [upd_ne q] at e; exact .inl (by rw [e]; exact fun q => nomatch q)
/-- an object turned -/
theorem turned {c : Cx} {s : Shared} {m : Loc} {σ : Store} {d : Addr} {o o' : Obj} (F : Frm c s.heap m) (S : Sto c s.heap σ) (hd : σ d = some o) :
    ∃ l', Upd d o o' (allOf c s.heap) l' ∧ ∀ h', Fr c.h₀ c.env.locals h' (loc c m) → News c.h₀ c.env.locals h' l' → Frm c h' m ∧ Sto c h' (upd σ d o') ∧ Fra c σ s.heap h' (upd σ d o') := by
  obtain ⟨l, l', e, U, back⟩ := (st_full c s.heap).turn (o' := o') (S.full d o hd)
  subst e
  refine ⟨l', U, fun h' F' N' => ?_⟩
  have Sf := back h' N'
  have old : ∀ b x, s.heap.get? b = some x → b ≠ c.env.locals → b ≠ d → h'.get? b = some x := fun b x e l q => kept_of F F' e l fun z => (Sf b x (by rw [upd_ne q]; exact z)).1
  refine ⟨F.on F' fun x b hb o e => old b o e (F.off x b hb).1 fun q => (S d _ hd).2.1 (q ▸ .inr ⟨x, hb⟩), fun b x e => ?_, fun b x e n l => old b x e (fun q => l (.inl q)) (fun q => by rw [q, hd] at n; cases n), fun b x e => ?_⟩
  · by_cases q : b = d
    · subst q
      have := Sf b x (by rw [upd_same] at e ⊢; exact e)
      exact ⟨this.1, (S b _ hd).2.1, this.2.2⟩
    · have := Sf b x (by rw [upd_ne q] at e ⊢; exact S.full b x e)
      rw [upd_ne q] at e
      exact ⟨this.1, (S b x e).2.1, this.2.2⟩
  · by_cases q : b = d
    · subst q; exact .inl (by rw [hd]; exact fun q => nomatch q)
    · rw [upd_ne q] at e; exact .inl (by rw [e]; exact fun q => nomatch q)

section
variable {c : Cx} {env : Env} {α β : Type} {m : Loc} {σ : Store} {X : Value → Loc → Store → Prop}

theorem After.here {s : Shared} {P : Loc → Store → Prop} (F : Frm c s.heap m) (S : Sto c s.heap σ) (p : P m σ) : After c σ s s P := ⟨s.heap, s.toks, m, σ, rfl, F, S, .refl, p⟩
theorem After.tok {s : Shared} {P : Loc → Store → Prop} {tk : Nat} (F : Frm c s.heap m) (S : Sto c s.heap σ) (p : P m σ) : After c σ s { s with toks := tk } P := ⟨s.heap, tk, m, σ, rfl, F, S, .refl, p⟩
theorem After.at {s : Shared} {P : Loc → Store → Prop} {h' : Heap} {tk : Nat} {m' : Loc} {σ' : Store} (FSF : Frm c h' m' ∧ Sto c h' σ' ∧ Fra c σ s.heap h' σ') (p : P m' σ') : After c σ s { s with heap := h', toks := tk } P := ⟨h', tk, m', σ', rfl, FSF.1, FSF.2.1, FSF.2.2, p⟩
/-- go on from a state that a step left -/
theorem After.on {s s₁ s₂ : Shared} {σ₁ : Store} {P : Loc → Store → Prop} {h₁ : Heap} {tk : Nat} (e : s₁ = { s with heap := h₁, toks := tk }) (x : Fra c σ s.heap h₁ σ₁) (b : After c σ₁ s₁ s₂ P) : After c σ s s₂ P := by
  subst e
  obtain ⟨h', tk', m', σ', rfl, F, S, y, p⟩ := b
  exact ⟨h', tk', m', σ', rfl, F, S, x.trans y S, p⟩
theorem Flies.on {s s₁ : Shared} {σ₁ σ' : Store} {h₁ h' : Heap} {m' : Loc} {e C : Addr} {tk : Nat} (q : s₁ = { s with heap := h₁, toks := tk }) (x : Fra c σ s.heap h₁ σ₁) (b : Flies c σ₁ s₁.heap h' m' σ' e C) : Flies c σ s.heap h' m' σ' e C := by
  subst q
  obtain ⟨⟨B, a0, outer, f1, f2, f3, f4, f5, f6⟩, ns, off, grow⟩ := b
  have no : ∀ a o, s.heap.get? a = some o → σ a = none → σ₁ a = none := fun a o ha hn => by
    cases q : σ₁ a with
    | none => rfl
    | some o' =>
      rcases x.grow a o' q with k | k
      · exact absurd hn k
      · rw [ha] at k; cases k
  refine ⟨⟨B, a0, outer, f1, f2, f3, f4, fun a o ha hn hf ht => f5 a o (x.kept a o ha hn hf) (no a o ha hn) hf ht, fun a o ha hn hf => f6 a o (x.kept a o ha hn hf) (no a o ha hn) hf⟩, ns, off, fun a o ha => ?_⟩
  cases n : σ a with
  | some _ => exact .inl fun q => nomatch q
  | none =>
    right
    cases k : s.heap.get? a with
    | none => rfl
    | some o' =>
      exfalso
      rcases grow a o ha with q | q
      · exact q (no a o' k n)
      · rw [x.kept a o' k n (off a o ha)] at q; cases q
theorem AftX.on {s s₁ s₂ : Shared} {σ₁ : Store} {v : Value} {h₁ : Heap} {tk : Nat} (e : s₁ = { s with heap := h₁, toks := tk }) (x : Fra c σ s.heap h₁ σ₁) (b : AftX c σ₁ s₁ s₂ X v) : AftX c σ s s₂ X v := by
  rcases b with ⟨b, r⟩ | ⟨h', tk', m', σ', e', C, rfl, rfl, fl, q⟩
  · exact .inl ⟨b.on e x, r⟩
  · refine .inr ⟨h', tk', m', σ', e', C, ?_, rfl, fl.on e x, q⟩
    subst e; rfl
theorem After.next {s s₁ : Shared} {P : Loc → Store → Prop} {t : Sem α} {Q : α → Loc → Store → Prop} (a : After c σ s s₁ P) (k : ∀ m σ, P m σ → W c t m σ Q X) :
    wpAny (model c.g.prog c.g.w) c.A t (fun a s' => After c σ s s' (Q a)) (fun e s' => AftX c σ s s' X e) s₁ := by
  obtain ⟨h', tk, m', σ', rfl, F, S, x, p⟩ := a
  exact wpAny_mono (k m' σ' p { s with heap := h', toks := tk } F S) (fun _ _ b => b.on rfl x) fun _ _ b => b.on rfl x
theorem After.mono {s s' : Shared} {P P' : Loc → Store → Prop} (a : After c σ s s' P) (k : ∀ m σ, P m σ → P' m σ) : After c σ s s' P' := by
  obtain ⟨h', tk, m', σ', rfl, F, S, x, p⟩ := a
  exact ⟨h', tk, m', σ', rfl, F, S, x, k _ _ p⟩

theorem AftX.mono {s s' : Shared} {v : Value} {X' : Value → Loc → Store → Prop} (a : AftX c σ s s' X v) (k : ∀ v m σ, X v m σ → X' v m σ) : AftX c σ s s' X' v := by
  rcases a with ⟨b, r⟩ | ⟨h', tk', m', σ', e', C, e1, e2, fl, q⟩
  · exact .inl ⟨b.mono (k v), r⟩
  · exact .inr ⟨h', tk', m', σ', e', C, e1, e2, fl, k _ _ _ q⟩
theorem AftX.no {s s' : Shared} {v : Value} (a : AftX c σ s s' (fun _ _ _ => False) v) : False := by
  rcases a with ⟨⟨_, _, _, _, _, _, _, _, q⟩, _⟩ | ⟨_, _, _, _, _, _, _, _, _, q⟩
  · exact q
  · exact q
theorem W.pure {a : α} {Q : α → Loc → Store → Prop} (h : Q a m σ) : W c (pure a) m σ Q X := fun _ F S => wpAny_pure (After.here F S h)
theorem W.bind {t : Sem α} {f : α → Sem β} {Q : β → Loc → Store → Prop} (h : W c t m σ (fun a m' σ' => W c (f a) m' σ' Q X) X) : W c (t >>= f) m σ Q X :=
  fun s F S => wpAny_bind (wpAny_mono (h s F S) (fun _ _ A => A.next fun _ _ w => w) fun _ _ x => x)
theorem W.mono {t : Sem α} {Q Q' : α → Loc → Store → Prop} {X' : Value → Loc → Store → Prop} (h : W c t m σ Q X) (hQ : ∀ a m σ, Q a m σ → Q' a m σ) (hX : ∀ e m σ, X e m σ → X' e m σ) : W c t m σ Q' X' :=
  fun s F S => wpAny_mono (h s F S) (fun a _ A => A.mono (hQ a)) fun e _ A => A.mono hX
/-! ### nodes -/
theorem w_execs_nil {Q : Flow → Loc → Store → Prop} (h : Q .next m σ) : W c (execs [] env) m σ Q X := fun _ F S => wpAny_execs_nil (After.here F S h)
theorem w_execs_cons {st : Stmt} {rest : List Stmt} {Q : Flow → Loc → Store → Prop}
    (h : W c (exec st env) m σ (fun f m' σ' => match f with | .next => W c (execs rest env) m' σ' Q X | f => Q f m' σ') X) : W c (execs (st :: rest) env) m σ Q X :=
  fun s F S => wpAny_execs_cons (wpAny_mono (h s F S) (fun f s₁ A => by
    cases f with
    | next => exact A.next fun _ _ w => w
    | brk => exact A
    | cont => exact A
    | ret v => exact A) fun _ _ x => x)
theorem w_if {test : Expr} {body orelse : List Stmt} {pos : Pos} {Q : Flow → Loc → Store → Prop}
    (h : W c (isTrue test env (eval test env)) m σ (fun b m' σ' => match b with | true => W c (execs body env) m' σ' Q X | false => W c (execs orelse env) m' σ' Q X) X) :
    W c (exec (.If test body orelse pos) env) m σ Q X :=
  fun s F S => wpAny_If (wpAny_mono (h s F S) (fun b s₁ A => by
    cases b with
    | true => exact A.next fun _ _ w => w
    | false => exact A.next fun _ _ w => w) fun _ _ x => x)
theorem w_ret {e : Expr} {pos : Pos} {Q : Flow → Loc → Store → Prop} (h : W c (eval e env) m σ (fun v m' σ' => Q (.ret v) m' σ') X) : W c (exec (.Return (some e) pos) env) m σ Q X :=
  fun s F S => wpAny_Return_some (h s F S)
theorem w_assign {x : Str} {pos' pos : Pos} {value : Expr} {Q : Flow → Loc → Store → Prop} (hs : swapsWith value (some (.Name x pos')) pos.line env = Pure.pure false)
    (h : W c (eval value env) m σ (fun v m' σ' => W c (storeName env x v) m' σ' (fun _ => Q .next) X) X) : W c (exec (.Assign [.Name x pos'] value pos) env) m σ Q X :=
  fun s F S => wpAny_Assign_Name (wpAny_mono (h s F S) (fun _ _ A => A.next fun _ _ w => w) fun _ _ x => x) hs
theorem w_assign_attr {o : Expr} {attr : Str} {pos' pos : Pos} {value : Expr} {Q : Flow → Loc → Store → Prop} (hs : swapsWith value (some (.Attribute o attr pos')) pos.line env = Pure.pure false)
    (h : W c (eval value env) m σ (fun v m' σ' => W c (eval o env) m' σ' (fun ov m₂ σ₂ => W c (setAttr ov attr v) m₂ σ₂ (fun _ => Q .next) X) X) X) : W c (exec (.Assign [.Attribute o attr pos'] value pos) env) m σ Q X :=
  fun s F S => plainObj_wpAny_Assign_Attribute (wpAny_mono (h s F S) (fun _ _ A => wpAny_mono (A.next fun _ _ w => w) (fun _ _ A' => A'.next fun _ _ w => w) fun _ _ x => x) fun _ _ x => x) hs
theorem w_expr {e : Expr} {pos : Pos} {Q : Flow → Loc → Store → Prop} (h : W c (eval e env) m σ (fun _ m' σ' => Q .next m' σ') X)
    (hi : interactive env = false) (hs : swapsWith e none pos.line env = Pure.pure false) : W c (exec (.Expr e pos) env) m σ Q X :=
  fun s F S => wpAny_Expr_any (h s F S) hi hs

/-! ### expressions -/
theorem w_int {i : Int} {k : Nat} {pos : Pos} {Q : Value → Loc → Store → Prop} (h : ∀ t, Q (.int i t) m σ) : W c (eval (.Constant (.int i) k pos) env) m σ Q X :=
  fun _ F S => wpAny_Constant_int (After.tok F S (h _))
theorem w_bool {b : Bool} {k : Nat} {pos : Pos} {Q : Value → Loc → Store → Prop} (h : Q (.bool b) m σ) : W c (eval (.Constant (.bool b) k pos) env) m σ Q X :=
  fun _ F S => Constant_bool (After.here F S h)
theorem w_none {k : Nat} {pos : Pos} {Q : Value → Loc → Store → Prop} (h : Q .none m σ) : W c (eval (.Constant .none k pos) env) m σ Q X :=
  fun _ F S => Constant_none (After.here F S h)
theorem w_str {x : Str} {k : Nat} {pos : Pos} {Q : Value → Loc → Store → Prop} (h : ∀ t, Q (.str x t) m σ) : W c (eval (.Constant (.str x) k pos) env) m σ Q X :=
  fun _ F S => show wpAny _ _ (mkText x) _ _ _ from wpAny_mkText (After.tok F S (h _))
theorem loc_of {x : Str} {v : Value} (hc : c.env.cells.lookup x = none) (hv : m x = some v) : loc c m x = some v := by unfold loc; rw [hc]; exact hv
theorem w_local {x : Str} {pos : Pos} {v : Value} {Q : Value → Loc → Store → Prop} (hk : c.env.scope.kind = .function) (hx : c.env.kindOf x = some .local) (hc : c.env.cells.lookup x = none) (hd : (x == ("__debug__" : Str)) = false) (hv : m x = some v) (h : Q v m σ) :
    W c (eval (.Name x pos) c.env) m σ Q X := fun _ F S => wpAny_Name (wpAny_loadName_local hk hx F.F.ns (loc_of hc hv) (After.here F S h)) hd
theorem w_cell {x : Str} {pos : Pos} {v : Value} {a : Addr} {Q : Value → Loc → Store → Prop} (hk : c.env.scope.kind = .function) (hx : c.env.kindOf x = some .cell) (hc : c.env.cells.lookup x = some a) (hd : (x == ("__debug__" : Str)) = false) (hv : m x = some v) (h : Q v m σ) :
    W c (eval (.Name x pos) c.env) m σ Q X := fun _ F S => wpAny_Name (wpAny_loadName_cell hk hx hc (hv ▸ F.cell x a hc) (After.here F S h)) hd
theorem w_binop {l r : Expr} {op : Operator} {pos : Pos} {Q : Value → Loc → Store → Prop}
    (h : W c (eval l env) m σ (fun a m₁ σ₁ => W c (eval r env) m₁ σ₁ (fun b m₂ σ₂ => W c (binaryOp op a b) m₂ σ₂ Q X) X) X) : W c (eval (.BinOp l op r pos) env) m σ Q X :=
  fun s F S => wpAny_BinOp (wpAny_mono (h s F S) (fun _ _ A => wpAny_mono (A.next fun _ _ w => w) (fun _ _ A' => A'.next fun _ _ w => w) fun _ _ x => x) fun _ _ x => x)
theorem w_cmp {l r : Expr} {op : CmpOp} {pos : Pos} {Q : Value → Loc → Store → Prop}
    (h : W c (eval l env) m σ (fun a m₁ σ₁ => W c (eval r env) m₁ σ₁ (fun b m₂ σ₂ => W c (compareOp op a b) m₂ σ₂ Q X) X) X)
    (hm : behindInMarks op r = false := by with_unfolding_all rfl) : W c (eval (.Compare l [op] [r] pos) env) m σ Q X :=
  fun s F S => wpAny_Compare1 (wpAny_mono (h s F S) (fun _ _ A => wpAny_mono (A.next fun _ _ w => w) (fun _ _ A' => A'.next fun _ _ w => w) fun _ _ x => x) fun _ _ x => x) hm
theorem w_unop {x : Expr} {op : UnaryOp} {pos : Pos} {Q : Value → Loc → Store → Prop} (h : W c (eval x env) m σ (fun v m' σ' => W c (unaryOp op v) m' σ' Q X) X) : W c (eval (.UnaryOp op x pos) env) m σ Q X :=
  fun s F S => UnaryOp_ (wpAny_mono (h s F S) (fun _ _ A => A.next fun _ _ w => w) fun _ _ x => x)
theorem w_ifexp {test body orelse : Expr} {pos : Pos} {Q : Value → Loc → Store → Prop}
    (h : W c (isTrue test env (eval test env)) m σ (fun b m' σ' => match b with | true => W c (eval body env) m' σ' Q X | false => W c (eval orelse env) m' σ' Q X) X) :
    W c (eval (.IfExp test body orelse pos) env) m σ Q X :=
  fun s F S => IfExp_ (wpAny_mono (h s F S) (fun b s₁ A => by
    cases b with
    | true => exact A.next fun _ _ w => w
    | false => exact A.next fun _ _ w => w) fun _ _ x => x)
theorem w_one {op : BoolOp} {e : Expr} {pos : Pos} {Q : Value → Loc → Store → Prop} (h : W c (eval e env) m σ Q X) : W c (eval (.BoolOp op [e] pos) env) m σ Q X := h
theorem w_and {e₁ e₂ : Expr} {rest : List Expr} {pos : Pos} {Q : Value → Loc → Store → Prop}
    (h : W c (eval e₁ env) m σ (fun v m₁ σ₁ => W c (truthy v) m₁ σ₁ (fun b m₂ σ₂ => match b with | true => W c (eval (.BoolOp .And (e₂ :: rest) pos) env) m₂ σ₂ Q X | false => Q v m₂ σ₂) X) X) :
    W c (eval (.BoolOp .And (e₁ :: e₂ :: rest) pos) env) m σ Q X :=
  fun s F S => BoolOp_and (wpAny_mono (h s F S) (fun v s₁ A => wpAny_mono (A.next fun _ _ w => w) (fun b s₂ A' => by
    cases b with
    | true => exact A'.next fun _ _ w => w
    | false => exact A') fun _ _ x => x) fun _ _ x => x)
theorem w_attr {value : Expr} {attr : Str} {pos : Pos} {Q : Value → Loc → Store → Prop}
    (h : W c (eval value env) m σ (fun o m' σ' => W c (getAttr o attr true) m' σ' Q X) X)
    (he : eval (.Attribute value attr pos) env = (do
      let o ← eval value env
      standAt pos.atName
      let r ← holding [o] (getAttr o attr true)
      letTemporaryGo value o r
      Pure.pure r) := by with_unfolding_all rfl) : W c (eval (.Attribute value attr pos) env) m σ Q X :=
  fun s F S => Attribute_any_ (wpAny_mono (h s F S) (fun _ _ A => A.next fun _ _ w => w) fun _ _ x => x) he
theorem w_sub {value slice : Expr} {pos : Pos} {Q : Value → Loc → Store → Prop}
    (h : W c (eval value env) m σ (fun o m₁ σ₁ => W c (eval slice env) m₁ σ₁ (fun i m₂ σ₂ => W c (subscriptTail value slice o i) m₂ σ₂ Q X) X) X) : W c (eval (.Subscript value slice pos) env) m σ Q X :=
  fun s F S => Subscript_ (wpAny_mono (h s F S) (fun _ _ A => wpAny_mono (A.next fun _ _ w => w) (fun _ _ A' => A'.next fun _ _ w => w) fun _ _ x => x) fun _ _ x => x)
theorem w_list {elts : List Expr} {pos : Pos} {Q : Value → Loc → Store → Prop} (h : W c (spliced (backTo pos (starEach elts env))) m σ (fun vs m' σ' => W c (newList vs) m' σ' Q X) X) : W c (eval (.List elts pos) env) m σ Q X :=
  fun s F S => List_ (wpAny_mono (h s F S) (fun _ _ A => A.next fun _ _ w => w) fun _ _ x => x)
theorem w_tuple {elts : List Expr} {k : Nat} {pos : Pos} {Q : Value → Loc → Store → Prop} (h : W c (spliced (backTo pos (starEach elts env))) m σ (fun vs m' σ' => W c (newTuple vs) m' σ' Q X) X) : W c (eval (.Tuple elts k pos) env) m σ Q X :=
  fun s F S => Tuple_ (wpAny_mono (h s F S) (fun _ _ A => A.next fun _ _ w => w) fun _ _ x => x)
theorem w_spliced_nil {pos : Pos} {Q : List Value → Loc → Store → Prop} (h : Q [] m σ) : W c (spliced (backTo pos (starEach [] env))) m σ Q X := fun _ F S => spliced_nil (After.here F S h)
theorem w_spliced {e : Expr} {rest : List Expr} {pos : Pos} {Q : List Value → Loc → Store → Prop}
    (h : W c (eval e env) m σ (fun v m' σ' => W c (spliced (backTo pos (starEach rest env))) m' σ' (fun vs => Q (v :: vs)) X) X)
    (he : starEach (e :: rest) env = (false, eval e env) :: starEach rest env := by rfl) : W c (spliced (backTo pos (starEach (e :: rest) env))) m σ Q X := by
  rw [he]
  exact fun s F S => spliced_cons (wpAny_mono (h s F S) (fun _ _ A => A.next fun _ _ w => w) fun _ _ x => x)
theorem w_call {func : Expr} {args : List Expr} {pos : Pos} {Q : Value → Loc → Store → Prop}
    (h : W c (eval func env) m σ (fun f m' σ' => W c (callWith pos f [] (backTo pos (starEach args env)) []) m' σ' Q X) X)
    (he : eval (.Call func args [] pos) env = (do callWith pos (← eval func env) [] (backTo pos (starEach args env)) (backToKw pos (keywordEach [] env))) := by rfl) : W c (eval (.Call func args [] pos) env) m σ Q X :=
  fun s F S => Call_ (wpAny_mono (h s F S) (fun _ _ A => A.next fun _ _ w => w) fun _ _ x => x) he
theorem w_meth {o : Expr} {name : Str} {apos pos : Pos} {args : List Expr} {pl : Sem Bool} {Q : Value → Loc → Store → Prop}
    (h : W c (eval o env) m σ (fun ov m₁ σ₁ => W c (getMethod ov name pl) m₁ σ₁ (fun fx m₂ σ₂ => W c (callWith pos fx.1 fx.2 (backTo pos (starEach args env)) []) m₂ σ₂ Q X) X) X)
    (he : eval (.Call (.Attribute o name apos) args [] pos) env = (do
      let ov ← eval o env
      standAt apos.atName
      let (f, first) ← holding [ov] (getMethod ov name pl)
      callWith pos f first (backTo pos (starEach args env)) []) := by rfl) : W c (eval (.Call (.Attribute o name apos) args [] pos) env) m σ Q X :=
  fun s F S => MethodCall_ (wpAny_mono (h s F S) (fun _ _ A => wpAny_mono (A.next fun _ _ w => w) (fun _ _ A' => A'.next fun _ _ w => w) fun _ _ x => x) fun _ _ x => x) he

/-! ### tests -/
theorem t_not {x : Expr} {pos : Pos} {whole : Sem Value} {Q : Bool → Loc → Store → Prop} (h : W c (isTrue x env (eval x env)) m σ (fun b m' σ' => Q (!b) m' σ') X) : W c (isTrue (.UnaryOp .Not x pos) env whole) m σ Q X :=
  fun s F S => isTrue_not (h s F S)
theorem t_and_nil {pos : Pos} {whole : Sem Value} {Q : Bool → Loc → Store → Prop} (h : Q true m σ) : W c (isTrue (.BoolOp .And [] pos) env whole) m σ Q X := fun _ F S => isTrue_and_nil (After.here F S h)
theorem t_or_nil {pos : Pos} {whole : Sem Value} {Q : Bool → Loc → Store → Prop} (h : Q false m σ) : W c (isTrue (.BoolOp .Or [] pos) env whole) m σ Q X := fun _ F S => isTrue_or_nil (After.here F S h)
theorem t_and {x : Expr} {rest : List Expr} {pos : Pos} {whole : Sem Value} {Q : Bool → Loc → Store → Prop}
    (h : W c (isTrue x env (eval x env)) m σ (fun b m' σ' => match b with | true => W c (isTrue (.BoolOp .And rest pos) env whole) m' σ' Q X | false => Q false m' σ') X) : W c (isTrue (.BoolOp .And (x :: rest) pos) env whole) m σ Q X :=
  fun s F S => isTrue_and (wpAny_mono (h s F S) (fun b s₁ A => by
    cases b with
    | true => exact A.next fun _ _ w => w
    | false => exact A) fun _ _ x => x)
theorem t_or {x : Expr} {rest : List Expr} {pos : Pos} {whole : Sem Value} {Q : Bool → Loc → Store → Prop}
    (h : W c (isTrue x env (eval x env)) m σ (fun b m' σ' => match b with | true => Q true m' σ' | false => W c (isTrue (.BoolOp .Or rest pos) env whole) m' σ' Q X) X) : W c (isTrue (.BoolOp .Or (x :: rest) pos) env whole) m σ Q X :=
  fun s F S => isTrue_or (wpAny_mono (h s F S) (fun b s₁ A => by
    cases b with
    | true => exact A
    | false => exact A.next fun _ _ w => w) fun _ _ x => x)
theorem t_cmp {l r : Expr} {op : CmpOp} {pos : Pos} {whole : Sem Value} {Q : Bool → Loc → Store → Prop}
    (h : W c (eval l env) m σ (fun a m₁ σ₁ => W c (eval r env) m₁ σ₁ (fun b m₂ σ₂ => W c (compareOp op a b) m₂ σ₂ (fun v m₃ σ₃ => W c (truthy v) m₃ σ₃ Q X) X) X) X)
    (hm : behindInMarks op r = false := by with_unfolding_all rfl) : W c (isTrue (.Compare l [op] [r] pos) env whole) m σ Q X :=
  fun s F S => wpAny_isTrue_Compare1 (wpAny_mono (h s F S) (fun _ _ A => wpAny_mono (A.next fun _ _ w => w) (fun _ _ A' => wpAny_mono (A'.next fun _ _ w => w) (fun _ _ A'' => A''.next fun _ _ w => w) fun _ _ x => x) fun _ _ x => x) fun _ _ x => x) hm
theorem t_plain {e : Expr} {whole : Sem Value} {Q : Bool → Loc → Store → Prop} (h : W c whole m σ (fun v m' σ' => W c (truthy v) m' σ' Q X) X)
    (he : isTrue e env whole = (do let v ← whole; standAt e.pos; holding [v] (truthy v)) := by rfl) : W c (isTrue e env whole) m σ Q X :=
  fun s F S => isTrue_plain (wpAny_mono (h s F S) (fun _ _ A => A.next fun _ _ w => w) fun _ _ x => x) he
theorem v_bool {b : Bool} {Q : Bool → Loc → Store → Prop} (h : Q b m σ) : W c (truthy (.bool b)) m σ Q X := fun _ F S => wpAny_truthy_bool (After.here F S h)
/-! ### names stored -/
def setM (m : Loc) (x : Str) (v : Value) : Loc := fun y => if y = x then some v else m y
theorem setM_same {m : Loc} {x : Str} {v : Value} : setM m x v x = some v := if_pos rfl
theorem setM_ne {m : Loc} {x y : Str} {v : Value} {r : Option Value} (h : y ≠ x) (e : m y = r) : setM m x v y = r := (if_neg h).trans e
theorem loc_set {x : Str} {v : Value} (hc : c.env.cells.lookup x = none) : (fun y => if y = x then some v else loc c m y) = loc c (setM m x v) := by
  funext y
  unfold loc setM
  by_cases e : y = x
  · subst e; rw [hc]; simp
  · simp only [if_neg e]
theorem w_store {x : Str} {v : Value} {Q : Unit → Loc → Store → Prop} (hk : c.env.scope.kind = .function) (hx : c.env.kindOf x = some .local) (hc : c.env.cells.lookup x = none) (h : Q () (setM m x v) σ) : W c (storeName c.env x v) m σ Q X :=
  fun _ F S => wpAny_storeName_local hx F.F.ns (fun h' hn hs => After.at ⟨⟨loc_set hc ▸ F.F.set hn hs, fun y a hy => by
      have e : y ≠ x := fun q => by rw [q, hc] at hy; cases hy
      obtain ⟨o, ho, hd⟩ := F.cell y a hy
      exact ⟨o, (hs.2 a (F.off y a hy).1).trans ho, by rw [hd]; unfold setM; rw [if_neg e]⟩, F.off, F.inj⟩,
      fun a o e => ⟨(hs.2 a fun q => (S a o e).2.1 (.inl q)).trans (S a o e).1, (S a o e).2⟩, fun a o e _ l => (hs.2 a fun q => l (.inl q)).trans e, fun a o e => .inl (by rw [e]; exact fun q => nomatch q)⟩ h)
    (by rw [hk]; rfl)
/-! ### new objects -/
abbrev tupO (vs : List Value) : Obj := { cls := .type "tuple", data := .seq vs.toArray }
abbrev lstO (vs : List Value) (n : Nat) : Obj := { cls := .type "list", data := .seq vs.toArray n }
theorem w_newList {vs : List Value} {Q : Value → Loc → Store → Prop} (h : ∀ a, σ a = none → Q (.ref a) m (upd σ a (lstO vs 0))) (hsz : vs.length ≤ sizeLine) : W c (newList vs) m σ Q X :=
  fun s F S => newList_N F.F (all_news c s.heap) (fun h' F' N' => After.at (grown F S F' (no_end _) N') (h _ S.fresh)) hsz
theorem w_newTuple {vs : List Value} {Q : Value → Loc → Store → Prop} (h : ∀ a, σ a = none → Q (.ref a) m (upd σ a (tupO vs))) (hsz : vs.length ≤ sizeLine) : W c (newTuple vs) m σ Q X :=
  fun s F S => newTuple_N F.F (all_news c s.heap) (fun h' F' N' => After.at (grown F S F' (no_end _) N') (h _ S.fresh)) hsz
end
end Mine

open PySem PySem.W PySem.Calls PyProof.Rows
namespace Mine

/-- the ground of a frame: n is what may still be entered -/
structure Gnd (n : Nat) (c : Cx) : Prop where
  B : ∃ A₀ outer, Below A₀ c.g.h outer c.h₀ ∧ c.A.frames = some (c.env :: outer)
  fr : c.env.frame = some c.env.locals
  knd : c.env.scope.kind = .function
  glob : c.env.globals = mainGlobals
  bi : c.env.builtins = builtinsNs
  X : c.g.K.In c.h₀
  T : Top c.g.p c.g.loose c.g.mean c.g.mg c.g.mb c.h₀
  hh : c.A.handled = none
  dep : c.A.depth + 2 * n < recursionLimit
  un : c.A.units + 20 * n + 20 < cLine
  base : c.h₀.IsList c.g.bl c.g.bv.toArray
  XB : c.g.K.In c.g.h
  TB : Top c.g.p c.g.loose c.g.mean c.g.mg c.g.mb c.g.h
  baseB : c.g.h.IsList c.g.bl c.g.bv.toArray

section
variable {n : Nat} {c : Cx} {env : Env} {α : Type} {m : Loc} {σ : Store} {X : Value → Loc → Store → Prop}

/-- what names of the top want of an environment -/
structure EnvOk (env : Env) : Prop where
  knd : env.scope.kind = .function
  glob : env.globals = mainGlobals
  bi : env.builtins = builtinsNs
theorem Gnd.ok (g : Gnd n c) : EnvOk c.env := ⟨g.knd, g.glob, g.bi⟩
theorem Gnd.now (g : Gnd n c) {s : Shared} (F : Frm c s.heap m) : c.g.K.In s.heap := g.X.keeps F.keep

/-! ### names of the top -/
theorem w_glob {x : Str} {pos : Pos} {v : Value} {Q : Value → Loc → Store → Prop} (g : Gnd n c) (k : EnvOk env) (hx : env.kindOf x = some .globalImplicit) (hd : (x == ("__debug__" : Str)) = false) (hv : c.g.mg x = some v) (h : Q v m σ) :
    W c (eval (.Name x pos) env) m σ Q X := fun s F S =>
  Name_function_global k.knd hx (loadGlobal_global (by rw [k.glob]; exact g.T.g.keeps F.keep) hv (After.here F S h)) hd
theorem w_built {x : Str} {pos : Pos} {v : Value} {Q : Value → Loc → Store → Prop} (g : Gnd n c) (k : EnvOk env) (hx : env.kindOf x = some .globalImplicit) (hd : (x == ("__debug__" : Str)) = false) (hm : c.g.mg x = none) (hn : x ≠ "__name__") (hv : bootBuiltins x = some v) (h : Q v m σ) :
    W c (eval (.Name x pos) env) m σ Q X := fun s F S =>
  Name_function_global k.knd hx (loadGlobal_builtin (by rw [k.glob]; exact g.T.g.keeps F.keep) hm (by rw [k.bi]; exact g.T.b.keeps F.keep) ((g.T.builtins x hn).trans hv) (After.here F S h)) hd

/-! ### ints -/
variable {a b : Int} {t u : Tok}
theorem i_add {Q : Value → Loc → Store → Prop} (h : ∀ t, Q (.int (a + b) t) m σ) : W c (binaryOp .Add (.int a t) (.int b u)) m σ Q X := fun _ F S => add_int (After.tok F S (h _))
theorem i_sub {Q : Value → Loc → Store → Prop} (h : ∀ t, Q (.int (a - b) t) m σ) : W c (binaryOp .Sub (.int a t) (.int b u)) m σ Q X := fun _ F S => sub_int (After.tok F S (h _))
theorem i_mul {Q : Value → Loc → Store → Prop} (h : ∀ t, Q (.int (a * b) t) m σ) (hm : IntMulOk a b) : W c (binaryOp .Mult (.int a t) (.int b u)) m σ Q X := fun _ F S => mul_int (After.tok F S (h _)) hm
theorem i_mod {Q : Value → Loc → Store → Prop} (hb : b ≠ 0) (h : ∀ t, Q (.int (a.fmod b) t) m σ) : W c (binaryOp .Mod (.int a t) (.int b u)) m σ Q X := fun _ F S => mod_int hb (After.tok F S (h _))
theorem i_neg {Q : Value → Loc → Store → Prop} (h : ∀ t, Q (.int (-a) t) m σ) : W c (unaryOp .USub (.int a t)) m σ Q X := fun _ F S => P.neg_int (After.tok F S (h _))
theorem i_eq {Q : Value → Loc → Store → Prop} (h : Q (.bool (a == b)) m σ) : W c (compareOp .Eq (.int a t) (.int b u)) m σ Q X := fun _ F S => eq_int (After.here F S h)
theorem i_ne {Q : Value → Loc → Store → Prop} (h : Q (.bool (a != b)) m σ) : W c (compareOp .NotEq (.int a t) (.int b u)) m σ Q X := fun _ F S => ne_int (After.here F S h)
theorem i_lt {Q : Value → Loc → Store → Prop} (h : Q (.bool (decide (a < b))) m σ) : W c (compareOp .Lt (.int a t) (.int b u)) m σ Q X := fun _ F S => lt_int (After.here F S h)
theorem i_gt {Q : Value → Loc → Store → Prop} (h : Q (.bool (decide (b < a))) m σ) : W c (compareOp .Gt (.int a t) (.int b u)) m σ Q X := fun _ F S => gt_int (After.here F S h)
/-! ### what a class gives -/
structure FieldOk (K : Frag) (C : Addr) (name : Str) : Prop where
  pg : plainGet K C name = true
  hd : hasDictIn K C = true
  nf : findIn K (.ref C) name = some none
  sa : findIn K (.ref C) "__setattr__" = some (some (.builtin "object.__setattr__"))
  po : plainOver K C = true
structure MethOk (K : Frag) (C : Addr) (name : Str) (f : Addr) : Prop where
  pg : plainGet K C name = true
  hf : findIn K (.ref C) name = some (some (.ref f))
  fn : isFn K (.ref f) = true
  kp : keepIn K (.ref f) = true

theorem inst_at {s : Shared} {x C dx : Addr} {od : Obj} (S : Sto c s.heap σ) (hx : σ x = some (instObj C dx)) (hd : σ dx = some od) : W.InstAt s.heap x (instObj C dx) C (some od) :=
  ⟨(S x _ hx).1, rfl, rfl, (S dx _ hd).1⟩

theorem w_get {x C dx : Addr} {name : Str} {es : List DictEntry} {k : Nat} {v : Value} {Q : Value → Loc → Store → Prop} (g : Gnd n c) (f : FieldOk c.g.K C name) (hx : σ x = some (instObj C dx)) (hd : σ dx = some (dictOf es k))
    (hl : getL name es = some (some v)) (hv : handedIn v = true) (h : Q v m σ) : W c (getAttr (.ref x) name true) m σ Q X :=
  fun _ F S => get_own F.F g.X (inst_at S hx hd) f.pg f.hd f.nf rfl hl hv (After.tok F S h)

theorem putL_len (name : Str) (hsh : Int) (key v : Value) : ∀ es : List DictEntry, (putL name hsh key v es).length ≤ es.length + 1
  | [] => Nat.le_refl _
  | e :: r => by
    unfold putL
    split
    · simp
    · have := putL_len name hsh key v r
      simp only [List.length_cons]; omega
theorem w_set {x C dx : Addr} {name : Str} {es : List DictEntry} {k : Nat} {v : Value} {Q : Unit → Loc → Store → Prop} (g : Gnd n c) (f : FieldOk c.g.K C name) (hx : σ x = some (instObj C dx)) (hd : σ dx = some (dictOf es k))
    (hl : (getL name es).isSome = true) (hz : es.length < 1000) (h : ∀ tk, Q () m (upd σ dx (dictOf (putL name (PyData.keyHash c.g.w.params name) (.str name tk) v es) (putN name es k)))) : W c (setAttr (.ref x) name v) m σ Q X :=
  fun s F S => by
    obtain ⟨l', U, back⟩ := turned (o' := dictOf (putL name (PyData.keyHash c.g.w.params name) (.str name (s.toks + 1)) v es) (putN name es k)) F S hd
    have ht : takerIn c.g.K C name = some none := by unfold takerIn; rw [f.nf]; rfl
    have hz' : (putL name (PyData.keyHash c.g.w.params name) (.str name (s.toks + 1)) v es).length ≤ 1000 := by have := putL_len name (PyData.keyHash c.g.w.params name) (.str name (s.toks + 1)) v es; omega
    exact set_dict F.F g.X (all_news c s.heap) (inst_at S hx hd) rfl f.sa f.po ht f.hd hl rfl U hz' fun h' F' N' => After.at (back h' F' N') (h _)
theorem w_getMeth {x C dx f : Addr} {name : Str} {es : List DictEntry} {k : Nat} {pl : Sem Bool} {Q : Value × List Value → Loc → Store → Prop} (g : Gnd n c) (o : MethOk c.g.K C name f) (hx : σ x = some (instObj C dx)) (hd : σ dx = some (dictOf es k))
    (hl : getL name es = some none) (h : Q (.ref f, [.ref x]) m σ) : W c (getMethod (.ref x) name pl) m σ Q X :=
  fun _ F S => method_inst F.F g.X (inst_at S hx hd) o.pg o.hf o.fn hl (After.here F S h)

/-! ### calls -/
theorem w_with0 {pos : Pos} {f : Value} {first : List Value} {Q : Value → Loc → Store → Prop} (g : Gnd n c) (hk : keepIn c.g.K f = true) (h : W c (call f (first ++ [])) m σ Q X) :
    W c (callWith pos f first (backTo pos (starEach [] env)) []) m σ Q X :=
  fun s F S => callWith_K0 (g.now F) hk (h s F S)
theorem w_with {pos : Pos} {f : Value} {first : List Value} {e : Expr} {rest : List Expr} {Q : Value → Loc → Store → Prop} (g : Gnd n c) (hk : keepIn c.g.K f = true)
    (h : W c (spliced (backTo pos (starEach (e :: rest) env))) m σ (fun vs m' σ' => W c (call f (first ++ vs)) m' σ' Q X) X)
    (he : starEach (e :: rest) env = (false, eval e env) :: starEach rest env := by rfl) (hp : (backTo pos (starEach rest env)).any (·.1) = false := by rfl) :
    W c (callWith pos f first (backTo pos (starEach (e :: rest) env)) []) m σ Q X :=
  fun s F S => callWith_K g.X hk (wpAny_mono (h s F S) (fun vs s₁ A => by
    refine ⟨?_, A.next fun _ _ w => w⟩
    obtain ⟨h', tk, m', σ', rfl, F', S', _, w⟩ := A
    exact g.now (s := { s with heap := h', toks := tk }) F') fun _ _ x => x) he hp
/-- a built-in's call: no road of its own -/
def plainF : Value → Bool
  | .ref _ => false
  | _ => true
theorem keeps_plain {M : Model} {f : Value} (hf : plainF f = true) (h : Heap) (_ : True) : ∃ k, (k = Keeper.frame ∨ k = Keeper.machine ∨ k = Keeper.boundFrame) ∧ Looks M h (keeperOf f) k := by
  refine ⟨.machine, .inr (.inl rfl), ?_⟩
  cases f with
  | ref a => cases hf
  | _ => exact fun A Q E s _ q => wpAny_pure q
theorem w_bwith {pos : Pos} {f : Value} {first : List Value} {e : Expr} {rest : List Expr} {Q : Value → Loc → Store → Prop} (hf : plainF f = true)
    (h : W c (spliced (backTo pos (starEach (e :: rest) env))) m σ (fun vs m' σ' => W c (call f (first ++ vs)) m' σ' Q X) X)
    (he : starEach (e :: rest) env = (false, eval e env) :: starEach rest env := by rfl) (hp : (backTo pos (starEach rest env)).any (·.1) = false := by rfl) :
    W c (callWith pos f first (backTo pos (starEach (e :: rest) env)) []) m σ Q X := by
  rw [he] at h ⊢
  exact fun s F S => callWith_of (P := fun _ => True) (by show ((false || (backTo pos (starEach rest env)).any (·.1)) || false) = false; rw [hp]; rfl) (keeps_plain hf)
    (evalArgs_plain (wpAny_mono (h s F S) (fun vs s₁ A => ⟨trivial, A.next fun _ _ w => w⟩) fun _ _ x => x))

/-- what a call of f comes to, from whatever frame -/
def Fn (g : Pg) (n : Nat) (f : Value) (args : List Value) (σ : Store) (Q X : Value → Store → Prop) : Prop :=
  ∀ (A : Around) (env : Env) (h₀ : Heap) (m : Loc) (s : Shared), Gnd n ⟨g, A, env, h₀⟩ → Frm ⟨g, A, env, h₀⟩ s.heap m → Sto ⟨g, A, env, h₀⟩ s.heap σ →
    codeAny (model g.prog g.w) A (.call f ⟨args, []⟩) (fun r s' => match r with
      | .ok (.ret v) => After ⟨g, A, env, h₀⟩ σ s s' (fun m' σ' => m' = m ∧ Q v σ')
      | .ok _ => False
      | .error e => AftX ⟨g, A, env, h₀⟩ σ s s' (fun e m' σ' => m' = m ∧ X e σ') e) s
theorem Gnd.less {k : Nat} (g : Gnd n c) (h : k ≤ n) : Gnd k c := ⟨g.B, g.fr, g.knd, g.glob, g.bi, g.X, g.T, g.hh, by have := g.dep; omega, by have := g.un; omega, g.base, g.XB, g.TB, g.baseB⟩
theorem w_fn {f : Value} {args : List Value} {Q : Value → Loc → Store → Prop} {k : Nat} {P Y : Value → Store → Prop} (g : Gnd n c) (hk : k ≤ n) (hf : Fn c.g k f args σ P Y) (h : ∀ v σ', P v σ' → Q v m σ') (hx : ∀ e σ', Y e σ' → X e m σ') : W c (call f args) m σ Q X :=
  fun s F S => wpAny_call (codeAny_mono (hf c.A c.env c.h₀ m s (g.less hk) F S) fun r s' z => by
    rcases r with e | (_ | _ | _ | v)
    · exact AftX.mono z fun e m' σ' q => by obtain ⟨rfl, q⟩ := q; exact hx e σ' q
    · exact z
    · exact z
    · exact z
    · exact After.mono z fun m' σ' q => by obtain ⟨rfl, q⟩ := q; exact h v σ' q)
theorem Fn.mono {g : Pg} {f : Value} {args : List Value} {Q X Q' X' : Value → Store → Prop} (h : Fn g n f args σ Q X) (hQ : ∀ v σ', Q v σ' → Q' v σ') (hX : ∀ v σ', X v σ' → X' v σ') : Fn g n f args σ Q' X' :=
  fun A env h₀ m s G F S => codeAny_mono (h A env h₀ m s G F S) fun r s' z => by
    rcases r with e | (_ | _ | _ | v)
    · exact AftX.mono z fun _ m' σ' q => ⟨q.1, hX _ _ q.2⟩
    · exact z
    · exact z
    · exact z
    · exact After.mono z fun m' σ' q => ⟨q.1, hQ _ _ q.2⟩

/-- behind a call: the caller's frame again -/
theorem called_back {c c' : Cx} {σ : Store} {s : Shared} {h₁ : Heap} (F : Frm c s.heap m) (FG : Fr c.h₀ c.env.locals c'.h₀ (loc c m)) (st : c.h₀.StaysIn c'.h₀)
    (N' : News c'.h₀ c'.env.locals h₁ (allOf c s.heap)) (F' : Fr c'.h₀ c'.env.locals h₁ (loc c' m')) (young : ∀ b o, s.heap.get? b = some o → ¬ FA c' b)
    (S : Sto c s.heap σ) {h' : Heap} {m'' : Loc} {σ' : Store} (F'' : Frm c' h' m'') (S'' : Sto c' h' σ') (x : Fra c' σ h₁ h' σ') :
    Frm c h' m ∧ Sto c h' σ' ∧ Fra c σ s.heap h' σ' := by
  have LG : ∃ oL, c'.h₀.get? c.env.locals = some oL := by obtain ⟨oL, _, _, hL, _⟩ := FG.ns; exact ⟨oL, hL⟩
  have elder : ∀ b o, s.heap.get? b = some o → b ≠ c.env.locals → h₁.get? b = some o := by
    intro b o e l
    cases q : c.h₀.get? b with
    | some y =>
      rw [F.keep b y q] at e; cases e
      exact F'.keep b o (st b o q)
    | none => exact (N' (b, o) (mem_lst.mpr ⟨Heap.lt_size e, full_some.mpr ⟨l, q, e⟩⟩)).1
  have kept : ∀ b o, s.heap.get? b = some o → σ b = none → b ≠ c.env.locals → h'.get? b = some o := fun b o e n l => x.kept b o (elder b o e l) n (young b o e)
  have cellσ : ∀ y b, c.env.cells.lookup y = some b → σ b = none := fun y b hy => by
    cases q : σ b with
    | none => rfl
    | some o => exact absurd (.inr ⟨y, hy⟩) (S b o q).2.1
  refine ⟨F.on ?_ fun y b hy o e => kept b o e (cellσ y b hy) (F.off y b hy).1, fun a o e => ⟨(S'' a o e).1, fun q => ?_, ?_⟩, fun b o e n l => kept b o e n fun q => l (.inl q), fun b o e => ?_⟩
  · obtain ⟨oL, es, ep, hL, r⟩ := FG.ns
    exact ⟨⟨oL, es, ep, F''.keep _ _ hL, r⟩, fun b o e => F''.keep b o (st b o e), F.F.above⟩
  · rcases q with q | ⟨y, hy⟩
    · obtain ⟨oL, hL⟩ := LG
      have := (S'' a o e).2.2; rw [q, hL] at this; cases this
    · rcases x.grow a o e with z | z
      · exact z (cellσ y a hy)
      · obtain ⟨o', ho', _⟩ := F.cell y a hy
        rw [elder a o' ho' (F.off y a hy).1] at z; cases z
  · cases q : c.h₀.get? a with
    | none => rfl
    | some o' => have := (S'' a o e).2.2; rw [st _ _ q] at this; cases this
  · rcases x.grow b o e with q | q
    · exact .inl q
    · right
      cases k : s.heap.get? b with
      | none => rfl
      | some o' =>
        by_cases l : b = c.env.locals
        · obtain ⟨oL, hL⟩ := LG
          rw [l, F'.keep _ _ hL] at q; cases q
        · rw [elder b o' k l] at q; cases q

theorem fn_of_body {g : Pg} {f : Addr} {args : List Value} {Q X : Value → Store → Prop} {name qual : Str} {params : Arguments} {body : List Stmt} {scope : Scope} {dV kV doc pm cdv ct oc : Value} {an od : Option Addr} {osl : Array (Option Value)} {binds : List (Str × Value)}
    (ho : g.K.lookup f = some ⟨oc, od, .func (fnX name qual params body scope [] dV kV doc pm an cdv ct), osl⟩) (hcd : codeIn g.K cdv qual = true)
    (hb : bindArgs (fnX name qual params body scope [] dV kV doc pm an cdv ct) ⟨args, []⟩ = pure binds) (hloc : ∀ y ∈ binds, scope.names.lookup y.1 = some .local) (hcell : ∀ x ∈ scope.names, x.2 ≠ .cell)
    (hco : scope.isCoroutine = false) (hgen : scope.isGenerator = false) (hk : scope.kind = .function)
    (h : ∀ c : Cx, c.g = g → Gnd n c → c.env.scope = scope → c.env.cells = [] → W c (execs body c.env) (fun y => binds.reverse.lookup y) σ (fun fl _ σ' => Q (match fl with | .ret v => v | _ => .none) σ') (fun _ _ _ => False)) :
    Fn g (n + 1) (.ref f) args σ Q X := by
  intro A env h₀ m s G F S
  obtain ⟨A₀, outer, B, hA⟩ := G.B
  dsimp only at B hA
  have hfr : env.frame = some env.locals := G.fr
  have hke : env.scope.kind = .function := G.knd
  have N := all_news ⟨g, A, env, h₀⟩ s.heap
  have KX : g.K.In s.heap := G.now F
  refine callX_plain (cl := []) B F.F N G.T.nolimit hA hfr hke (KX _ _ ho) rfl (codeRec_of KX hcd) (by have := G.dep; dsimp only at this; omega) (BindsTo.of_eq hb) hloc ?_ hcell hco hgen hk
  intro g' L' h₁ FG F' N' B' st young
  let c' : Cx := ⟨g, A.deeper (envX qual scope L' f cdv []), envX qual scope L' f cdv [], g'⟩
  have hloc0 : ∀ m : Loc, loc c' m = m := fun m => by funext x; rfl
  have G' : Gnd n c' := by
    refine ⟨⟨A, env :: outer, B', by show (A.frames.map _) = _; rw [hA]; rfl⟩, rfl, hk, rfl, rfl, G.X.keeps st, G.T.keeps st, G.hh, ?_, ?_, G.base.at fun o e => st _ o e, G.XB, G.TB, G.baseB⟩
    · have := G.dep
      show A.depth + 1 + 2 * n < recursionLimit
      dsimp only at this; omega
    · have := G.un
      show A.units + 3 + 20 * n + 20 < cLine
      dsimp only at this; omega
  have F1 : Frm c' h₁ (fun y => binds.reverse.lookup y) := ⟨by rw [hloc0]; exact F', fun x a hx => (by cases hx), fun x a hx => (by cases hx), fun x y a hx => (by cases hx)⟩
  have yng : ∀ b o, s.heap.get? b = some o → ¬ FA c' b := by
    intro b o e q
    rcases q with q | ⟨x, hx⟩
    · have hb : b = L' := q
      subst hb
      by_cases l : b = env.locals
      · obtain ⟨oL, _, _, hL, _⟩ := FG.ns
        exact absurd (Nat.lt_of_lt_of_le (Heap.lt_size (show g'.get? b = some oL from l ▸ hL)) F'.above) (Nat.lt_irrefl _)
      · cases q : h₀.get? b with
        | some y => exact absurd (Nat.lt_of_lt_of_le (Heap.lt_size (st b y q)) F'.above) (Nat.lt_irrefl _)
        | none => exact absurd (young (b, o) (mem_lst.mpr ⟨Heap.lt_size e, full_some.mpr ⟨l, q, e⟩⟩)) (Nat.lt_irrefl _)
    · cases hx
  have S1 : Sto c' h₁ σ := fun a o e => by
    have mem : (a, o) ∈ allOf ⟨g, A, env, h₀⟩ s.heap := mem_lst.mpr ⟨S.lt e, S.full (c := ⟨g, A, env, h₀⟩) a o e⟩
    exact ⟨(N' _ mem).1, yng a o (S a o e).1, (N' _ mem).2.2⟩
  have key := h c' rfl G' rfl rfl { s with heap := h₁, toks := s.toks + binds.length } F1 S1
  have back := fun {h' : Heap} {m'' : Loc} {σ' : Store} => called_back (c := ⟨g, A, env, h₀⟩) (c' := c') (m := m) (m' := fun y => binds.reverse.lookup y) (s := s) (σ := σ) (h₁ := h₁) (h' := h') (m'' := m'') (σ' := σ') F FG st N' F1.F yng S
  refine wpAny_mono key (fun fl s' Aft => ?_) fun e s' Aft => ?_
  · obtain ⟨h', tk, m', σ', rfl, F'', S'', x, q⟩ := Aft
    obtain ⟨a1, a2, a3⟩ := back F'' S'' x
    exact ⟨L', _, [], F''.F, fun _ hp => (nomatch hp), fun _ _ => ⟨h', tk, m, σ', rfl, a1, a2, a3, rfl, q⟩⟩
  · exact Aft.no.elim
end
end Mine

open PySem PySem.W PySem.Calls PyProof.Rows
namespace Mine
section
variable {n : Nat} {c : Cx} {α : Type} {m : Loc} {σ : Store} {X : Value → Loc → Store → Prop}

abbrev NoX : Value → Loc → Store → Prop := fun _ _ _ => False

/-- the walk over what v yields, its turns' body -/
def Turns (c : Cx) (x : Str) (tp : Pos) (body : List Stmt) (v : Value) (m : Loc) (σ : Store) (Q : Flow → Loc → Store → Prop) : Prop :=
  ∀ s, Frm c s.heap m → Sto c s.heap σ →
    wpAny (model c.g.prog c.g.w) c.A (pyIter v) (fun it s₂ => codeAny (model c.g.prog c.g.w) c.A (.forLoop (.Name x tp) it body [] c.env)
      (fun r s' => match r with | .ok f => After c σ s s' (Q f) | .error _ => False) s₂) (fun _ _ => False) s

theorem w_for {x : Str} {tp pos : Pos} {iter : Expr} {body : List Stmt} {Q : Flow → Loc → Store → Prop}
    (h : W c (eval iter c.env) m σ (fun v m₁ σ₁ => Turns c x tp body v m₁ σ₁ Q) X)
    (hs : ∀ x, foldedSetIterable iter c.env x = Pure.pure x := by intro _; rfl) : W c (exec (.For (.Name x tp) iter body [] pos) c.env) m σ Q X :=
  fun s F S => wpAny_For (wpAny_mono (h s F S) (fun v s₁ A => by
    obtain ⟨h', tk, m', σ', rfl, F', S', fx, T⟩ := A
    refine wpAny_mono (T { s with heap := h', toks := tk } F' S') (fun it s₂ C => codeAny_mono C fun r s' z => ?_) fun _ _ x => x.elim
    cases r with
    | error e => exact z.elim
    | ok f => exact z.on rfl fx) fun _ _ x => x) hs

/-- between two turns -/
structure Mid (c : Cx) (σ₀ : Store) (s₀ : Shared) (I : Addr) (SW : Nat → Heap → Prop) (J : Nat → Loc → Store → Prop) (i : Nat) (m : Loc) (σ : Store) (h : Heap) : Prop where
  F : Frm c h m
  S : Sto c h σ
  fra : Fra c σ₀ s₀.heap h σ
  J : J i m σ
  sw : SW i h
  no : σ I = none

theorem turns_walk {x : Str} {tp : Pos} {body : List Stmt} {v : Value} {Q : Flow → Loc → Store → Prop} (g : Gnd n c) (hx : c.env.kindOf x = some .local) (hxc : c.env.cells.lookup x = none) {N : Nat} {P : Nat → Value → Prop} (J : Nat → Loc → Store → Prop)
    (fp : Addr → List Addr) (SW : Addr → Nat → Heap → Prop)
    (open_ : ∀ s, Frm c s.heap m → Sto c s.heap σ → ∃ io : Obj, io.isFreed = false ∧ Walks c.g.prog c.g.w c.A s.heap.objs.size (fp s.heap.objs.size) [s.heap.objs.size] N P (SW s.heap.objs.size) ∧ SW s.heap.objs.size 0 (s.heap.push io) ∧
      ∀ Q' E', Q' (.ref s.heap.objs.size) { s with heap := s.heap.push io } → wpAny (model c.g.prog c.g.w) c.A (pyIter v) Q' E' s)
    (some_ : ∀ I i h, SW I i h → (h.get? I).isSome = true)
    (stay : ∀ I, ∀ b ∈ fp I, b ≠ I → ∃ o, ∀ i m σ, J i m σ → (c.h₀.get? b = some o ∨ σ b = some o))
    (h0 : J 0 m σ)
    (turn : ∀ i v m' σ', i < N → P i v → J i m' σ' → W c (execs body c.env) (setM m' x v) σ' (fun f m'' σ'' => match f with
      | .next => J (i + 1) m'' σ'' | .cont => J (i + 1) m'' σ'' | .brk => Q .next m'' σ'' | .ret r => Q (.ret r) m'' σ'') NoX)
    (done : ∀ m' σ', J N m' σ' → Q .next m' σ') : Turns c x tp body v m σ Q := by
  intro s F S
  obtain ⟨io, hio, Wk, sw0, go⟩ := open_ s F S
  refine go _ _ ?_
  generalize hI : s.heap.objs.size = I at *
  have hIs : s.heap.get? I = none := by rw [← hI]; exact no_end _
  have hI0 : c.h₀.get? I = none := by
    cases q : c.h₀.get? I with
    | none => rfl
    | some o => rw [F.keep I o q] at hIs; cases hIs
  have hIL : ¬ FA c I := F.notNew hIs
  have pushK : ∀ b o, s.heap.get? b = some o → (s.heap.push io).get? b = some o := fun b o e => Heap.get?_push_of_some _ e
  refine codeAny_forLoop (fun k s' => ∃ i m' σ' h tk, k = N - i ∧ i ≤ N ∧ s' = { s with heap := h, toks := tk } ∧ Mid c σ s I (SW I) J i m' σ' h) ?_ N ?_
  · rintro k s' ⟨i, m', σ', h, tk, rfl, hi, rfl, M⟩
    have hIh : ∃ o, h.get? I = some o := Option.isSome_iff_exists.mp (some_ I i h M.sw)
    -- what holds behind a step of the iterator
    have next : ∀ h', (∀ b o, b ∉ [I] → h.get? b = some o → h'.get? b = some o) → Frm c h' m' ∧ Sto c h' σ' ∧ Fra c σ s.heap h' σ' := by
      intro h' hk
      have ne : ∀ b, b ≠ I → b ∉ [I] := fun b q z => q (List.mem_singleton.mp z)
      refine ⟨M.F.on ⟨?_, fun b o e => hk b o (ne b fun q => by rw [q, hI0] at e; cases e) (M.F.keep b o e), M.F.F.above⟩ fun x b hb o e => hk b o (ne b fun q => hIL (q ▸ .inr ⟨x, hb⟩)) e, fun a o e => ⟨hk a o (ne a fun q => by rw [q, M.no] at e; cases e) (M.S a o e).1, (M.S a o e).2⟩, fun b o e z l => hk b o (ne b fun q => by rw [q, hIs] at e; cases e) (M.fra.kept b o e z l), M.fra.grow⟩
      obtain ⟨oL, es, ep, hL, r⟩ := M.F.F.ns
      exact ⟨oL, es, ep, hk _ _ (ne _ fun q => hIL (.inl q.symm)) hL, r⟩
    rcases Nat.lt_or_ge i N with hlt | hge
    · refine Wk.item i _ _ _ hlt M.sw fun v h' tk' hP hsw hk => ?_
      obtain ⟨F', S', fx⟩ := next h' hk
      dsimp only
      refine wpAny_assign_Name (wpAny_storeName_local hx F'.F.ns (fun h2 hn hsb => ?_) (by rw [g.knd]; rfl))
      have F2 : Frm c h2 (setM m' x v) := ⟨loc_set hxc ▸ F'.F.set hn hsb, fun y a hy => by
        have e : y ≠ x := fun q => by rw [q, hxc] at hy; cases hy
        obtain ⟨o, ho, hd⟩ := F'.cell y a hy
        exact ⟨o, (hsb.2 a (F'.off y a hy).1).trans ho, by rw [hd]; unfold setM; rw [if_neg e]⟩, F'.off, F'.inj⟩
      have S2 : Sto c h2 σ' := fun a o e => ⟨(hsb.2 a fun q => (S' a o e).2.1 (.inl q)).trans (S' a o e).1, (S' a o e).2⟩
      have fx2 : Fra c σ s.heap h2 σ' := ⟨fun b o e z l => (hsb.2 b fun q => l (.inl q)).trans (fx.kept b o e z l), fx.grow⟩
      have sw2 : SW I (i + 1) h2 := by
        refine Wk.frame _ _ _ hsw fun b hb o e => (hsb.2 b fun q => ?_).trans e
        subst q
        by_cases e2 : c.env.locals = I
        · exact hIL (.inl e2.symm)
        · obtain ⟨o', ho'⟩ := stay I c.env.locals hb e2
          rcases ho' i m' σ' M.J with q | q
          · exact absurd (Nat.lt_of_lt_of_le (Heap.lt_size q) F.F.above) (Nat.lt_irrefl _)
          · exact (S' _ _ q).2.1 (.inl rfl)
      have key := turn i v m' σ' hlt hP M.J { s with heap := h2, toks := tk' + 1 } F2 S2
      refine wpAny_mono key (fun f s3 A3 => ?_) fun e s3 A3 => ?_
      · obtain ⟨h3, tk3, m3, σ3, rfl, F3, S3, x3, q3⟩ := A3
        have fx3 := fx2.trans x3 S3
        have ends : ∀ {f}, Q f m3 σ3 → After c σ s { s with heap := h3, toks := tk3 } (Q f) := fun q => ⟨h3, tk3, m3, σ3, rfl, F3, S3, fx3, q⟩
        have on : J (i + 1) m3 σ3 → ∃ k', k' < N - i ∧ ∃ i' m' σ' h tk, k' = N - i' ∧ i' ≤ N ∧ ({ s with heap := h3, toks := tk3 } : Shared) = { s with heap := h, toks := tk } ∧ Mid c σ s I (SW I) J i' m' σ' h := by
          intro q
          refine ⟨N - (i + 1), by omega, i + 1, m3, σ3, h3, tk3, rfl, by omega, rfl, F3, S3, fx3, q, ?_, ?_⟩
          · refine Wk.frame _ _ _ sw2 fun b hb o e => ?_
            by_cases e2 : b = I
            · subst e2; exact x3.kept _ o e M.no hIL
            · obtain ⟨o', ho'⟩ := stay I b hb e2
              have h2b : h2.get? b = some o' := by
                rcases ho' i m' σ' M.J with q | q
                · exact F2.keep b o' q
                · exact (S2 b o' q).1
              rw [h2b] at e; cases e
              rcases ho' (i + 1) m3 σ3 q with q | q
              · exact F3.keep b o q
              · exact (S3 b o q).1
          · cases z : σ3 I with
            | none => rfl
            | some o =>
              rcases x3.grow I o z with r | r
              · exact absurd M.no r
              · have : h2.get? I ≠ none := by
                  obtain ⟨o2, ho2⟩ := Option.isSome_iff_exists.mp (some_ I _ h2 sw2)
                  rw [ho2]; exact fun q => nomatch q
                exact absurd r this
        cases f with
        | next => exact on q3
        | cont => exact on q3
        | brk => exact ends q3
        | ret r => exact ends q3
      · exact A3.no.elim
    · have : i = N := by omega
      subst this
      refine Wk.done _ _ _ M.sw fun h' tk' hk => ?_
      obtain ⟨F', S', fx⟩ := next h' hk
      exact wpAny_execs_nil ⟨h', tk', m', σ', rfl, F', S', fx, done m' σ' M.J⟩
  · refine ⟨0, m, σ, s.heap.push io, s.toks, rfl, Nat.zero_le _, rfl, F.keeps pushK, fun a o e => ⟨pushK _ _ (S a o e).1, (S a o e).2⟩, ⟨fun b o e _ _ => pushK b o e, fun a o e => .inl (by rw [e]; exact fun q => nomatch q)⟩, h0, sw0, ?_⟩
    cases z : σ I with
    | none => rfl
    | some o => rw [(S I o z).1] at hIs; cases hIs
end
end Mine

open PySem PySem.W PySem.Calls PyProof.Rows
namespace Mine
section
variable {n : Nat} {c : Cx} {α : Type} {m : Loc} {σ : Store} {X : Value → Loc → Store → Prop}

theorem isList_of {h : Heap} {l : Addr} {vs : List Value} {k : Nat} (S : Sto c h σ) (e : σ l = some (lstO vs k)) : h.IsList l vs.toArray := ⟨_, (S l _ e).1, rfl, k, rfl⟩
theorem isTup_of {h : Heap} {l : Addr} {vs : List Value} (S : Sto c h σ) (e : σ l = some (tupO vs)) : IsTup h l vs.toArray := ⟨_, (S l _ e).1, rfl, 0, rfl⟩
theorem isList_base {h : Heap} {l : Addr} {its : Array Value} (F : Frm c h m) (e : c.h₀.IsList l its) : h.IsList l its := e.at fun o q => F.keep l o q
theorem pushed {s : Shared} (F : Frm c s.heap m) (S : Sto c s.heap σ) (o : Obj) (hf : o.isFreed = false) : Frm c (s.heap.push o) m ∧ Sto c (s.heap.push o) (upd σ s.heap.objs.size o) ∧ Fra c σ s.heap (s.heap.push o) (upd σ s.heap.objs.size o) :=
  grown F S (F.F.push o) (no_end _) ((all_news c s.heap).push F.F o hf)

/-! ### ranges -/
abbrev rngO (a b : Int) (t u v : Tok) : Obj := { cls := .type "range", data := .fields #[.int a t, .int b u, .int 1 v] }
theorem w_range1 {k : Int} {t : Tok} {Q : Value → Loc → Store → Prop} (h : ∀ a t u v, σ a = none → Q (.ref a) m (upd σ a (rngO 0 k t u v))) : W c (call (.type "range") [.int k t]) m σ Q X :=
  fun _ F S => call_range_1 (After.at (pushed F S _ rfl) (h _ _ _ _ S.fresh))
abbrev Turn (c : Cx) (x : Str) (body : List Stmt) (Q : Flow → Loc → Store → Prop) (J : Loc → Store → Prop) (v : Value) (m : Loc) (σ : Store) : Prop :=
  W c (execs body c.env) (setM m x v) σ (fun f m'' σ'' => match f with
      | .next => J m'' σ'' | .cont => J m'' σ'' | .brk => Q .next m'' σ'' | .ret r => Q (.ret r) m'' σ'') NoX

theorem turns_range {x : Str} {tp : Pos} {body : List Stmt} {r : Addr} {i k : Int} {t u v : Tok} {Q : Flow → Loc → Store → Prop} (g : Gnd n c) (hx : c.env.kindOf x = some .local) (hxc : c.env.cells.lookup x = none) (J : Nat → Loc → Store → Prop)
    (hr : σ r = some (rngO i k t u v)) (hi : -(2 ^ 62) ≤ i) (hi' : i < 2 ^ 62) (hk : -(2 ^ 62) ≤ k) (hk' : k < 2 ^ 62) (h0 : J 0 m σ)
    (turn : ∀ j t m' σ', j < (k - i).toNat → J j m' σ' → Turn c x body Q (J (j + 1)) (.int (i + j) t) m' σ')
    (done : ∀ m' σ', J (k - i).toNat m' σ' → Q .next m' σ') : Turns c x tp body (.ref r) m σ Q := by
  have hsm := small_one hi hi' hk hk'
  have hsz : Builtin.Range.rangeSize i k 1 = (((k - i).toNat : Nat) : Int) := by rw [rangeSize_one]; split <;> omega
  refine turns_walk (N := (k - i).toNat) (P := fun j v => ∃ t, v = .int (i + j * 1) t) g hx hxc J (fun I => [I]) (fun I j h => IsRangeIter h I (i + (j : Nat) * 1) (((k - i).toNat : Int) - (j : Nat)) 1) ?_ ?_ ?_ h0 ?_ done
  · intro s F S
    refine ⟨{ cls := .type "range_iterator", data := .fields #[rawInt i, rawInt (Builtin.Range.rangeSize i k 1), rawInt 1] }, rfl, Walks.range g.hh _ i 1 _, ?_, fun Q' E' hq => wpAny_pyIter_range (S r _ hr).1 hsm hq⟩
    show IsRangeIter _ _ _ _ _
    rw [hsz]
    simpa using Heap.get?_push_size s.heap (o := { cls := .type "range_iterator", data := .fields #[rawInt i, rawInt (((k - i).toNat : Nat) : Int), rawInt 1] }) rfl
  · intro I j h e; rw [show h.get? I = _ from e]; rfl
  · intro I b hb hne; exact absurd (List.mem_singleton.mp hb) hne
  · rintro j v m' σ' hj ⟨t, rfl⟩ hJ
    rw [show i + (j : Int) * 1 = i + (j : Int) by omega]
    exact turn j t m' σ' hj hJ

/-! ### lists walked -/
theorem turns_list {x : Str} {tp : Pos} {body : List Stmt} {l : Addr} {vs : List Value} {k : Nat} {Q : Flow → Loc → Store → Prop} (g : Gnd n c) (hx : c.env.kindOf x = some .local) (hxc : c.env.cells.lookup x = none) (J : Nat → Loc → Store → Prop)
    (hl : ∀ i m σ, J i m σ → σ l = some (lstO vs k)) (h0 : J 0 m σ)
    (turn : ∀ j v m' σ', vs[j]? = some v → J j m' σ' → Turn c x body Q (J (j + 1)) v m' σ')
    (done : ∀ m' σ', J vs.length m' σ' → Q .next m' σ') : Turns c x tp body (.ref l) m σ Q := by
  refine turns_walk (N := vs.length) (P := fun j v => vs.toArray[j]? = some v) g hx hxc J (fun I => [I, l]) (fun I j h => h.IsListIter I l j ∧ h.IsList l vs.toArray) ?_ ?_ ?_ h0 ?_ done
  · intro s F S
    have hls := isList_of S (hl _ _ _ h0)
    have hne : l ≠ s.heap.objs.size := Nat.ne_of_lt (S.lt (hl _ _ _ h0))
    have Wk := Walks.list (prog := c.g.prog) (w := c.g.w) g.hh s.heap.objs.size l hne vs.toArray
    rw [List.size_toArray] at Wk
    exact ⟨{ cls := .type "list_iterator", data := .fields #[.ref l, .int 0 0] }, rfl, Wk, ⟨⟨_, Heap.get?_push_size _ rfl, rfl, rfl⟩, hls.at fun o e => Heap.get?_push_of_some _ e⟩, fun Q' E' hq => wpAny_pyIter_list hls hq⟩
  · rintro I j h ⟨⟨o, ho, _⟩, _⟩; rw [ho]; rfl
  · intro I b hb hne
    rcases List.mem_cons.mp hb with q | q
    · exact absurd q hne
    · rw [List.mem_singleton.mp q]; exact ⟨_, fun i m σ q => .inr (hl i m σ q)⟩
  · intro j v m' σ' _ hP hJ
    exact turn j v m' σ' (by simpa using hP) hJ
/-! ### lists, tuples: length, items -/
theorem w_len {l : Addr} {vs : List Value} {k : Nat} {Q : Value → Loc → Store → Prop} (hl : σ l = some (lstO vs k)) (hz : vs.length ≤ sizeLine) (h : ∀ t, Q (.int vs.length t) m σ) : W c (call (.builtin "len") [.ref l]) m σ Q X :=
  fun _ F S => call_len_list (isList_of S hl) (by rw [sizeLine_eq] at hz; simp; omega) (After.tok F S (by simpa using h _))
theorem w_len_base {l : Addr} {vs : List Value} {Q : Value → Loc → Store → Prop} (hl : c.h₀.IsList l vs.toArray) (hz : vs.length ≤ sizeLine) (h : ∀ t, Q (.int vs.length t) m σ) : W c (call (.builtin "len") [.ref l]) m σ Q X :=
  fun _ F S => call_len_list (isList_base F hl) (by rw [sizeLine_eq] at hz; simp; omega) (After.tok F S (by simpa using h _))
theorem w_item {value slice : Expr} {l : Addr} {vs : List Value} {k : Nat} {i : Int} {t : Tok} {v : Value} {Q : Value → Loc → Store → Prop} (hl : σ l = some (lstO vs k)) (h0 : 0 ≤ i) (h1 : i < 2 ^ 63) (hv : vs[i.toNat]? = some v) (h : Q v m σ)
    (hs : subscripted slice false (.ref l) (.int i t) = operate [.ref l, .int i t] (getItem (.ref l) (.int i t)) := by with_unfolding_all rfl) : W c (subscriptTail value slice (.ref l) (.int i t)) m σ Q X :=
  fun _ F S => tail_any (isList_of S hl).typeIs slot_list_getitem.lookup (wpAny_getItem_list (isList_of S hl) h0 h1 (by simpa using hv) (After.here F S h)) hs
theorem w_item_base {value slice : Expr} {l : Addr} {vs : List Value} {i : Int} {t : Tok} {v : Value} {Q : Value → Loc → Store → Prop} (hl : c.h₀.IsList l vs.toArray) (h0 : 0 ≤ i) (h1 : i < 2 ^ 63) (hv : vs[i.toNat]? = some v) (h : Q v m σ)
    (hs : subscripted slice false (.ref l) (.int i t) = operate [.ref l, .int i t] (getItem (.ref l) (.int i t)) := by with_unfolding_all rfl) : W c (subscriptTail value slice (.ref l) (.int i t)) m σ Q X :=
  fun _ F S => tail_any (isList_base F hl).typeIs slot_list_getitem.lookup (wpAny_getItem_list (isList_base F hl) h0 h1 (by simpa using hv) (After.here F S h)) hs
theorem w_item_tup {value slice : Expr} {l : Addr} {vs : List Value} {i : Int} {j : Nat} {t : Tok} {v : Value} {Q : Value → Loc → Store → Prop} (hl : σ l = some (tupO vs)) (h0 : -(2 ^ 63) ≤ i) (h1 : i < 2 ^ 63) (hj : seqIndex? i vs.length = some j) (hv : vs[j]? = some v) (h : Q v m σ)
    (hs : subscripted slice false (.ref l) (.int i t) = operate [.ref l, .int i t] (getItem (.ref l) (.int i t)) := by with_unfolding_all rfl) : W c (subscriptTail value slice (.ref l) (.int i t)) m σ Q X :=
  fun _ F S => item_tupleT (isTup_of S hl) h0 h1 hj hv (After.here F S h) hs

/-! ### lists changed -/
theorem w_lmeth {l : Addr} {vs : List Value} {k : Nat} {name : Str} {id : String} {pl : Sem Bool} {Q : Value × List Value → Loc → Store → Prop} (hl : σ l = some (lstO vs k)) (slot : Slot "list" name id) (hty : typeOf (.builtin id) = Pure.pure (.type "method_descriptor"))
    (h : Q (.builtin id, [.ref l]) m σ) : W c (getMethod (.ref l) name pl) m σ Q X :=
  fun _ F S => getMethod_builtin ⟨_, (S l _ hl).1, rfl⟩ PySem.F.plainAttrs_list slot hty (fun a e => by cases e; exact ⟨_, (S l _ hl).1, rfl⟩) (After.here F S h)
theorem w_append {l : Addr} {vs : List Value} {k : Nat} {v : Value} {Q : Value → Loc → Store → Prop} (hl : σ l = some (lstO vs k)) (hz : vs.length ≤ sizeLine) (h : Q .none m (upd σ l (lstO (vs ++ [v]) (k + 1)))) : W c (call (.builtin "list.append") [.ref l, v]) m σ Q X :=
  fun s F S => by
    obtain ⟨l', U, back⟩ := turned (o' := lstO (vs ++ [v]) (k + 1)) F S hl
    refine append_K F.F (all_news c s.heap) (its := vs.toArray) (n := k) (news' := l') (by simpa using U) (fun h' F' N' => After.at (back h' F' N') h) (by simpa using hz)
theorem w_pop {l : Addr} {vs : List Value} {k j : Nat} {i : Int} {t : Tok} {v : Value} {Q : Value → Loc → Store → Prop} (hl : σ l = some (lstO vs k)) (hz : vs.length ≤ sizeLine) (hi : i = (j : Int)) (hv : vs[j]? = some v)
    (h : Q v m (upd σ l (lstO (vs.eraseIdx j) (k + 1)))) : W c (call (.builtin "list.pop") [.ref l, .int i t]) m σ Q X :=
  fun s F S => by
    have hj : j < vs.length := by
      rcases Nat.lt_or_ge j vs.length with q | q
      · exact q
      · rw [List.getElem?_eq_none q] at hv; cases hv
    have ev : vs[j] = v := by rw [List.getElem?_eq_getElem hj] at hv; exact Option.some.inj hv
    have e1 : vs = vs.take j ++ v :: vs.drop (j + 1) := by
      rw [← ev, List.getElem_cons_drop, List.take_append_drop]
    have e2 : vs.eraseIdx j = vs.take j ++ vs.drop (j + 1) := List.eraseIdx_eq_take_drop_succ vs j
    obtain ⟨l', U, back⟩ := turned (o' := lstO (vs.eraseIdx j) (k + 1)) F S hl
    have z := S l _ hl
    subst hi
    rw [sizeLine_eq] at hz
    have cut : ∀ (p q : List Value), kl_cut (p ++ v :: q) p.length = some (p, v, q) := by
      intro p q
      induction p with
      | nil => rfl
      | cons x p ih => show (match kl_cut (p ++ v :: q) p.length with | some (p', y, q') => some (x :: p', y, q') | none => none) = _; rw [ih]
    have cutv : kl_cut vs j = some (vs.take j, v, vs.drop (j + 1)) := by
      have := cut (vs.take j) (vs.drop (j + 1))
      rw [← e1, List.length_take, Nat.min_eq_left (by omega)] at this
      exact this
    refine kl_popAt F.F (all_news c s.heap) (its := vs.toArray) (k := j) (p := vs.take j) (q := vs.drop (j + 1)) (y := v) ?_ ?_ cutv (by rw [← e2]; exact U) (by rw [sizeLine_eq]; exact hz) fun h' F' N' => After.at (back h' F' N') h
    · unfold Builtin.List.listFitsIndex; simp; omega
    · unfold seqIndex?; simp; omega
theorem w_copy {l : Addr} {vs : List Value} {k : Nat} {Q : Value → Loc → Store → Prop} (hl : σ l = some (lstO vs k)) (hz : vs.length ≤ sizeLine) (h : ∀ a k', σ a = none → Q (.ref a) m (upd σ a (lstO vs k'))) : W c (call (.type "list") [.ref l]) m σ Q X :=
  fun s F S => call_list_seq l (.inl rfl) (S l _ hl).1 rfl rfl (fun h' c' hk hD => After.at (grown F S (F.F.keeps hk) (no_end _) (news_pushed F.F (all_news c s.heap) hk hD rfl)) (h _ _ S.fresh)) (by simpa using hz)
end
end Mine

open PySem PySem.W PySem.Calls PyProof.Rows
namespace Mine
section
variable {n : Nat} {c : Cx} {env : Env} {α : Type} {m : Loc} {σ : Store} {X : Value → Loc → Store → Prop}

/-! ### cells of a frame -/
theorem bindL_eq (k : Str → Option NameKind) : ∀ (binds : List (Str × Value)) (m : Loc) (x : Str), bindL k binds m x = if k x = some .local then (binds.reverse.lookup x).or (m x) else m x
  | [], m, x => by simp [bindL]
  | (y, v) :: r, m, x => by
    rw [bindL, bindL_eq k r]
    have e : ((y, v) :: r).reverse.lookup x = (r.reverse.lookup x).or (if x = y then some v else none) := by
      rw [List.reverse_cons, List.lookup_append]
      congr 1
      by_cases q : x = y
      · subst q; simp [List.lookup]
      · have : (x == y) = false := by simpa using q
        simp [List.lookup, this, q]
    rw [e]
    by_cases h : k x = some .local
    · rw [if_pos h, if_pos h, Option.or_assoc]
      congr 1
      by_cases q : x = y
      · subst q; simp [h]
      · by_cases h2 : k y = some .local
        · simp [h2, q]
        · simp [h2, q]
    · rw [if_neg h, if_neg h]
      by_cases h2 : k y = some .local
      · have : x ≠ y := fun q => h (q ▸ h2)
        simp [h2, this]
      · simp [h2]
theorem bindC_eq (k : Str → Option NameKind) : ∀ (binds : List (Str × Value)) (m : Loc) (x : Str), bindC k binds m x = if k x = some .local then m x else (binds.reverse.lookup x).or (m x)
  | [], m, x => by simp [bindC]
  | (y, v) :: r, m, x => by
    rw [bindC, bindC_eq k r]
    have e : ((y, v) :: r).reverse.lookup x = (r.reverse.lookup x).or (if x = y then some v else none) := by
      rw [List.reverse_cons, List.lookup_append]
      congr 1
      by_cases q : x = y
      · subst q; simp [List.lookup]
      · have : (x == y) = false := by simpa using q
        simp [List.lookup, this, q]
    rw [e]
    by_cases h : k x = some .local
    · rw [if_pos h, if_pos h]
      by_cases h2 : k y = some .local
      · simp [h2]
      · have : x ≠ y := fun q => h2 (q ▸ h)
        simp [h2, this]
    · rw [if_neg h, if_neg h, Option.or_assoc]
      congr 1
      by_cases q : x = y
      · subst q; simp [h]
      · by_cases h2 : k y = some .local
        · simp [h2, q]
        · simp [h2, q]
theorem cf_apart : ∀ (names : List (Str × NameKind)) (n : Nat) (acc : List (Str × Addr)), (∀ p ∈ acc, p.2 < n) → acc.Pairwise (fun x y => x.2 ≠ y.2) → (cellsFrom n names acc).Pairwise fun x y => x.2 ≠ y.2
  | [], _, _, _, h => h
  | (y, k) :: r, n, acc, h1, h2 => by
    unfold cellsFrom
    split
    · refine cf_apart r (n + 1) _ (fun p hp => ?_) (List.pairwise_cons.mpr ⟨fun p hp => Nat.ne_of_gt (h1 p hp), h2⟩)
      rcases List.mem_cons.mp hp with rfl | hp
      · exact Nat.lt_succ_self _
      · exact Nat.lt_succ_of_lt (h1 p hp)
    · exact cf_apart r n acc h1 h2
theorem mem_of_look {l : List (Str × Addr)} {x : Str} {a : Addr} (h : l.lookup x = some a) : (x, a) ∈ l := by
  induction l with
  | nil => cases h
  | cons p r ih =>
    rw [List.lookup_cons] at h
    by_cases q : (x == p.1) = true
    · rw [q] at h; cases h; rw [eq_of_beq q]; exact .head _
    · have : (x == p.1) = false := by simpa using q
      rw [this] at h; exact .tail _ (ih h)
theorem apart_inj {l : List (Str × Addr)} (h : l.Pairwise fun x y => x.2 ≠ y.2) {x y : Str} {a : Addr} (hx : (x, a) ∈ l) (hy : (y, a) ∈ l) : x = y := by
  induction l with
  | nil => cases hx
  | cons p r ih =>
    obtain ⟨h1, h2⟩ := List.pairwise_cons.mp h
    rcases List.mem_cons.mp hx with e | hx
    · rcases List.mem_cons.mp hy with e' | hy
      · rw [← e'] at e; exact (Prod.mk.inj e).1
      · exact absurd (by rw [← e]) (h1 _ hy)
    · rcases List.mem_cons.mp hy with e' | hy
      · exact absurd (by rw [← e']) (h1 _ hx)
      · exact ih h2 hx hy
theorem cells_at {cm : Loc} {cs : List (Str × Addr)} {cells : List (Addr × Obj)} (Y : CellsAre cm cs cells) {x : Str} {a : Addr} (h : cs.lookup x = some a) : ∃ o, (a, o) ∈ cells ∧ o.data = .cell (cm x) := by
  induction Y with
  | nil => cases h
  | @cons y c o cs cells hd _ ih =>
    rw [List.lookup_cons] at h
    by_cases q : (x == y) = true
    · rw [q] at h; cases h; rw [eq_of_beq q]; exact ⟨_, .head _, hd⟩
    · have : (x == y) = false := by simpa using q
      rw [this] at h
      obtain ⟨o, ho, hd⟩ := ih h
      exact ⟨o, .tail _ ho, hd⟩
/-- a frame with cells, entered -/
theorem frm_cells {c : Cx} {h₁ : Heap} {binds : List (Str × Value)} {cells : List (Addr × Obj)} {k : Nat} (hc : c.env.cells = cellsFrom k c.env.scope.names [])
    (F : Fr c.h₀ c.env.locals h₁ (bindL c.env.kindOf binds fun _ => none)) (N : News c.h₀ c.env.locals h₁ cells) (Y : CellsAre (bindC c.env.kindOf binds fun _ => none) c.env.cells cells)
    (hkind : ∀ y ∈ binds, c.env.kindOf y.1 = some .local ∨ c.env.kindOf y.1 = some .cell) (hcl : ∀ x a, c.env.cells.lookup x = some a → c.env.kindOf x = some .cell) (hcl' : ∀ x, c.env.kindOf x = some .cell → (c.env.cells.lookup x).isSome = true) :
    Frm c h₁ (fun y => binds.reverse.lookup y) := by
  have e1 : loc c (fun y => binds.reverse.lookup y) = bindL c.env.kindOf binds fun _ => none := by
    funext x
    rw [bindL_eq]
    unfold loc
    cases q : c.env.cells.lookup x with
    | some a => rw [hcl x a q]; simp
    | none =>
      simp only [Option.isSome_none, Bool.false_eq_true, if_false]
      by_cases h : c.env.kindOf x = some .local
      · rw [if_pos h]; simp
      · rw [if_neg h]
        cases z : binds.reverse.lookup x with
        | none => rfl
        | some v =>
          exfalso
          have mem : ∃ y ∈ binds, y.1 = x := by
            have : ∀ l : List (Str × Value), l.lookup x = some v → ∃ y ∈ l, y.1 = x := by
              intro l
              induction l with
              | nil => intro h; cases h
              | cons p r ih =>
                intro h
                rw [List.lookup_cons] at h
                by_cases q : (x == p.1) = true
                · exact ⟨p, .head _, (eq_of_beq q).symm⟩
                · have : (x == p.1) = false := by simpa using q
                  rw [this] at h
                  obtain ⟨y, hy, e⟩ := ih h
                  exact ⟨y, .tail _ hy, e⟩
            obtain ⟨y, hy, e⟩ := this _ z
            exact ⟨y, List.mem_reverse.mp hy, e⟩
          obtain ⟨y, hy, e⟩ := mem
          rcases hkind y hy with k | k
          · exact h (e ▸ k)
          · have := hcl' x (e ▸ k); rw [q] at this; cases this
  have ap : c.env.cells.Pairwise fun x y => x.2 ≠ y.2 := by rw [hc]; exact cf_apart _ _ _ (fun _ h => nomatch h) List.Pairwise.nil
  refine ⟨e1 ▸ F, fun x a hx => ?_, fun x a hx => ?_, fun x y a hx hy => apart_inj ap (mem_of_look hx) (mem_of_look hy)⟩
  · obtain ⟨o, ho, hd⟩ := cells_at Y hx
    refine ⟨o, (N _ ho).1, ?_⟩
    rw [hd, bindC_eq, hcl x a hx]; simp
  · obtain ⟨o, ho, _⟩ := cells_at Y hx
    exact ⟨(N _ ho).2.1, (N _ ho).2.2⟩
theorem cf_kind : ∀ (names : List (Str × NameKind)) (k : Nat) (acc : List (Str × Addr)) (p : Str × Addr), p ∈ cellsFrom k names acc → p ∈ acc ∨ (p.1, NameKind.cell) ∈ names
  | [], _, _, _, h => .inl h
  | (y, kd) :: r, k, acc, p, h => by
    unfold cellsFrom at h
    split at h
    · rename_i hk
      rcases cf_kind r (k + 1) _ p h with q | q
      · rcases List.mem_cons.mp q with rfl | q
        · exact .inr (by rw [eq_of_beq hk]; exact .head _)
        · exact .inl q
      · exact .inr (.tail _ q)
    · rcases cf_kind r k acc p h with q | q
      · exact .inl q
      · exact .inr (.tail _ q)
/-- no name stands twice in the table -/
def onceNames (l : List (Str × NameKind)) : Bool := (l.map (·.1)).eraseDups.length == l.length
theorem look_mem_nodup {l : List (Str × NameKind)} (h : (l.map (·.1)).Nodup) {x : Str} {k : NameKind} (hm : (x, k) ∈ l) : l.lookup x = some k := by
  induction l with
  | nil => cases hm
  | cons p r ih =>
    rw [List.lookup_cons]
    obtain ⟨h1, h2⟩ := List.nodup_cons.mp h
    rcases List.mem_cons.mp hm with rfl | hm
    · simp
    · have : (x == p.1) = false := by
        apply beq_eq_false_iff_ne.mpr
        intro e
        exact h1 (List.mem_map.mpr ⟨(x, k), hm, e⟩)
      rw [this]; exact ih h2 hm

theorem fn_of_bodyC {g : Pg} {f : Addr} {args : List Value} {Q X : Value → Store → Prop} {name qual : Str} {params : Arguments} {body : List Stmt} {scope : Scope} {dV kV doc pm cdv ct oc : Value} {an od : Option Addr} {osl : Array (Option Value)} {binds : List (Str × Value)}
    (ho : g.K.lookup f = some ⟨oc, od, .func (fnX name qual params body scope [] dV kV doc pm an cdv ct), osl⟩) (hcd : codeIn g.K cdv qual = true)
    (hb : bindArgs (fnX name qual params body scope [] dV kV doc pm an cdv ct) ⟨args, []⟩ = pure binds) (hkind : (binds.all fun y => scope.names.lookup y.1 == some .local || scope.names.lookup y.1 == some .cell) = true)
    (hnd : (scope.names.map (·.1)).Nodup) (hco : scope.isCoroutine = false) (hgen : scope.isGenerator = false) (hk : scope.kind = .function)
    (h : ∀ c : Cx, c.g = g → Gnd n c → c.env.scope = scope → c.env.cells = cellsFrom (c.env.locals + 1) scope.names [] → W c (execs body c.env) (fun y => binds.reverse.lookup y) σ (fun fl _ σ' => Q (match fl with | .ret v => v | _ => .none) σ') (fun _ _ _ => False)) :
    Fn g (n + 1) (.ref f) args σ Q X := by
  intro A env h₀ m s G F S
  obtain ⟨A₀, outer, B, hA⟩ := G.B
  dsimp only at B hA
  have hfr : env.frame = some env.locals := G.fr
  have hke : env.scope.kind = .function := G.knd
  have N := all_news ⟨g, A, env, h₀⟩ s.heap
  have KX : g.K.In s.heap := G.now F
  have hnd' : ((cellsFrom 0 scope.names []).map (·.1)).Nodup := by
    have : ∀ (names : List (Str × NameKind)) (k : Nat) (acc : List (Str × Addr)), (names.map (·.1)).Nodup → (acc.map (·.1)).Nodup → (∀ p ∈ acc, p.1 ∉ names.map (·.1)) → ((cellsFrom k names acc).map (·.1)).Nodup := by
      intro names
      induction names with
      | nil => intro k acc _ h _; exact h
      | cons p r ih =>
        obtain ⟨y, kd⟩ := p
        intro k acc h1 h2 h3
        obtain ⟨a1, a2⟩ := List.nodup_cons.mp h1
        unfold cellsFrom
        split
        · refine ih (k + 1) _ a2 (List.nodup_cons.mpr ⟨fun q => ?_, h2⟩) fun p hp => ?_
          · obtain ⟨p, hp, e⟩ := List.mem_map.mp q
            exact h3 p hp (by rw [e]; exact .head _)
          · rcases List.mem_cons.mp hp with rfl | hp
            · exact a1
            · exact fun q => h3 p hp (.tail _ q)
        · exact ih k acc a2 h2 fun p hp q => h3 p hp (.tail _ q)
    exact this _ 0 [] hnd List.nodup_nil (fun _ h => nomatch h)
  refine callX_cells B F.F N G.T.nolimit hA hfr hke (KX _ _ ho) rfl (codeRec_of KX hcd) (by have := G.dep; dsimp only at this; omega) (BindsTo.of_eq hb) (kindsX hkind) hnd' ?_ hco hgen hk
  intro g' L' h₁ tk cells FG F' N' Y B' st young
  let c' : Cx := ⟨g, A.deeper (envOfC qual scope L' f cdv), envOfC qual scope L' f cdv, g'⟩
  have G' : Gnd n c' := by
    refine ⟨⟨A, env :: outer, B', by show (A.frames.map _) = _; rw [hA]; rfl⟩, rfl, hk, rfl, rfl, G.X.keeps st, G.T.keeps st, G.hh, ?_, ?_, G.base.at fun o e => st _ o e, G.XB, G.TB, G.baseB⟩
    · have := G.dep
      show A.depth + 1 + 2 * n < recursionLimit
      dsimp only at this; omega
    · have := G.un
      show A.units + 3 + 20 * n + 20 < cLine
      dsimp only at this; omega
  have hbk : ∀ y ∈ binds, c'.env.kindOf y.1 = some .local ∨ c'.env.kindOf y.1 = some .cell := fun y hy => by
    have := List.all_eq_true.mp hkind y hy
    rcases Bool.or_eq_true_iff.mp this with q | q
    · exact .inl (beq_iff_eq.mp q)
    · exact .inr (beq_iff_eq.mp q)
  have hcl : ∀ x a, c'.env.cells.lookup x = some a → c'.env.kindOf x = some .cell := fun x a hx => by
    rcases cf_kind scope.names (L' + 1) [] (x, a) (mem_of_look hx) with q | q
    · cases q
    · exact look_mem_nodup hnd q
  have NC : News g' L' h₁ cells := fun p hp => N' p (List.mem_append.mpr (.inl hp))
  have NO : News g' L' h₁ (allOf ⟨g, A, env, h₀⟩ s.heap) := fun p hp => N' p (List.mem_append.mpr (.inr hp))
  have F1 : Frm c' h₁ (fun y => binds.reverse.lookup y) := frm_cells (k := L' + 1) rfl F' NC Y hbk hcl fun x hx => cellsFrom_some _ _ _ (.inl hx)
  have yng : ∀ b o, s.heap.get? b = some o → ¬ FA c' b := by
    intro b o e q
    have hlt : b < L' := by
      by_cases l : b = env.locals
      · obtain ⟨oL, _, _, hL, _⟩ := FG.ns
        exact Nat.lt_of_lt_of_le (Heap.lt_size (show g'.get? b = some oL from l ▸ hL)) F'.above
      · cases q : h₀.get? b with
        | some y => exact Nat.lt_of_lt_of_le (Heap.lt_size (st b y q)) F'.above
        | none => exact young (b, o) (mem_lst.mpr ⟨Heap.lt_size e, full_some.mpr ⟨l, q, e⟩⟩)
    rcases q with q | ⟨x, hx⟩
    · have hb : b = L' := q
      rw [hb] at hlt; exact absurd hlt (Nat.lt_irrefl _)
    · have ge : ∀ (names : List (Str × NameKind)) (k : Nat) (acc : List (Str × Addr)), (∀ p ∈ acc, L' < p.2) → L' < k → ∀ p ∈ cellsFrom k names acc, L' < p.2 := by
        intro names
        induction names with
        | nil => intro k acc h _; exact h
        | cons p r ih =>
          obtain ⟨y, kd⟩ := p
          intro k acc h1 h2
          unfold cellsFrom
          split
          · exact ih (k + 1) _ (fun p hp => by rcases List.mem_cons.mp hp with rfl | hp; exact h2; exact h1 p hp) (Nat.lt_succ_of_lt h2)
          · exact ih k acc h1 h2
      have := ge scope.names (L' + 1) [] (fun _ h => nomatch h) (Nat.lt_succ_self _) (x, b) (mem_of_look hx)
      exact absurd (Nat.lt_trans this hlt) (Nat.lt_irrefl _)
  have S1 : Sto c' h₁ σ := fun a o e => by
    have mem : (a, o) ∈ allOf ⟨g, A, env, h₀⟩ s.heap := mem_lst.mpr ⟨S.lt e, S.full (c := ⟨g, A, env, h₀⟩) a o e⟩
    exact ⟨(NO _ mem).1, yng a o (S a o e).1, (NO _ mem).2.2⟩
  have key := h c' rfl G' rfl rfl { s with heap := h₁, toks := tk } F1 S1
  have back := fun {h' : Heap} {m'' : Loc} {σ' : Store} => called_back (c := ⟨g, A, env, h₀⟩) (c' := c') (m := m) (m' := fun y => binds.reverse.lookup y) (s := s) (σ := σ) (h₁ := h₁) (h' := h') (m'' := m'') (σ' := σ') F FG st NO F1.F yng S
  refine wpAny_mono key (fun fl s' Aft => ?_) fun e s' Aft => ?_
  · obtain ⟨h', tk, m', σ', rfl, F'', S'', x, q⟩ := Aft
    obtain ⟨a1, a2, a3⟩ := back F'' S'' x
    exact ⟨L', _, [], F''.F, fun _ hp => (nomatch hp), fun _ _ => ⟨h', tk, m, σ', rfl, a1, a2, a3, rfl, q⟩⟩
  · exact Aft.no.elim
end
end Mine

open PySem PySem.W PySem.Calls PyProof.Rows
namespace Mine
section
variable {n : Nat} {c : Cx} {env : Env} {α : Type} {m : Loc} {σ : Store} {X : Value → Loc → Store → Prop}

/-! ### a class called -/
theorem fn_make {g : Pg} {C fI : Addr} {args : List Value} {Q X : Value → Store → Prop} (hm : makesIn g.K C = true) (hi : findIn g.K (.ref C) "__init__" = some (some (.ref fI))) (hf : isFn g.K (.ref fI) = true)
    (h : ∀ x dx, σ x = none → σ dx = none → x ≠ dx → Fn g n (.ref fI) (.ref x :: args) (upd (upd σ dx (dictOf [] 0)) x (instObj C dx)) (fun v σ' => v = .none ∧ Q (.ref x) σ') X) : Fn g (n + 1) (.ref C) args σ Q X := by
  intro A env h₀ m s G F S
  refine W.make_K F.F (all_news ⟨g, A, env, h₀⟩ s.heap) (G.now F) hm hi (beq_iff_eq.mp hf) fun x dx h' F' N' hlt hxd => ?_
  have G' : Gnd n ⟨g, A.under (.builtin "type.__call__" ⟨.ref C :: args, []⟩), env, h₀⟩ := by
    obtain ⟨A₀, outer, B, hA⟩ := G.B
    refine ⟨⟨A₀, outer, B, hA⟩, G.fr, G.knd, G.glob, G.bi, G.X, G.T, G.hh, ?_, ?_, G.base, G.XB, G.TB, G.baseB⟩
    · have := G.dep
      show A.depth + 1 + 2 * n < recursionLimit
      dsimp only at this; omega
    · have := G.un
      show A.units + 1 + 20 * n + 20 < cLine
      dsimp only at this; omega
  have new : ∀ b o, s.heap.get? b = some o → b ≠ env.locals → h'.get? b = some o := fun b o e l => kept_of (c := ⟨g, A, env, h₀⟩) F F' e l fun z => (N' (b, o) (.tail _ (.tail _ (mem_lst.mpr ⟨Heap.lt_size e, z⟩)))).1
  have hdx : s.heap.get? dx = none := by
    cases q : s.heap.get? dx with
    | none => rfl
    | some o =>
      exfalso
      have N2 := (N' (dx, emptyDict) (.tail _ (.head _)))
      by_cases l : dx = env.locals
      · exact N2.2.1 l
      · exact absurd (hlt (dx, o) (mem_lst.mpr ⟨Heap.lt_size q, full_some.mpr ⟨l, N2.2.2, q⟩⟩)) (Nat.lt_irrefl _)
  have hx : s.heap.get? x = none := by
    cases q : s.heap.get? x with
    | none => rfl
    | some o =>
      exfalso
      have N2 := (N' (x, instObj C dx) (.head _))
      by_cases l : x = env.locals
      · exact N2.2.1 l
      · exact absurd (Nat.lt_trans hxd (hlt (x, o) (mem_lst.mpr ⟨Heap.lt_size q, full_some.mpr ⟨l, N2.2.2, q⟩⟩))) (Nat.lt_irrefl _)
  have F1 : Frm ⟨g, A, env, h₀⟩ h' m := F.on F' fun y b hb o e => new b o e (F.off y b hb).1
  have none_of : ∀ a, s.heap.get? a = none → σ a = none := fun a e => by
    cases q : σ a with
    | none => rfl
    | some o => rw [(S a o q).1] at e; cases e
  have hne : x ≠ dx := Nat.ne_of_gt hxd
  have S1 : Sto ⟨g, A, env, h₀⟩ h' (upd (upd σ dx (dictOf [] 0)) x (instObj C dx)) := fun a o e => by
    by_cases q : a = x
    · subst q; rw [upd_same] at e; cases e
      have := N' (a, instObj C dx) (.head _)
      exact ⟨this.1, F.notNew hx, this.2.2⟩
    · rw [upd_ne q] at e
      by_cases q2 : a = dx
      · subst q2; rw [upd_same] at e; cases e
        have := N' (a, emptyDict) (.tail _ (.head _))
        exact ⟨this.1, F.notNew hdx, this.2.2⟩
      · rw [upd_ne q2] at e
        exact ⟨new a o (S a o e).1 fun z => (S a o e).2.1 (.inl z), (S a o e).2⟩
  have fx : Fra ⟨g, A, env, h₀⟩ σ s.heap h' (upd (upd σ dx (dictOf [] 0)) x (instObj C dx)) := ⟨fun b o e _ l => new b o e fun z => l (.inl z), fun a o e => by
    by_cases q : a = x
    · subst q; exact .inr hx
    · rw [upd_ne q] at e
      by_cases q2 : a = dx
      · subst q2; exact .inr hdx
      · rw [upd_ne q2] at e; exact .inl (by rw [e]; exact fun q => nomatch q)⟩
  refine codeAny_mono (h x dx (none_of x hx) (none_of dx hdx) hne _ env h₀ m { s with heap := h' } G' ⟨F1.F, F1.cell, F1.off, F1.inj⟩ (fun a o e => S1 a o e)) fun r s' z => ?_
  rcases r with e | (_ | _ | _ | v)
  · rcases z with ⟨⟨h2, tk, m2, σ2, rfl, F2, S2, x2, q⟩, r⟩ | ⟨h2, tk, m2, σ2, e', C', rfl, rfl, ⟨⟨B, a0, outer, f1, f2, f3, f4, f5, f6⟩, ns, off, grow⟩, q⟩
    · have x3 : Fra ⟨g, A, env, h₀⟩ _ h' h2 σ2 := ⟨x2.kept, x2.grow⟩
      exact .inl ⟨⟨h2, tk, m2, σ2, rfl, ⟨F2.F, F2.cell, F2.off, F2.inj⟩, fun a o e => S2 a o e, fx.trans x3 (fun a o e => S2 a o e), q⟩, r⟩
    · have fl : Flies ⟨g, A, env, h₀⟩ _ h' h2 m2 σ2 e' C' := ⟨⟨B, a0, outer, f1, f2, f3, f4, f5, f6⟩, ns, off, grow⟩
      exact .inr ⟨h2, tk, m2, σ2, e', C', rfl, rfl, fl.on (s := s) (s₁ := { s with heap := h' }) (tk := s.toks) rfl fx, q⟩
  · exact z
  · exact z
  · exact z
  · obtain ⟨h2, tk, m2, σ2, rfl, F2, S2, x2, q1, q2, q3⟩ := z
    have x3 : Fra ⟨g, A, env, h₀⟩ _ h' h2 σ2 := ⟨x2.kept, x2.grow⟩
    exact ⟨q2, h2, tk, m2, σ2, rfl, ⟨F2.F, F2.cell, F2.off, F2.inj⟩, fun a o e => S2 a o e, fx.trans x3 (fun a o e => S2 a o e), q1, q3⟩

/-! ### the law's own call -/
theorem top_call {g : Pg} {s₁ : Shared} {name : Str} {params : Arguments} {body : List Stmt} {scope : Scope} {pm cd doc : Value} {fa : Addr} {o : Obj} {args : List Value} {binds : List (Str × Value)}
    (T : Top g.p g.loose g.mean g.mg g.mb s₁.heap) (KX : g.K.In s₁.heap) (hbase : s₁.heap.IsList g.bl g.bv.toArray) (hgh : g.h = s₁.heap) (ho : s₁.heap.get? fa = some o) (hd : o.data = .func (docDef name params body scope pm cd doc)) (hcd : s₁.heap.CodeRec cd name)
    (hb : bindArgs (docDef name params body scope pm cd doc) ⟨args, []⟩ = pure binds) (hkind : (binds.all fun y => scope.names.lookup y.1 == some .local || scope.names.lookup y.1 == some .cell) = true)
    (hnd : (scope.names.map (·.1)).Nodup) (hnd' : ((cellsFrom 0 scope.names []).map (·.1)).Nodup) (hco : scope.isCoroutine = false) (hgen : scope.isGenerator = false) (hk : scope.kind = .function)
    (h : ∀ c : Cx, c.g = g → Gnd 300 c → c.env.scope = scope → c.env.cells = cellsFrom (c.env.locals + 1) scope.names [] → c.h₀ = s₁.heap → c.A.frames = some [c.env] →
      W c (execs body c.env) (fun y => binds.reverse.lookup y) (fun _ => none) (fun fl _ _ => (match fl with | .ret v => v | _ => .none) = .bool true) NoX) :
    codeAny (model g.prog g.w) callerA (.call (.ref fa) ⟨args, []⟩) (fun r s' => r = .ok (.ret (.bool true)) ∧ (∀ b o, s₁.heap.get? b = some o → s'.heap.get? b = some o) ∧ s'.os = s₁.os ∧ s'.gens = s₁.gens) s₁ := by
  refine call_cellsN (by decide) ho hd T.nolimit hcd hb (fun x hx => kindsX hkind _ x hx) hnd' ?_ hco hgen hk
  intro h₁ tk cells F' NC Y
  let c' : Cx := ⟨g, callerA.deeper (envOfC name scope s₁.heap.objs.size fa cd), envOfC name scope s₁.heap.objs.size fa cd, s₁.heap⟩
  have G' : Gnd 300 c' := ⟨⟨callerA, [], by show Below callerA g.h [] s₁.heap; rw [hgh]; exact below_caller s₁.heap, rfl⟩, rfl, hk, rfl, rfl, KX, T, rfl, by show 1 + claimMargin + 1 + 2 * 300 < recursionLimit; decide, by show 4 + 3 + 20 * 300 + 20 < cLine; decide, hbase, by show g.K.In g.h; rw [hgh]; exact KX, by show Top g.p g.loose g.mean g.mg g.mb g.h; rw [hgh]; exact T, by show g.h.IsList g.bl g.bv.toArray; rw [hgh]; exact hbase⟩
  have hbk : ∀ y ∈ binds, c'.env.kindOf y.1 = some .local ∨ c'.env.kindOf y.1 = some .cell := fun y hy => by
    have := List.all_eq_true.mp hkind y hy
    rcases Bool.or_eq_true_iff.mp this with q | q
    · exact .inl (beq_iff_eq.mp q)
    · exact .inr (beq_iff_eq.mp q)
  have hcl : ∀ x a, c'.env.cells.lookup x = some a → c'.env.kindOf x = some .cell := fun x a hx => by
    rcases cf_kind scope.names (s₁.heap.objs.size + 1) [] (x, a) (mem_of_look hx) with q | q
    · cases q
    · exact look_mem_nodup hnd q
  have F1 : Frm c' h₁ (fun y => binds.reverse.lookup y) := frm_cells (k := s₁.heap.objs.size + 1) rfl F' NC Y hbk hcl fun x hx => cellsFrom_some _ _ _ (.inl hx)
  have S1 : Sto c' h₁ (fun _ => none) := fun _ _ e => nomatch e
  refine wpAny_mono (h c' rfl G' rfl rfl rfl rfl { s₁ with heap := h₁, toks := tk } F1 S1) (fun fl s' A => ?_) fun e s' A => ?_
  · obtain ⟨h', tk', m', σ', rfl, F2, S2, x2, q⟩ := A
    exact ⟨congrArg (fun v => Except.ok (Flow.ret v)) q, fun b o e => F2.keep b o e, rfl, rfl⟩
  · exact A.no.elim
end
theorem good_true (l : OpenLaw) {cl : Str → Option Addr} {mean : ExcName → Option Value} {args : List WData} {s₁ s' : Shared} (hk : ∀ b o, s₁.heap.get? b = some o → s'.heap.get? b = some o) (hos : s'.os = s₁.os) (hg : s'.gens = #[]) :
    GoodW l.row.claim cl mean args s₁ (.ok (.ret (.bool true))) s' :=
  ⟨.inl ⟨.bool true, .bool true, [], rfl, fun _ => rfl, .bool true, postW_of (r := l.row.toRowW) (X := (true == true)) rfl (w_eq_bool (R := l.row.records) (a := .res) (b := .lit (.bool true)) (k := true) (l := true) (w_res rfl) w_lit) rfl, fun _ => ⟨List.nodup_nil, fun _ h => nomatch h⟩⟩, hk, hos, hg⟩
end Mine

open PySem PySem.W PySem.Calls PyProof.Rows
namespace Mine
abbrev NoE : Value → Store → Prop := fun _ _ => False
/-- a branch -/
def Br (b : Bool) (P Q : Prop) : Prop := (b = true → P) ∧ (b = false → Q)
theorem br_true {P Q : Prop} (h : P) : Br true P Q := ⟨fun _ => h, fun e => nomatch e⟩
theorem br_false {P Q : Prop} (h : Q) : Br false P Q := ⟨fun e => (nomatch e), fun _ => h⟩
theorem br_not {b : Bool} {P Q : Prop} (h : Br b Q P) : Br (!b) P Q := by
  cases b with
  | true => exact br_false (h.1 rfl)
  | false => exact br_true (h.2 rfl)
theorem br_dec {p : Prop} [Decidable p] {P Q : Prop} (h1 : p → P) (h2 : ¬ p → Q) : Br (decide p) P Q := ⟨fun e => h1 (of_decide_eq_true e), fun e => h2 (of_decide_eq_false e)⟩
theorem br_beq {a b : Int} {P Q : Prop} (h1 : a = b → P) (h2 : a ≠ b → Q) : Br (a == b) P Q := ⟨fun e => h1 (eq_of_beq e), fun e => h2 (ne_of_beq_false e)⟩
theorem br_bne {a b : Int} {P Q : Prop} (h1 : a ≠ b → P) (h2 : a = b → Q) : Br (a != b) P Q := ⟨fun e => h1 (bne_iff_ne.mp e), fun e => h2 (by simpa using e)⟩
theorem br_any {b : Bool} {P Q : Prop} (h1 : b = true → P) (h2 : b = false → Q) : Br b P Q := ⟨h1, h2⟩

section
variable {n : Nat} {c : Cx} {env : Env} {sc : Scope} {α : Type} {m : Loc} {σ : Store} {X : Value → Loc → Store → Prop} {x : Str} {pos pos' : Pos} {v : Value}
theorem kind_is {k : NameKind} (hs : c.env.scope = sc) (hx : sc.names.lookup x = some k) : c.env.kindOf x = some k := by unfold Env.kindOf; rw [hs]; exact hx
theorem nocell (hc : c.env.cells = []) : c.env.cells.lookup x = none := by rw [hc]; rfl
theorem n_local {Q : Value → Loc → Store → Prop} (g : Gnd n c) (hs : c.env.scope = sc) (hc : c.env.cells = []) (hx : sc.names.lookup x = some .local) (hd : (x == ("__debug__" : Str)) = false) (hv : m x = some v) (h : Q v m σ) :
    W c (eval (.Name x pos) c.env) m σ Q X := w_local g.knd (kind_is hs hx) (nocell hc) hd hv h
theorem n_store {Q : Unit → Loc → Store → Prop} (g : Gnd n c) (hs : c.env.scope = sc) (hc : c.env.cells = []) (hx : sc.names.lookup x = some .local) (h : Q () (setM m x v) σ) : W c (storeName c.env x v) m σ Q X :=
  w_store g.knd (kind_is hs hx) (nocell hc) h
theorem n_glob {Q : Value → Loc → Store → Prop} (g : Gnd n c) (hs : c.env.scope = sc) (hx : sc.names.lookup x = some .globalImplicit) (hd : (x == ("__debug__" : Str)) = false) (hv : nsIn c.g.K mainGlobals x = some (some v)) (h : Q v m σ) :
    W c (eval (.Name x pos) c.env) m σ Q X := w_glob g g.ok (kind_is hs hx) hd (mg_of g.X g.T.g hv) h
theorem n_built {Q : Value → Loc → Store → Prop} (g : Gnd n c) (hs : c.env.scope = sc) (hx : sc.names.lookup x = some .globalImplicit) (hd : (x == ("__debug__" : Str)) = false) (hm : nsIn c.g.K mainGlobals x = some none) (hn : x ≠ "__name__") (hv : bootBuiltins x = some v) (h : Q v m σ) :
    W c (eval (.Name x pos) c.env) m σ Q X := w_built g g.ok (kind_is hs hx) hd (mg_none_of g.X g.T.g hm) hn hv h

/-! ### statements, with what follows -/
theorem execs_append (a b : List Stmt) (env : Env) : execs (a ++ b) env = (execs a env >>= fun f => match f with | .next => execs b env | f => pure f) := by
  induction a with
  | nil => show execs b env = (pure Flow.next >>= _); rfl
  | cons s r ih =>
    show (exec s env >>= fun f => match f with | .next => execs (r ++ b) env | f => pure f) = ((exec s env >>= fun f => match f with | .next => execs r env | f => pure f) >>= _)
    rw [bind_assoc]
    congr 1
    funext f
    cases f with
    | next => exact ih
    | _ => rfl
variable {rest : List Stmt} {Q : Flow → Loc → Store → Prop}
theorem x_nil (h : Q .next m σ) : W c (execs [] env) m σ Q X := w_execs_nil h
theorem x_assign {value : Expr} (hs : swapsWith value (some (.Name x pos')) pos.line env = Pure.pure false)
    (h : W c (eval value env) m σ (fun v m' σ' => W c (storeName env x v) m' σ' (fun _ m₂ σ₂ => W c (execs rest env) m₂ σ₂ Q X) X) X) : W c (execs (.Assign [.Name x pos'] value pos :: rest) env) m σ Q X :=
  w_execs_cons (w_assign hs h)
theorem x_attr {o value : Expr} {attr : Str} (hs : swapsWith value (some (.Attribute o attr pos')) pos.line env = Pure.pure false)
    (h : W c (eval value env) m σ (fun v m' σ' => W c (eval o env) m' σ' (fun ov m₂ σ₂ => W c (setAttr ov attr v) m₂ σ₂ (fun _ m₃ σ₃ => W c (execs rest env) m₃ σ₃ Q X) X) X) X) : W c (execs (.Assign [.Attribute o attr pos'] value pos :: rest) env) m σ Q X :=
  w_execs_cons (w_assign_attr hs h)
theorem x_ret {e : Expr} (h : W c (eval e env) m σ (fun v m' σ' => Q (.ret v) m' σ') X) : W c (execs (.Return (some e) pos :: rest) env) m σ Q X := w_execs_cons (w_ret h)
theorem x_expr {e : Expr} (hi : interactive env = false) (hs : swapsWith e none pos.line env = Pure.pure false) (h : W c (eval e env) m σ (fun _ m' σ' => W c (execs rest env) m' σ' Q X) X) : W c (execs (.Expr e pos :: rest) env) m σ Q X := w_execs_cons (w_expr h hi hs)
theorem x_if {test : Expr} {body orelse : List Stmt}
    (h : W c (isTrue test env (eval test env)) m σ (fun b m' σ' => Br b (W c (execs (body ++ rest) env) m' σ' Q X) (W c (execs (orelse ++ rest) env) m' σ' Q X)) X) :
    W c (execs (.If test body orelse pos :: rest) env) m σ Q X := by
  have e : execs (.If test body orelse pos :: rest) env = (standAt pos >>= fun _ => isTrue test env (eval test env) >>= fun b => if b then execs (body ++ rest) env else execs (orelse ++ rest) env) := by
    show ((standAt pos >>= fun _ => isTrue test env (eval test env) >>= fun b => if b then execs body env else execs orelse env) >>= fun f => match f with | .next => execs rest env | f => pure f) = _
    simp only [bind_assoc]
    congr 1
    funext _
    congr 1
    funext b
    cases b with
    | true => exact (execs_append body rest env).symm
    | false => exact (execs_append orelse rest env).symm
  rw [e]
  refine W.bind (fun s F S => wpAny_standAt (After.here F S ?_))
  refine W.bind (h.mono (fun b m' σ' q => ?_) fun _ _ _ q => q)
  cases b with
  | true => exact q.1 rfl
  | false => exact q.2 rfl
theorem x_for {tp : Pos} {iter : Expr} {body : List Stmt}
    (h : W c (eval iter env) m σ (fun v m₁ σ₁ => Turns c x tp body v m₁ σ₁ (fun f m' σ' => match f with | .next => W c (execs rest env) m' σ' Q X | f => Q f m' σ')) X) (he : env = c.env)
    (hs : ∀ x, foldedSetIterable iter env x = Pure.pure x) : W c (execs (.For (.Name x tp) iter body [] pos :: rest) env) m σ Q X := by
  subst he
  exact w_execs_cons (w_for h hs)

/-! ### tests with branches -/
theorem b_and {y : Expr} {l : List Expr} {whole : Sem Value} {Q : Bool → Loc → Store → Prop}
    (h : W c (isTrue y env (eval y env)) m σ (fun b m' σ' => Br b (W c (isTrue (.BoolOp .And l pos) env whole) m' σ' Q X) (Q false m' σ')) X) : W c (isTrue (.BoolOp .And (y :: l) pos) env whole) m σ Q X :=
  t_and (h.mono (fun b _ _ q => by cases b with | true => exact q.1 rfl | false => exact q.2 rfl) fun _ _ _ q => q)
theorem b_or {y : Expr} {l : List Expr} {whole : Sem Value} {Q : Bool → Loc → Store → Prop}
    (h : W c (isTrue y env (eval y env)) m σ (fun b m' σ' => Br b (Q true m' σ') (W c (isTrue (.BoolOp .Or l pos) env whole) m' σ' Q X)) X) : W c (isTrue (.BoolOp .Or (y :: l) pos) env whole) m σ Q X :=
  t_or (h.mono (fun b _ _ q => by cases b with | true => exact q.1 rfl | false => exact q.2 rfl) fun _ _ _ q => q)
theorem e_and {e₁ e₂ : Expr} {l : List Expr} {Q : Value → Loc → Store → Prop}
    (h : W c (eval e₁ env) m σ (fun v m₁ σ₁ => W c (truthy v) m₁ σ₁ (fun b m₂ σ₂ => Br b (W c (eval (.BoolOp .And (e₂ :: l) pos) env) m₂ σ₂ Q X) (Q v m₂ σ₂)) X) X) : W c (eval (.BoolOp .And (e₁ :: e₂ :: l) pos) env) m σ Q X :=
  w_and (h.mono (fun v _ _ w => w.mono (fun b _ _ q => by cases b with | true => exact q.1 rfl | false => exact q.2 rfl) fun _ _ _ q => q) fun _ _ _ q => q)
theorem e_if {test body orelse : Expr} {Q : Value → Loc → Store → Prop}
    (h : W c (isTrue test env (eval test env)) m σ (fun b m' σ' => Br b (W c (eval body env) m' σ' Q X) (W c (eval orelse env) m' σ' Q X)) X) : W c (eval (.IfExp test body orelse pos) env) m σ Q X :=
  w_ifexp (h.mono (fun b _ _ q => by cases b with | true => exact q.1 rfl | false => exact q.2 rfl) fun _ _ _ q => q)

/-! ### looking into the store -/
theorem look_new {a b : Addr} {o o' : Obj} (hn : σ a = none) (h : σ b = some o) : upd σ a o' b = some o := by
  rw [upd_ne fun q => by rw [q, hn] at h; cases h]; exact h
theorem look_off {a b : Addr} {o o' : Obj} (hne : b ≠ a) (h : σ b = some o) : upd σ a o' b = some o := by rw [upd_ne hne]; exact h
end

/-- the body of a def that raises nothing -/
theorem fn_body {n : Nat} {σ : Store} {g : Pg} {f : Addr} {args : List Value} {Q : Value → Store → Prop} {name qual : Str} {params : Arguments} {body : List Stmt} {scope : Scope} {dV kV doc pm cdv ct oc : Value} {an od : Option Addr} {osl : Array (Option Value)} (binds : List (Str × Value))
    (ho : g.K.lookup f = some ⟨oc, od, .func (fnX name qual params body scope [] dV kV doc pm an cdv ct), osl⟩) (hcd : codeIn g.K cdv qual = true)
    (hb : bindArgs (fnX name qual params body scope [] dV kV doc pm an cdv ct) ⟨args, []⟩ = pure binds) (hloc : ∀ y ∈ binds, scope.names.lookup y.1 = some .local) (hcell : ∀ x ∈ scope.names, x.2 ≠ .cell)
    (hco : scope.isCoroutine = false) (hgen : scope.isGenerator = false) (hk : scope.kind = .function)
    (h : ∀ (c : Cx) (m : Loc), c.g = g → Gnd n c → c.env.scope = scope → c.env.cells = [] → interactive c.env = false → (∀ y, m y = binds.reverse.lookup y) → W c (execs body c.env) m σ (fun fl _ σ' => Q (match fl with | .ret v => v | _ => .none) σ') NoX) :
    Fn g (n + 1) (.ref f) args σ Q NoE :=
  fn_of_body ho hcd hb hloc hcell hco hgen hk fun c h1 h2 h3 h4 => (h c _ h1 h2 h3 h4 (by unfold interactive; rw [h3, hk]; rfl) fun _ => rfl).mono (fun _ _ _ q => q) fun _ _ _ q => q.elim
end Mine

open PySem PySem.W PySem.Calls PyProof.Rows
namespace Mine
section
variable {n : Nat} {c : Cx} {env : Env} {m : Loc} {σ : Store} {X : Value → Loc → Store → Prop} {a b : Int} {t u : Tok} {Q : Value → Loc → Store → Prop}
theorem br_isT {b : Bool} {P Q : Prop} (e : b = true) (h : P) : Br b P Q := by subst e; exact br_true h
theorem br_isF {b : Bool} {P Q : Prop} (e : b = false) (h : Q) : Br b P Q := by subst e; exact br_false h
theorem s_eq {x y : Str} (h : Q (.bool (x == y)) m σ) : W c (compareOp .Eq (.str x t) (.str y u)) m σ Q X := fun _ F S => eq_str (After.here F S h)
theorem s_ne {x y : Str} (h : Q (.bool (x != y)) m σ) : W c (compareOp .NotEq (.str x t) (.str y u)) m σ Q X := fun _ F S => ne_str (After.here F S h)
theorem is_no (h : Q (.bool true) m σ) : W c (compareOp .Is .none .none) m σ Q X := fun _ F S => wpAny_is_self rfl (After.here F S h)
theorem isnot_no (h : Q (.bool false) m σ) : W c (compareOp .IsNot .none .none) m σ Q X := fun _ F S => wpAny_isNot_self rfl (After.here F S h)
theorem is_no_int (h : Q (.bool false) m σ) : W c (compareOp .Is (.int a t) .none) m σ Q X := fun _ F S => is_int_none (After.here F S h)
theorem isnot_no_int (h : Q (.bool true) m σ) : W c (compareOp .IsNot (.int a t) .none) m σ Q X := fun _ F S => isnot_int_none (After.here F S h)
theorem Fra.less {σ' τ' : Store} {h h' : Heap} (k : Sub σ' τ') (x : Fra c σ h h' τ') : Fra c σ h h' σ' := ⟨x.kept, fun a o e => x.grow a o (k a o e)⟩
theorem add_lists {l₁ l₂ : Addr} {vs ws : List Value} {k₁ k₂ : Nat} (h1 : σ l₁ = some (lstO vs k₁)) (h2 : σ l₂ = some (lstO ws k₂)) (hz : vs.length + ws.length ≤ sizeLine) (h : ∀ a, σ a = none → Q (.ref a) m (upd σ a (lstO (vs ++ ws) 0))) :
    W c (binaryOp .Add (.ref l₁) (.ref l₂)) m σ Q X := fun s F S =>
  add_arrays F.F (all_news c s.heap) (isList_of S h1) (isList_of S h2) (fun h' F' N' => After.at (grown F S F' (no_end _) (by simpa using N')) (h _ S.fresh)) (by simpa using hz)
/-! ### ints -/
theorem i_div (hb : b ≠ 0) (hs : b.natAbs < 1073741824) (h : ∀ t, Q (.int (a.fdiv b) t) m σ) : W c (binaryOp .FloorDiv (.int a t) (.int b u)) m σ Q X := fun _ F S => floordiv_int hb (After.tok F S (h _)) (.inl (PyProof.noPylong_small hs))
theorem i_pow (hn : 0 ≤ b) (hn2 : b ≤ 1000000) (ha : a.natAbs < 2 ^ 64) (h : ∀ t, Q (.int (a ^ b.toNat) t) m σ) : W c (binaryOp .Pow (.int a t) (.int b u)) m σ Q X := fun _ F S => pow_int_small hn hn2 ha (After.tok F S (h _))
theorem isi_int_int (h : Q (.bool true) m σ) : W c (call (.builtin "isinstance") [.int a t, .type "int"]) m σ Q X := fun _ F S => IsiPair.int_int (After.here F S h)
theorem isi_int_bool (h : Q (.bool false) m σ) : W c (call (.builtin "isinstance") [.int a t, .type "bool"]) m σ Q X := fun _ F S => IsiPair.int_bool (After.tok F S h)
theorem isi_bool_bool {b : Bool} (h : Q (.bool true) m σ) : W c (call (.builtin "isinstance") [.bool b, .type "bool"]) m σ Q X := fun _ F S => IsiPair.bool_bool (After.here F S h)
theorem isi_list {l : Addr} {vs : List Value} {k : Nat} (hl : σ l = some (lstO vs k)) (h : Q (.bool true) m σ) : W c (call (.builtin "isinstance") [.ref l, .type "list"]) m σ Q X := fun _ F S => IsiPair.isList_list (isList_of S hl) (fun _ _ e => e) (After.here F S h)

/-! ### lists against lists -/
theorem stayed {s : Shared} {h' : Heap} (F : Frm c s.heap m) (S : Sto c s.heap σ) (F' : Fr c.h₀ c.env.locals h' (loc c m)) (N' : News c.h₀ c.env.locals h' (allOf c s.heap)) : Frm c h' m ∧ Sto c h' σ ∧ Fra c σ s.heap h' σ := by
  have old : ∀ b x, s.heap.get? b = some x → b ≠ c.env.locals → h'.get? b = some x := fun b x e l => kept_of F F' e l fun z => (N' _ ((st_full c s.heap).mem z)).1
  exact ⟨F.on F' fun x b hb o e => old b o e (F.off x b hb).1, fun b x e => ⟨old b x (S b x e).1 (fun q => (S b x e).2.1 (.inl q)), (S b x e).2⟩, fun b x e _ l => old b x e fun q => l (.inl q), fun b x e => .inl (by rw [e]; exact fun q => nomatch q)⟩
theorem eq_nil {l₁ l₂ : Addr} {vs : List Value} {k₁ k₂ : Nat} (g : Gnd n c) (h1 : σ l₁ = some (lstO vs k₁)) (h2 : σ l₂ = some (lstO [] k₂)) (h : Q (.bool (decide (vs.length = 0))) m σ) : W c (compareOp .Eq (.ref l₁) (.ref l₂)) m σ Q X := fun s F S => by
  have hu : c.A.units < cLine := by have := g.un; omega
  cases vs with
  | nil => exact PySem.SeqAt.eq_listAt (e := fun _ => true) (isList_of S h1) (isList_of S h2) rfl hu (fun j h1 => absurd h1 (by simp)) (After.here F S h)
  | cons v vs => exact PySem.SeqAt.eq_list_lengthsAt (isList_of S h1) (isList_of S h2) rfl hu (After.here F S (by simpa using h))
theorem w_all {l : Addr} {vs : List Value} {k : Nat} {bs : List Bool} (g : Gnd n c) (hl : σ l = some (lstO vs k)) (hi : LSm.BoolsAre vs bs) (h : Q (.bool (bs.all id)) m σ) : W c (call (.builtin "all") [.ref l]) m σ Q X :=
  fun s F S => LSm.all_bools F.F (all_news c s.heap) g.hh (isList_of S hl) hi fun h' tk F' N' => After.at (stayed F S F' N') h
/-! ### sets of ints -/
/-! ### chains -/
end
end Mine

open PySem PySem.W PySem.Calls PyProof.Rows
namespace Mine

/-! ## list comprehensions -/
def drop (C : Addr) (σ : Store) : Store := fun a => if a = C then none else σ a
theorem drop_same {C : Addr} {σ : Store} : drop C σ C = none := if_pos rfl
theorem drop_ne {C a : Addr} {σ : Store} (h : a ≠ C) : drop C σ a = σ a := if_neg h
theorem drop_sub {C : Addr} {σ : Store} : Sub (drop C σ) σ := fun a o e => by
  by_cases q : a = C
  · subst q; rw [drop_same] at e; cases e
  · rw [drop_ne q] at e; exact e
theorem sub_drop {C : Addr} {σ τ : Store} (h : Sub σ τ) (hC : σ C = none) : Sub σ (drop C τ) := fun a o e => by
  rw [drop_ne fun q => by rw [q, hC] at e; cases e]; exact h a o e

theorem look_relabel_other {env : Env} {k₀ : NameKind} (hk : k₀ ≠ .free) : ∀ {names : List (Str × NameKind)} {x : Str}, names.lookup x = some k₀ →
    (names.map fun (n, k) => if (k == NameKind.free && env.scope.kind == .function && env.kindOf n == some .cell) then (n, NameKind.cell) else (n, k)).lookup x = some k₀
  | [], _, h => by simp at h
  | (n, k) :: r, x, h => by
    have ih := @look_relabel_other env k₀ hk r x
    show List.lookup x ((if (k == NameKind.free && env.scope.kind == .function && env.kindOf n == some .cell) = true then (n, NameKind.cell) else (n, k)) :: _) = _
    cases hx : x == n with
    | true =>
      simp only [List.lookup_cons, hx] at h
      cases h
      simp [List.lookup_cons, hx, hk]
    | false =>
      simp only [List.lookup_cons, hx] at h
      by_cases hc : (k == NameKind.free && env.scope.kind == .function && env.kindOf n == some .cell) = true
      · rw [if_pos hc]; simp only [List.lookup_cons, hx]; exact ih h
      · rw [if_neg hc]; simp only [List.lookup_cons, hx]; exact ih h
theorem look_relabel_free {env : Env} (hf : env.scope.kind = .function) : ∀ {names : List (Str × NameKind)} {x : Str}, names.lookup x = some .free → env.kindOf x = some .cell →
    (names.map fun (n, k) => if (k == NameKind.free && env.scope.kind == .function && env.kindOf n == some .cell) then (n, NameKind.cell) else (n, k)).lookup x = some .cell
  | [], _, h, _ => by simp at h
  | (n, k) :: r, x, h, hx' => by
    have ih := @look_relabel_free env hf r x
    show List.lookup x ((if (k == NameKind.free && env.scope.kind == .function && env.kindOf n == some .cell) = true then (n, NameKind.cell) else (n, k)) :: _) = _
    cases hx : x == n with
    | true =>
      simp only [List.lookup_cons, hx] at h
      cases h
      rw [eq_of_beq hx] at hx'
      simp [List.lookup_cons, hx, hf, hx']
    | false =>
      simp only [List.lookup_cons, hx] at h
      by_cases hc : (k == NameKind.free && env.scope.kind == .function && env.kindOf n == some .cell) = true
      · rw [if_pos hc]; simp only [List.lookup_cons, hx]; exact ih h hx'
      · rw [if_neg hc]; simp only [List.lookup_cons, hx]; exact ih h hx'

/-- the environment of a comprehension -/
structure CompEnv (c : Cx) (scope : Scope) (e : Env) (C : Addr) : Prop where
  ok : EnvOk e
  tab : e.locals = C
  other : ∀ x k, scope.names.lookup x = some k → k ≠ .free → e.kindOf x = some k
  free : ∀ x, scope.names.lookup x = some .free → c.env.kindOf x = some .cell → e.kindOf x = some .cell
  cells : ∀ x a, scope.names.lookup x = some .free → c.env.cells.lookup x = some a → e.cells.lookup x = some a
def NsO (o : Obj) (mm : Loc) : Prop := ∃ es ep, o.data = .dict es ep ∧ StrKeys es ∧ ∀ name, nsFind es name = mm name
theorem NsO.at {o : Obj} {mm : Loc} (n : NsO o mm) {h : Heap} {C : Addr} (e : h.get? C = some o) : h.Ns C mm := let ⟨es, ep, h1, h2, h3⟩ := n; ⟨o, es, ep, e, h1, h2, h3⟩

theorem closure_go (env : Env) : ∀ (names : List (Str × NameKind)) (cs : List (Str × Addr)), (∀ y ∈ names, y.2 = NameKind.free → ∃ a, env.cells.lookup y.1 = some a) →
    ∃ cl, (forIn (m := Sem) names cs fun (name, kind) cs => if (kind == NameKind.free) = true then do let a ← cellOf env name; pure (ForInStep.yield ((name, a) :: cs)) else pure (ForInStep.yield cs)) = pure cl ∧
      (∀ x a, cl.lookup x = some a → cs.lookup x = some a ∨ env.cells.lookup x = some a) ∧ ∀ x, (cs.lookup x).isSome = true ∨ (x, NameKind.free) ∈ names → (cl.lookup x).isSome = true
  | [], cs, _ => ⟨cs, rfl, fun x a e => .inl e, fun x h => h.elim id fun q => nomatch q⟩
  | (n, k) :: r, cs, h => by
    by_cases hk : (k == NameKind.free) = true
    · obtain ⟨a, ha⟩ := h (n, k) (.head _) (eq_of_beq hk)
      obtain ⟨cl, h1, h2, h3⟩ := closure_go env r ((n, a) :: cs) fun y hy => h y (.tail _ hy)
      refine ⟨cl, ?_, fun x b e => ?_, fun x q => h3 x ?_⟩
      · rw [List.forIn_cons]
        simp only [hk, if_true, cellOf, ha, pure_bind]
        exact h1
      · rcases h2 x b e with z | z
        · rw [List.lookup_cons] at z
          cases hx : x == n with
          | true => rw [hx] at z; rw [eq_of_beq hx, ha]; exact .inr z
          | false => rw [hx] at z; exact .inl z
        · exact .inr z
      · rw [List.lookup_cons]
        cases hx : x == n with
        | true => exact .inl rfl
        | false =>
          rcases q with q | q
          · exact .inl q
          · cases q with
            | head => rw [beq_self_eq_true] at hx; cases hx
            | tail _ q => exact .inr q
    · obtain ⟨cl, h1, h2, h3⟩ := closure_go env r cs fun y hy => h y (.tail _ hy)
      refine ⟨cl, ?_, h2, fun x q => h3 x (q.imp id fun q => ?_)⟩
      · rw [List.forIn_cons]
        simp only [hk, Bool.false_eq_true, if_false, pure_bind]
        exact h1
      · cases q with
        | head => exact absurd rfl hk
        | tail _ q => exact q
theorem closure_is {env : Env} {scope : Scope} (h : ∀ y ∈ scope.names, y.2 = NameKind.free → ∃ a, env.cells.lookup y.1 = some a) :
    ∃ cl, closureFor scope env = pure cl ∧ ∀ x a, (x, NameKind.free) ∈ scope.names → env.cells.lookup x = some a → cl.lookup x = some a := by
  obtain ⟨cl, h1, h2, h3⟩ := closure_go env scope.names [] h
  refine ⟨cl, ?_, fun x a hm e => ?_⟩
  · unfold closureFor
    rw [bind_pure]
    exact h1
  · obtain ⟨b, hb⟩ := Option.isSome_iff_exists.mp (h3 x (.inr hm))
    rcases h2 x b hb with q | q
    · cases q
    · rw [q] at e; cases e; exact hb

section
variable {n : Nat} {c : Cx} {m : Loc} {σ : Store} {X : Value → Loc → Store → Prop} {Q : Value → Loc → Store → Prop} {scope : Scope} {e : Env} {C : Addr} {x : Str} {pos : Pos} {v : Value}
theorem cn_local {oC : Obj} {mm : Loc} (E : CompEnv c scope e C) (hx : scope.names.lookup x = some .local) (hd : (x == ("__debug__" : Str)) = false) (hC : σ C = some oC) (hn : NsO oC mm) (hv : mm x = some v) (h : Q v m σ) :
    W c (eval (.Name x pos) e) m σ Q X := fun s F S => wpAny_Name (wpAny_loadName_local E.ok.knd (E.other x _ hx (fun q => nomatch q)) (by rw [E.tab]; exact hn.at (S C _ hC).1) hv (After.here F S h)) hd
theorem cn_cell {a : Addr} (E : CompEnv c scope e C) (hx : scope.names.lookup x = some .free) (hk : c.env.kindOf x = some .cell) (ha : c.env.cells.lookup x = some a) (hd : (x == ("__debug__" : Str)) = false) (hv : m x = some v) (h : Q v m σ) :
    W c (eval (.Name x pos) e) m σ Q X := fun s F S => wpAny_Name (wpAny_loadName_cell E.ok.knd (E.free x hx hk) (E.cells x a hx ha) (hv ▸ F.cell x a ha) (After.here F S h)) hd
theorem cn_glob (g : Gnd n c) (E : CompEnv c scope e C) (hx : scope.names.lookup x = some .globalImplicit) (hd : (x == ("__debug__" : Str)) = false) (hv : nsIn c.g.K mainGlobals x = some (some v)) (h : Q v m σ) :
    W c (eval (.Name x pos) e) m σ Q X := w_glob g E.ok (E.other x _ hx (fun q => nomatch q)) hd (mg_of g.X g.T.g hv) h
theorem cn_built (g : Gnd n c) (E : CompEnv c scope e C) (hx : scope.names.lookup x = some .globalImplicit) (hd : (x == ("__debug__" : Str)) = false) (hm : nsIn c.g.K mainGlobals x = some none) (hn : x ≠ "__name__") (hv : bootBuiltins x = some v) (h : Q v m σ) :
    W c (eval (.Name x pos) e) m σ Q X := w_built g E.ok (E.other x _ hx (fun q => nomatch q)) hd (mg_none_of g.X g.T.g hm) hn hv h

/-- one element's word -/
def EltOk (c : Cx) (scope : Scope) (x : Str) (elt : Expr) (m : Loc) (σ : Store) (P : Nat → List Value → Store → Prop) (i : Nat) (v : Value) : Prop :=
  ∀ (e : Env) (C : Addr) (oC : Obj) (mm : Loc) (τ : Store) (ys : List Value), CompEnv c scope e C → Sub σ τ → τ C = none → P i ys τ → NsO oC mm → mm x = some v →
    W c (eval elt e) m (upd τ C oC) (fun y m' σ' => m' = m ∧ Sub (upd τ C oC) σ' ∧ P (i + 1) (ys ++ [y]) (drop C σ')) NoX
/-- the tests of a comprehension -/
def tests (ifs : List Expr) (e : Env) : Sem Bool := forIn (m := Sem) ifs true fun c r => if r = true then do let ok ← isTrue c e (eval c e); pure (ForInStep.yield ok) else pure (ForInStep.yield r)
/-- one element's word, behind tests -/
def EltOkG (c : Cx) (scope : Scope) (x : Str) (ifs : List Expr) (elt : Expr) (m : Loc) (σ : Store) (P : Nat → List Value → Store → Prop) (i : Nat) (v : Value) : Prop :=
  ∀ (e : Env) (C : Addr) (oC : Obj) (mm : Loc) (τ : Store) (ys : List Value), CompEnv c scope e C → Sub σ τ → τ C = none → P i ys τ → NsO oC mm → mm x = some v →
    W c (tests ifs e) m (upd τ C oC) (fun b m₁ σ₁ => Br b (W c (eval elt e) m₁ σ₁ (fun y m' σ' => m' = m ∧ Sub (upd τ C oC) σ' ∧ P (i + 1) (ys ++ [y]) (drop C σ')) NoX) (m₁ = m ∧ Sub (upd τ C oC) σ₁ ∧ P (i + 1) ys (drop C σ₁))) NoX
theorem EltOk.plain {elt : Expr} {P : Nat → List Value → Store → Prop} {i : Nat} (h : EltOk c scope x elt m σ P i v) : EltOkG c scope x [] elt m σ (fun i ys τ => ys.length = i ∧ P i ys τ) i v := fun e C oC mm τ ys CE sub nC hP hn hv =>
  W.pure (a := true) (br_true ((h e C oC mm τ ys CE sub nC hP.2 hn hv).mono (fun y m' σ' q => ⟨q.1, q.2.1, (by rw [List.length_append, hP.1]; rfl), q.2.2⟩) fun _ _ _ q => q))

/-- the word of the whole, behind what is walked -/
def CompG (c : Cx) (ifs : List Expr) (elt iter : Expr) (x : Str) (px : Pos) (scope : Scope) (pos : Pos) (v : Value) (m : Loc) (σ : Store) (use : Option (Value → Sem Unit)) (Q : Shared → Value → Shared → Prop) : Prop :=
  ∀ cl, (∀ x a, (x, NameKind.free) ∈ scope.names → c.env.cells.lookup x = some a → cl.lookup x = some a) → ∀ s, Frm c s.heap m → Sto c s.heap σ →
    wpAny (model c.g.prog c.g.w) c.A (pyIter v) (fun it s₂ => wpAny (model c.g.prog c.g.w) c.A (newList []) (fun acc s₃ => wpAny (model c.g.prog c.g.w) c.A (newFunctionEnv scope c.env.globals cl [] c.env.qual none .none (some c.env)) (fun cenv s₄ =>
      codeAny (model c.g.prog c.g.w) c.A (.compStart (.ListComp elt [⟨.Name x px, iter, ifs, 0⟩] scope pos) 0 it acc { cenv with scope := relabel scope c.env })
        (compPost (model c.g.prog c.g.w) c.A (fun _ _ => False) use (Q s) acc cenv.locals) s₄) (fun _ _ => False) s₃) (fun _ _ => False) s₂) (fun _ _ => False) s
def Comp (c : Cx) (elt iter : Expr) (x : Str) (px : Pos) (scope : Scope) (pos : Pos) (v : Value) (m : Loc) (σ : Store) (Q : Value → Loc → Store → Prop) : Prop :=
  CompG c [] elt iter x px scope pos v m σ none (fun s r s' => After c σ s s' (Q r))

theorem w_compG {ifs : List Expr} {elt iter : Expr} {px : Pos} (hfree : ∀ y ∈ scope.names, y.2 = NameKind.free → ∃ a, c.env.cells.lookup y.1 = some a) (hkind : scope.kind = .function) (hnames : ∀ x ∈ scope.names, x.2 = .local → scope.names.lookup x.1 = some .local)
    (hs : ∀ x, foldedSetIterable iter c.env x = Pure.pure x) (h : W c (eval iter c.env) m σ (fun v m₁ σ₁ => CompG c ifs elt iter x px scope pos v m₁ σ₁ none (fun s r s' => After c σ₁ s s' (Q r))) X) :
    W c (eval (.ListComp elt [⟨.Name x px, iter, ifs, 0⟩] scope pos) c.env) m σ Q X := fun s F S => by
  obtain ⟨cl, hcl, hl⟩ := closure_is hfree
  rw [eval_ListComp]
  refine wpAny_comprehension_free (g := ⟨.Name x px, iter, ifs, 0⟩) (gs := []) rfl hs hcl hkind hnames ?_
  refine wpAny_mono (h s F S) (fun v s₁ A => ?_) fun _ _ x => x
  obtain ⟨h', tk, m', σ', rfl, F', S', fx, T⟩ := A
  refine wpAny_mono (T cl hl { s with heap := h', toks := tk } F' S') (fun it s₂ C => wpAny_mono C (fun acc s₃ C => wpAny_mono C (fun cenv s₄ C => codeAny_mono C fun r s' z => ?_) fun _ _ x => x.elim) fun _ _ x => x.elim) fun _ _ x => x.elim
  cases r with
  | ok f =>
    obtain ⟨mm, hn, k⟩ := z
    exact ⟨mm, hn, fun h' hs => (k h' hs).on rfl fx⟩
  | error e =>
    obtain ⟨mm, hn, k⟩ := z
    exact ⟨mm, hn, fun h' hs ce hce => wpAny_mono (k h' hs ce hce) (fun _ _ x => x) fun _ _ x => x.elim⟩
theorem w_comp {elt iter : Expr} {px : Pos} (hfree : ∀ y ∈ scope.names, y.2 = NameKind.free → ∃ a, c.env.cells.lookup y.1 = some a) (hkind : scope.kind = .function) (hnames : ∀ x ∈ scope.names, x.2 = .local → scope.names.lookup x.1 = some .local)
    (hs : ∀ x, foldedSetIterable iter c.env x = Pure.pure x) (h : W c (eval iter c.env) m σ (fun v m₁ σ₁ => Comp c elt iter x px scope pos v m₁ σ₁ Q) X) :
    W c (eval (.ListComp elt [⟨.Name x px, iter, [], 0⟩] scope pos) c.env) m σ Q X := w_compG hfree hkind hnames hs h
end
theorem n01 (I : Nat) : I ≠ I + 1 := by omega
theorem n10 (I : Nat) : I + 1 ≠ I := by omega
theorem n02 (I : Nat) : I ≠ I + 2 := by omega
theorem n20 (I : Nat) : I + 2 ≠ I := by omega
theorem n12 (I : Nat) : I + 1 ≠ I + 2 := by omega
theorem n21 (I : Nat) : I + 2 ≠ I + 1 := by omega
theorem le1 (I : Nat) : I ≤ I + 1 := by omega
theorem le2 (I : Nat) : I ≤ I + 2 := by omega

/-- where a comprehension began -/
structure CBase (c : Cx) (m : Loc) (σ : Store) (s : Shared) (I : Addr) : Prop where
  F : Frm c s.heap m
  S : Sto c s.heap σ
  hI : s.heap.objs.size = I
/-- where it stands -/
structure CAt (c : Cx) (m : Loc) (σ : Store) (s : Shared) (I : Addr) (τ : Store) (h : Heap) (ys : List Value) (kk : Nat) (oC : Obj) : Prop where
  F : Frm c h m
  S : Sto c h τ
  x : Fra c σ s.heap h τ
  hD : h.get? (I + 1) = some (lstO ys kk)
  hC : h.get? (I + 2) = some oC
  sub : Sub σ τ
  nD : τ (I + 1) = none
  nC : τ (I + 2) = none
section
variable {c : Cx} {m m' : Loc} {σ τ : Store} {s : Shared} {I J b : Addr} {h h' : Heap} {ys : List Value} {kk tk : Nat} {oC o : Obj} {mm : Loc}
theorem CBase.small (B : CBase c m σ s I) (e : s.heap.get? b = some o) : b < I := B.hI ▸ Heap.lt_size e
theorem CBase.ne (B : CBase c m σ s I) (hJ : I ≤ J) (e : s.heap.get? b = some o) : b ≠ J := Nat.ne_of_lt (Nat.lt_of_lt_of_le (B.small e) hJ)
theorem CBase.notFA (B : CBase c m σ s I) (hb : I ≤ b) : ¬ FA c b := fun q => let ⟨_, ho⟩ := B.F.has q; Nat.not_lt.mpr hb (B.small ho)
theorem CBase.not0 (B : CBase c m σ s I) (hb : I ≤ b) : c.h₀.get? b = none := by
  cases q : c.h₀.get? b with
  | none => rfl
  | some o => exact absurd (B.small (B.F.keep b o q)) (Nat.not_lt.mpr hb)
theorem CBase.notσ (B : CBase c m σ s I) (hb : I ≤ b) : σ b = none := by
  cases q : σ b with
  | none => rfl
  | some o => exact absurd (B.small (B.S b o q).1) (Nat.not_lt.mpr hb)
theorem CBase.frm (B : CBase c m σ s I) (hJ : I ≤ J) (F : Frm c h m') (k : ∀ b o, b ≠ J → h.get? b = some o → h'.get? b = some o) : Frm c h' m' := by
  refine F.on ⟨?_, fun b o e => k b o (fun q => by rw [q, B.not0 hJ] at e; cases e) (F.keep b o e), F.F.above⟩ fun x b hb o e => k b o (fun q => B.notFA hJ (q ▸ .inr ⟨x, hb⟩)) e
  obtain ⟨oL, es, ep, hL, r⟩ := F.F.ns
  exact ⟨oL, es, ep, k _ _ (fun q => B.notFA hJ (.inl q.symm)) hL, r⟩
theorem Sto.step (S : Sto c h τ) (nJ : τ J = none) (k : ∀ b o, b ≠ J → h.get? b = some o → h'.get? b = some o) : Sto c h' τ := fun a o e => ⟨k a o (fun q => by rw [q, nJ] at e; cases e) (S a o e).1, (S a o e).2⟩
theorem CBase.fra (B : CBase c m σ s I) (hJ : I ≤ J) (x : Fra c σ s.heap h τ) (k : ∀ b o, b ≠ J → h.get? b = some o → h'.get? b = some o) : Fra c σ s.heap h' τ := ⟨fun b o e z l => k b o (B.ne hJ e) (x.kept b o e z l), x.grow⟩
theorem CBase.stoU (B : CBase c m σ s I) (hJ : I ≤ J) (S : Sto c h τ) (e : h.get? J = some o) : Sto c h (upd τ J o) := fun a o' e' => by
  by_cases q : a = J
  · subst q; rw [upd_same] at e'; cases e'; exact ⟨e, B.notFA hJ, B.not0 hJ⟩
  · rw [upd_ne q] at e'; exact S a o' e'
theorem CBase.fraU (B : CBase c m σ s I) (hJ : I ≤ J) (x : Fra c σ s.heap h τ) : Fra c σ s.heap h (upd τ J o) := ⟨x.kept, fun a o' e' => by
  by_cases q : a = J
  · right; cases z : s.heap.get? a with
    | none => rfl
    | some o => exact absurd q (B.ne hJ z)
  · rw [upd_ne q] at e'; exact x.grow a o' e'⟩
theorem Fra.no {σa σb : Store} {ha hb : Heap} (x : Fra c σa ha hb σb) (n : σa b = none) (e : ha.get? b = some o) : σb b = none := by
  cases z : σb b with
  | none => rfl
  | some o' =>
    rcases x.grow b o' z with r | r
    · exact absurd n r
    · rw [e] at r; cases r
theorem CAt.step (B : CBase c m σ s I) (A : CAt c m σ s I τ h ys kk oC) (nI : τ I = none) (hk : ∀ b o, b ∉ [I] → h.get? b = some o → h'.get? b = some o) : CAt c m σ s I τ h' ys kk oC :=
  have k : ∀ b o, b ≠ I → h.get? b = some o → h'.get? b = some o := fun b o q e => hk b o (fun z => q (List.mem_singleton.mp z)) e
  ⟨B.frm (Nat.le_refl _) A.F k, A.S.step nI k, B.fra (Nat.le_refl _) A.x k, k _ _ (n10 _) A.hD, k _ _ (n20 _) A.hC, A.sub, A.nD, A.nC⟩
/-- between two turns -/
def CInv (c : Cx) (m : Loc) (σ : Store) (s : Shared) (I : Addr) (SW : Nat → Heap → Prop) (P : Nat → List Value → Store → Prop) (N k : Nat) (s' : Shared) : Prop :=
  ∃ i ys τ h tk kk oC mm, k = N - i ∧ i ≤ N ∧ s' = { s with heap := h, toks := tk } ∧ CAt c m σ s I τ h ys kk oC ∧ P i ys τ ∧ SW i h ∧ τ I = none ∧ NsO oC mm ∧ ys.length ≤ i
theorem sub_lt {N i : Nat} (h : i < N) : N - (i + 1) < N - i := by omega
theorem comp_turn {scope : Scope} {x : Str} {v : Value} {elt : Expr} {ifs : List Expr} {px : Pos} {E : Value → Shared → Prop} {cenv : Env} {SW : Nat → Heap → Prop} {P : Nat → List Value → Store → Prop} {N i : Nat} {fp : List Addr}
    (B : CBase c m σ s I) (CE : CompEnv c scope cenv (I + 2)) (hx : scope.names.lookup x = some .local) (A : CAt c m σ s I τ h ys kk oC) (hP : P i ys τ) (nI : τ I = none) (hI : ∃ o, h.get? I = some o) (hn : NsO oC mm) (hlen : ys.length ≤ i) (hlt : i < N) (hN : N ≤ sizeLine)
    (el : EltOkG c scope x ifs elt m σ P i v) (frame : ∀ h', (∀ b ∈ fp, ∀ o, h.get? b = some o → h'.get? b = some o) → SW (i + 1) h')
    (stayed : ∀ b ∈ fp, b ≠ I → ∃ o, ∀ h τ, Frm c h m → Sto c h τ → Sub σ τ → h.get? b = some o) :
    wpAny (model c.g.prog c.g.w) c.A (assign (.Name x px) cenv v) (fun _ s₂ => wpAny (model c.g.prog c.g.w) c.A (tests ifs cenv) (fun ok s₃ =>
      if ok = true then wpAny (model c.g.prog c.g.w) c.A (eval elt cenv) (fun y s₄ => wpAny (model c.g.prog c.g.w) c.A (call (.builtin "list.append") [.ref (I + 1), y]) (fun _ s₅ => ∃ k, k < N - i ∧ CInv c m σ s I SW P N k s₅) E s₄) E s₃
      else ∃ k, k < N - i ∧ CInv c m σ s I SW P N k s₃) E s₂) E { s with heap := h, toks := tk } := by
  refine wpAny_assign_Name (wpAny_storeName_local (m := mm) (CE.other x _ hx (fun q => nomatch q)) (by rw [CE.tab]; exact hn.at A.hC) (fun h2 hn2 hsb => ?_) (by rw [CE.ok.knd]; rfl))
  rw [CE.tab] at hn2 hsb
  obtain ⟨oC2, es2, ep2, hC2, hn2'⟩ := hn2
  have k2 : ∀ b o, b ≠ I + 2 → h.get? b = some o → h2.get? b = some o := fun b o q e => (hsb.2 b q).trans e
  have F2 := B.frm (le2 I) A.F k2
  have S2 := B.stoU (le2 I) (A.S.step A.nC k2) hC2
  have fx2 := B.fraU (o := oC2) (le2 I) (B.fra (le2 I) A.x k2)
  obtain ⟨oI, eI⟩ := hI
  have swOf : ∀ h6 σ6, Frm c h6 m → Sto c h6 σ6 → Sub σ σ6 → h6.get? I = some oI → SW (i + 1) h6 := fun h6 σ6 F6 S6 sb e6 => frame h6 fun b hb o e => by
    by_cases q : b = I
    · rw [q, eI] at e; cases e; rw [q]; exact e6
    · obtain ⟨o', ho'⟩ := stayed b hb q
      rw [ho' h τ A.F A.S A.sub] at e; cases e
      exact ho' h6 σ6 F6 S6 sb
  have common : ∀ h4 σ4, Sto c h4 σ4 → Fra c (upd τ (I + 2) oC2) h2 h4 σ4 → Sub (upd τ (I + 2) oC2) σ4 →
      σ4 (I + 1) = none ∧ σ4 I = none ∧ h4.get? (I + 1) = some (lstO ys kk) ∧ h4.get? I = some oI ∧ Sub σ (drop (I + 2) σ4) := fun h4 σ4 S4 x4 sub4 => by
    have nD2 : upd τ (I + 2) oC2 (I + 1) = none := (upd_ne (n12 I)).trans A.nD
    have nI2 : upd τ (I + 2) oC2 I = none := (upd_ne (n02 I)).trans nI
    have hD2 := k2 _ _ (n12 I) A.hD
    have hI2 := k2 _ _ (n02 I) eI
    exact ⟨x4.no nD2 hD2, x4.no nI2 hI2, x4.kept _ _ hD2 nD2 (B.notFA (le1 I)), x4.kept _ _ hI2 nI2 (B.notFA (Nat.le_refl _)), sub_drop ((A.sub.trans (sub_upd A.nC)).trans sub4) (B.notσ (le2 I))⟩
  refine wpAny_mono (el cenv (I + 2) oC2 _ τ ys CE A.sub A.nC hP ⟨es2, ep2, hn2'⟩ (if_pos rfl) { s with heap := h2, toks := tk + 1 } F2 S2) (fun bb s3 A3 => ?_) fun e s3 A3 => A3.no.elim
  cases bb with
  | true =>
    rw [if_pos rfl]
    refine wpAny_mono (A3.next fun m σ q => q.1 rfl) (fun y s4 A4 => ?_) fun e s4 A4 => A4.no.elim
    obtain ⟨h4, tk4, m4, σ4, rfl, F4, S4, x4, em, sub4, hP4⟩ := A4
    subst em
    obtain ⟨nD4, nI4, hD4, hI4, sub5⟩ := common h4 σ4 S4 x4 sub4
    have app := w_append (c := c) (σ := upd σ4 (I + 1) (lstO ys kk)) (l := I + 1) (vs := ys) (k := kk) (v := y) (X := NoX) (Q := fun _ m' σ' => m' = _ ∧ σ' = upd (upd σ4 (I + 1) (lstO ys kk)) (I + 1) (lstO (ys ++ [y]) (kk + 1))) upd_same (Nat.le_trans hlen (Nat.le_trans (Nat.le_of_lt hlt) hN)) ⟨rfl, rfl⟩ { s with heap := h4, toks := tk4 } F4 (B.stoU (le1 I) S4 hD4)
    refine wpAny_mono app (fun _ s6 A6 => ?_) fun e s6 A6 => A6.no.elim
    obtain ⟨h6, tk6, m6, σ6, rfl, F6, S6, x6, em, rfl⟩ := A6
    subst em
    have subτ : Sub (drop (I + 2) σ4) (upd (upd σ4 (I + 1) (lstO ys kk)) (I + 1) (lstO (ys ++ [y]) (kk + 1))) := fun a o e => by
      have e' := drop_sub a o e
      have hne : a ≠ I + 1 := fun q => by rw [q, nD4] at e'; cases e'
      rw [upd_ne hne, upd_ne hne]
      exact e'
    have S7 := S6.sub subτ
    exact ⟨N - (i + 1), sub_lt hlt, i + 1, ys ++ [y], drop (I + 2) σ4, h6, tk6, kk + 1, oC2, _, rfl, hlt, rfl,
      ⟨F6, S7, ((B.fraU (le1 I) (fx2.trans x4 S4)).trans x6 S6).less subτ, (S6 _ _ upd_same).1, (S6 (I + 2) oC2 (by rw [upd_ne (n21 I), upd_ne (n21 I)]; exact sub4 _ _ upd_same)).1, sub5, (drop_ne (n12 I)).trans nD4, drop_same⟩,
      hP4, swOf h6 _ F6 S7 sub5 (x6.kept _ _ hI4 (by rw [upd_ne (n01 I)]; exact nI4) (B.notFA (Nat.le_refl _))), (drop_ne (n02 I)).trans nI4, ⟨es2, ep2, hn2'⟩, by rw [List.length_append]; exact Nat.succ_le_succ hlen⟩
  | false =>
    rw [if_neg (by decide)]
    obtain ⟨h4, tk4, m4, σ4, rfl, F4, S4, x4, qq⟩ := A3
    obtain ⟨em, sub4, hP4⟩ := qq.2 rfl
    subst em
    obtain ⟨nD4, nI4, hD4, hI4, sub5⟩ := common h4 σ4 S4 x4 sub4
    have S7 := S4.sub (drop_sub (C := I + 2))
    exact ⟨N - (i + 1), sub_lt hlt, i + 1, ys, drop (I + 2) σ4, h4, tk4, kk, oC2, _, rfl, hlt, rfl,
      ⟨F4, S7, (fx2.trans x4 S4).less drop_sub, hD4, (S4 (I + 2) oC2 (sub4 _ _ upd_same)).1, sub5, (drop_ne (n12 I)).trans nD4, drop_same⟩,
      hP4, swOf h4 _ F4 S7 sub5 hI4, (drop_ne (n02 I)).trans nI4, ⟨es2, ep2, hn2'⟩, Nat.le_succ_of_le hlen⟩
/-- what is walked -/
structure CWalk (c : Cx) (m : Loc) (σ : Store) (v : Value) (N : Nat) (Pv : Nat → Value → Prop) (fp : Addr → List Addr) (SW : Addr → Nat → Heap → Prop) : Prop where
  opens : ∀ s, Frm c s.heap m → Sto c s.heap σ → ∃ io : Obj, io.isFreed = false ∧ Walks c.g.prog c.g.w c.A s.heap.objs.size (fp s.heap.objs.size) [s.heap.objs.size] N Pv (SW s.heap.objs.size) ∧ SW s.heap.objs.size 0 (s.heap.push io) ∧
    ∀ Q' E', Q' (.ref s.heap.objs.size) { s with heap := s.heap.push io } → wpAny (model c.g.prog c.g.w) c.A (pyIter v) Q' E' s
  isSome : ∀ I i h, SW I i h → (h.get? I).isSome = true
  stay : ∀ I, ∀ b ∈ fp I, b ≠ I → ∃ o, (c.h₀.get? b = some o ∨ σ b = some o)
theorem comp_core {n : Nat} {scope : Scope} {x : Str} {v : Value} {pos : Pos} {ifs : List Expr} {elt iter : Expr} {px : Pos} {use : Option (Value → Sem Unit)} {Q : Shared → Value → Shared → Prop} (g : Gnd n c) (hcell : ∀ y ∈ scope.names, y.2 ≠ .cell) (hkind : scope.kind = .function) (hx : scope.names.lookup x = some .local) {N : Nat} (hN : N ≤ sizeLine) {Pv : Nat → Value → Prop} {fp : Addr → List Addr} {SW : Addr → Nat → Heap → Prop}
    (P : Nat → List Value → Store → Prop) (wk : CWalk c m σ v N Pv fp SW) (h0 : P 0 [] σ) (turn : ∀ i v, i < N → Pv i v → EltOkG c scope x ifs elt m σ P i v)
    (fin : ∀ s I ys τ h tk kk oC mm, CBase c m σ s I → CAt c m σ s I τ h ys kk oC → P N ys τ → NsO oC mm → compPost (model c.g.prog c.g.w) c.A (fun _ _ => False) use (Q s) (.ref (I + 1)) (I + 2) (.ok .next) { s with heap := h, toks := tk }) :
    CompG c ifs elt iter x px scope pos v m σ use Q := by
  intro cl hcl s F S
  obtain ⟨io, hio, Wk, sw0, go⟩ := wk.opens s F S
  refine go _ _ ?_
  have B : CBase c m σ s s.heap.objs.size := ⟨F, S, rfl⟩
  generalize hI : s.heap.objs.size = I at *
  have pushK : ∀ b o, s.heap.get? b = some o → (s.heap.push io).get? b = some o := fun b o e => Heap.get?_push_of_some _ e
  refine wpAny_newObj_type (wpAny_newFunctionEnv hcell (by intro y hy; cases hy) (fun h₁ hns₁ hsb₁ => ?_) hkind) (by show (0 : Nat) ≤ sizeLine; exact Nat.zero_le _)
  dsimp only at hns₁ hsb₁ ⊢
  have hD : (s.heap.push io).objs.size = I + 1 := by rw [Heap.size_push, hI]
  generalize hH2 : (s.heap.push io).push { cls := .type "list", dict := none, data := .seq ([] : List Value).toArray } = H2 at hns₁ hsb₁ ⊢
  have hC : H2.objs.size = I + 2 := by rw [← hH2, Heap.size_push, hD]
  rw [hC] at hns₁ hsb₁ ⊢
  rw [hD]
  have h1keep : ∀ b o, b ≠ I + 2 → H2.get? b = some o → h₁.get? b = some o := fun b o q e => (hsb₁.2 b q).trans (Heap.get?_push_of_some _ e)
  have old1 : ∀ b o, s.heap.get? b = some o → h₁.get? b = some o := fun b o e => h1keep b o (B.ne (le2 I) e) (hH2 ▸ Heap.get?_push_of_some _ (pushK b o e))
  have hD1 : h₁.get? (I + 1) = some (lstO [] 0) := h1keep _ _ (n12 I) (by rw [← hH2, ← hD]; exact Heap.get?_push_size _ rfl)
  have CE : CompEnv c scope { newEnv scope (I + 2) c.env.globals cl c.env.qual none .none (some c.env) builtinsNs with scope := relabel scope c.env } (I + 2) :=
    ⟨⟨hkind, g.glob, g.bi⟩, rfl, fun y k hy hk => look_relabel_other hk hy, fun y hy hk => look_relabel_free g.knd hy hk, fun y a hy ha => hcl y a (by
      obtain ⟨l₁, l₂, e, _⟩ := List.lookup_eq_some_iff.mp hy
      rw [e]; exact List.mem_append_right _ (List.mem_cons_self ..)) ha⟩
  generalize hE : ({ newEnv scope (I + 2) c.env.globals cl c.env.qual none .none (some c.env) builtinsNs with scope := relabel scope c.env } : Env) = cenv at CE ⊢
  have hloc : (newEnv scope (I + 2) c.env.globals cl c.env.qual none .none (some c.env) builtinsNs).locals = I + 2 := rfl
  rw [hloc]
  have stayed : ∀ b ∈ fp I, b ≠ I → ∃ o, ∀ h τ, Frm c h m → Sto c h τ → Sub σ τ → h.get? b = some o := fun b hb hne => by
    obtain ⟨o, ho⟩ := wk.stay I b hb hne
    exact ⟨o, fun h τ F S sub => ho.elim (fun q => F.keep b o q) fun q => (S b o (sub b o q)).1⟩
  have sw1 : SW I 0 h₁ := Wk.frame _ _ _ sw0 fun b hb o e => by
    by_cases q : b = I
    · subst q; exact h1keep _ _ (n02 _) (hH2 ▸ Heap.get?_push_of_some _ e)
    · obtain ⟨o', ho'⟩ := stayed b hb q
      have hb' := ho' s.heap σ F S (Sub.refl _)
      rw [pushK b o' hb'] at e; cases e
      exact old1 b o hb'
  clear hD hC hH2 sw0 pushK go hio hcl hsb₁ hloc hE
  have loop : ∀ tk, codeAny (model c.g.prog c.g.w) c.A (.compLoop (.ListComp elt [⟨.Name x px, iter, ifs, 0⟩] scope pos) 0 (.ref I) (.ref (I + 1)) cenv)
      (compPost (model c.g.prog c.g.w) c.A (fun _ _ => False) use (Q s) (.ref (I + 1)) (I + 2)) { s with heap := h₁, toks := tk } := by
    intro tk0
    refine codeAny_compLoop_tests (CInv c m σ s I (SW I) P N) ?_ N ?_
    · rintro k s' ⟨i, ys, τ, h, tk, kk, oC, mm, rfl, hi, rfl, A, hP, sw, nI, hn, hlen⟩
      rcases Nat.lt_or_ge i N with hlt | hge
      · refine Wk.item i _ _ _ hlt sw fun v h' tk' hPv hsw hk => ?_
        exact comp_turn B CE hx (A.step B nI hk) hP nI (Option.isSome_iff_exists.mp (wk.isSome I _ h' hsw)) hn hlen hlt hN (turn i v hlt hPv) (fun h2 k => Wk.frame _ _ _ hsw k) stayed
      · cases Nat.le_antisymm hi hge
        refine Wk.done _ _ _ sw fun h' tk' hk => ?_
        exact fin s I ys τ h' tk' kk oC mm B (A.step B nI hk) hP hn
    · obtain ⟨oC, esC, epC, hC1, hnC⟩ := hns₁
      exact ⟨0, [], σ, h₁, tk0, 0, oC, _, rfl, Nat.zero_le _, rfl, ⟨F.keeps old1, fun a o e => ⟨old1 a o (S a o e).1, (S a o e).2⟩, ⟨fun b o e _ _ => old1 b o e, fun a o e => .inl (by rw [e]; exact fun q => nomatch q)⟩, hD1, hC1, Sub.refl _, B.notσ (le1 I), B.notσ (le2 I)⟩, h0, sw1, B.notσ (Nat.le_refl _), ⟨esC, epC, hnC⟩, Nat.le_refl _⟩
  exact codeAny_compStart_list (loop _) (Wk.self 0 _ _ _ sw1 (loop _))
theorem fin_plain {Q : Value → Loc → Store → Prop} (B : CBase c m σ s I) (A : CAt c m σ s I τ h ys kk oC) (hn : NsO oC mm) (hQ : Q (.ref (I + 1)) m (upd τ (I + 1) (lstO ys kk))) :
    compPost (model c.g.prog c.g.w) c.A (fun _ _ => False) none (fun r s' => After c σ s s' (Q r)) (.ref (I + 1)) (I + 2) (.ok .next) { s with heap := h, toks := tk } := by
  refine ⟨mm, hn.at A.hC, fun h2 hsb => ?_⟩
  have k2 : ∀ b o, b ≠ I + 2 → h.get? b = some o → h2.get? b = some o := fun b o q e => (hsb.2 b q).trans e
  exact ⟨h2, tk, m, upd τ (I + 1) (lstO ys kk), rfl, B.frm (le2 I) A.F k2, B.stoU (le1 I) (A.S.step A.nC k2) (k2 _ _ (n12 I) A.hD), B.fraU (le1 I) (B.fra (le2 I) A.x k2), hQ⟩
end
section
variable {n : Nat} {c : Cx} {m : Loc} {σ : Store} {X : Value → Loc → Store → Prop} {Q : Value → Loc → Store → Prop} {scope : Scope} {e : Env} {C : Addr} {x : Str} {pos : Pos} {v : Value}
theorem CWalk.list {l : Addr} {vs : List Value} {k : Nat} (g : Gnd n c) (hl : σ l = some (lstO vs k)) : CWalk c m σ (.ref l) vs.length (fun j v => vs.toArray[j]? = some v) (fun I => [I, l]) (fun I j h => h.IsListIter I l j ∧ h.IsList l vs.toArray) := by
  refine ⟨fun s F S => ?_, ?_, fun I b hb hne => ?_⟩
  · have hls := isList_of S hl
    have Wk := Walks.list (prog := c.g.prog) (w := c.g.w) g.hh s.heap.objs.size l (Nat.ne_of_lt (S.lt hl)) vs.toArray
    rw [List.size_toArray] at Wk
    exact ⟨{ cls := .type "list_iterator", data := .fields #[.ref l, .int 0 0] }, rfl, Wk, ⟨⟨_, Heap.get?_push_size _ rfl, rfl, rfl⟩, hls.at fun o e => Heap.get?_push_of_some _ e⟩, fun Q' E' hq => wpAny_pyIter_list hls hq⟩
  · rintro I j h ⟨⟨o, ho, _⟩, _⟩; rw [ho]; rfl
  · rcases List.mem_cons.mp hb with q | q
    · exact absurd q hne
    · rw [List.mem_singleton.mp q]; exact ⟨_, .inr hl⟩
theorem CWalk.range {r : Addr} {i k : Int} {t u w : Tok} (g : Gnd n c) (hr : σ r = some (rngO i k t u w)) (hi : -(2 ^ 62) ≤ i) (hi' : i < 2 ^ 62) (hk : -(2 ^ 62) ≤ k) (hk' : k < 2 ^ 62) :
    CWalk c m σ (.ref r) (k - i).toNat (fun j v => ∃ t, v = .int (i + j * 1) t) (fun I => [I]) (fun I j h => IsRangeIter h I (i + (j : Nat) * 1) (((k - i).toNat : Int) - (j : Nat)) 1) := by
  have hsz : Builtin.Range.rangeSize i k 1 = (((k - i).toNat : Nat) : Int) := by rw [rangeSize_one]; split <;> omega
  refine ⟨fun s F S => ⟨{ cls := .type "range_iterator", data := .fields #[rawInt i, rawInt (Builtin.Range.rangeSize i k 1), rawInt 1] }, rfl, Walks.range g.hh _ i 1 _, ?_, fun Q' E' hq => wpAny_pyIter_range (S r _ hr).1 (small_one hi hi' hk hk') hq⟩, fun I j h e => ?_, fun I b hb hne => absurd (List.mem_singleton.mp hb) hne⟩
  · show IsRangeIter _ _ _ _ _
    rw [hsz]
    simpa using Heap.get?_push_size s.heap (o := { cls := .type "range_iterator", data := .fields #[rawInt i, rawInt (((k - i).toNat : Nat) : Int), rawInt 1] }) rfl
  · rw [show h.get? I = _ from e]; rfl
theorem list_at {vs : List Value} {j : Nat} {v : Value} (h : vs.toArray[j]? = some v) : vs[j]? = some v := by simpa using h

theorem comp_range {elt iter : Expr} {px : Pos} {r : Addr} {i k : Int} {t u w : Tok} (g : Gnd n c) (hcell : ∀ y ∈ scope.names, y.2 ≠ .cell) (hkind : scope.kind = .function) (hx : scope.names.lookup x = some .local)
    (P : Nat → List Value → Store → Prop) (mono : ∀ i ys τ τ', Sub τ τ' → P i ys τ → P i ys τ')
    (hr : σ r = some (rngO i k t u w)) (hi : -(2 ^ 62) ≤ i) (hi' : i < 2 ^ 62) (hk : -(2 ^ 62) ≤ k) (hk' : k < 2 ^ 62) (hN : (k - i).toNat ≤ sizeLine) (h0 : P 0 [] σ)
    (turn : ∀ j t, j < (k - i).toNat → EltOk c scope x elt m σ P j (.int (i + j) t))
    (done : ∀ D σ' ys kk, σ D = none → σ' D = none → Sub σ σ' → ys.length = (k - i).toNat → P (k - i).toNat ys σ' → Q (.ref D) m (upd σ' D (lstO ys kk))) : Comp c elt iter x px scope pos (.ref r) m σ Q := by
  refine comp_core g hcell hkind hx hN (fun i ys τ => ys.length = i ∧ P i ys τ) (CWalk.range g hr hi hi' hk hk') ⟨rfl, h0⟩ ?_ fun s I ys τ h tk kk oC mm B A hP hn => fin_plain B A hn (done _ τ ys kk (B.notσ (le1 I)) A.nD A.sub hP.1 hP.2)
  rintro j v hj ⟨t, rfl⟩
  rw [Int.mul_one]
  exact (turn j t hj).plain
theorem comp_list {elt iter : Expr} {px : Pos} {l : Addr} {vs : List Value} {k : Nat} (g : Gnd n c) (hcell : ∀ y ∈ scope.names, y.2 ≠ .cell) (hkind : scope.kind = .function) (hx : scope.names.lookup x = some .local)
    (P : Nat → List Value → Store → Prop) (mono : ∀ i ys τ τ', Sub τ τ' → P i ys τ → P i ys τ')
    (hl : σ l = some (lstO vs k)) (hN : vs.length ≤ sizeLine) (h0 : P 0 [] σ)
    (turn : ∀ j v, vs[j]? = some v → EltOk c scope x elt m σ P j v)
    (done : ∀ D σ' ys kk, σ D = none → σ' D = none → Sub σ σ' → ys.length = vs.length → P vs.length ys σ' → Q (.ref D) m (upd σ' D (lstO ys kk))) : Comp c elt iter x px scope pos (.ref l) m σ Q :=
  comp_core g hcell hkind hx hN (fun i ys τ => ys.length = i ∧ P i ys τ) (CWalk.list g hl) ⟨rfl, h0⟩ (fun j v _ hv => (turn j v (list_at hv)).plain) fun s I ys τ h tk kk oC mm B A hP hn => fin_plain B A hn (done _ τ ys kk (B.notσ (le1 I)) A.nD A.sub hP.1 hP.2)
end
end Mine

open PySem PySem.W PySem.Calls PyProof.Rows
namespace Mine
section
variable {n : Nat} {c : Cx} {m : Loc} {σ : Store} {X : Value → Loc → Store → Prop}

/-! ## while -/
/-! ## more tests -/
variable {Q : Value → Loc → Store → Prop}
theorem ne_nil {l₁ l₂ : Addr} {vs : List Value} {k₁ k₂ : Nat} (g : Gnd n c) (h1 : σ l₁ = some (lstO vs k₁)) (h2 : σ l₂ = some (lstO [] k₂)) (h : Q (.bool (!decide (vs.length = 0))) m σ) : W c (compareOp .NotEq (.ref l₁) (.ref l₂)) m σ Q X := fun s F S => by
  have hu : c.A.units < cLine := by have := g.un; omega
  cases vs with
  | nil => exact PySem.SeqAt.RcNeAt.lists (e := fun _ => true) (isList_of S h1) (isList_of S h2) rfl hu (fun j h1 => absurd h1 (by simp)) _ _ _ _ (After.here F S h)
  | cons v vs => exact PySem.SeqAt.RcNeAt.lists_lengths (isList_of S h1) (isList_of S h2) rfl hu _ _ _ _ (After.here F S (by simpa using h))
theorem eq_bools {a b : Bool} (h : Q (.bool (a == b)) m σ) : W c (compareOp .Eq (.bool a) (.bool b)) m σ Q X := fun _ F S => eq_bool (After.here F S h)
end
end Mine

open PySem PySem.W PySem.Calls PyProof.Rows
namespace Mine
abbrev veBm : List Value := [.type "ValueError", .type "Exception", .type "BaseException", .type "object"]
def excO (C t : Addr) : Obj := { cls := .ref C, data := .fields #[.ref t, .none, .none, .none, .bool false, .none] }
section
variable {n : Nat} {c : Cx} {m : Loc} {σ : Store} {X : Value → Loc → Store → Prop} {sc : Scope}

/-! ## raise -/
/-! ## a function that throws -/
/-- what a throwing call leaves -/
abbrev Thr (C : Addr) (σ : Store) : Value → Store → Prop := fun v σ' => v = .int (C : Nat) 0 ∧ Sub σ σ'
/-- what a throwing body leaves -/
abbrev ThrB (C : Addr) (σ : Store) : Value → Loc → Store → Prop := fun v _ σ' => (v = .int (C : Nat) 0 ∧ Sub σ σ') ∨ ∃ e t vs, v = .ref e ∧ σ e = none ∧ σ' e = some (excO C t) ∧ σ' t = some (tupO vs) ∧ Sub σ σ'
end
end Mine

open PySem PySem.W PySem.Calls PyProof.Rows
namespace Mine
/-- a call from the law's own frame -/
def FnT (g : Pg) (n : Nat) (f : Value) (args : List Value) (σ : Store) (Q : Value → Store → Prop) : Prop :=
  ∀ (A : Around) (env : Env) (m : Loc) (s : Shared), Gnd n ⟨g, A, env, g.h⟩ → A.frames = some [env] → Frm ⟨g, A, env, g.h⟩ s.heap m → Sto ⟨g, A, env, g.h⟩ s.heap σ →
    codeAny (model g.prog g.w) A (.call f ⟨args, []⟩) (fun r s' => match r with
      | .ok (.ret v) => After ⟨g, A, env, g.h⟩ σ s s' (fun m' σ' => m' = m ∧ Q v σ')
      | _ => False) s
section
variable {n : Nat} {c : Cx} {m : Loc} {σ : Store} {X : Value → Loc → Store → Prop} {sc : Scope} {x : Str} {pos : Pos} {v : Value}
/-- the ground of a handler's suite -/
structure GndS (c : Cx) : Prop where
  ok : EnvOk c.env
  X : c.g.K.In c.h₀
  T : Top c.g.p c.g.loose c.g.mean c.g.mg c.g.mb c.h₀
end

section
variable {n : Nat} {σ : Store}
end
end Mine

open PySem PySem.W PySem.Calls PyProof.Rows
namespace Mine
/-- what the top knows of an own exception class -/
structure ExcCls (K : Frag) (C : Addr) : Prop where
  ga : findIn K (.ref C) "__getattribute__" = some (some (.builtin "BaseException.__getattribute__"))
  gt : findIn K (.ref C) "__getattr__" = some none
  cl : findIn K (.ref C) "__class__" = some (some (.builtin "object.__class__"))
  mo : mroIn K C (.type "object") = some true
  mb : subIn K (.ref C) (.type "BaseException") = some true
  it : (clsIn K C).isSome = true
section
variable {prog : Program} {w : World} {A : Around} {E : Value → Shared → Prop} {h : Heap} {g : Array GenState} {d : Drawn} {t : Nat} {os : OsState} {K : Frag} {C e : Addr} {oe : Obj} {vs : Array Value}
def IsOf (h : Heap) (e C : Addr) : Prop := ∃ oe, h.get? e = some oe ∧ oe.cls = .ref C
open Builtin Builtin.ObjectAttr Builtin.Getset_descriptor in
end
section
variable {c : Cx} {m : Loc} {σ : Store} {X : Value → Loc → Store → Prop} {Q : Value → Loc → Store → Prop}
/-- a thing that is no int -/
def NotInt (σ : Store) (th : Value) : Prop := (∃ x t, th = .str x t) ∨ th = .none ∨ (∃ a o, th = .ref a ∧ σ a = some o ∧ (o.cls = .type "list" ∨ o.cls = .type "dict" ∨ o.cls = .type "tuple"))
end
end Mine

open PySem PySem.W PySem.Calls PyProof.Rows
namespace Mine
section
variable {n : Nat} {c : Cx} {env : Env} {m : Loc} {σ : Store} {X : Value → Loc → Store → Prop} {Q : Value → Loc → Store → Prop}
theorem i_min2 {a b : Int} {t u : Tok} (g : Gnd n c) (h : ∀ tk, Q (.int (if b < a then b else a) tk) m σ) : W c (call (.builtin "min") [.int a t, .int b u]) m σ Q X :=
  fun s F S => min_two_N g.hh F.F (all_news c s.heap) fun h' tk F' N' => After.at (stayed F S F' N') (h _)
end
end Mine
namespace Mine
section
variable {n : Nat} {c : Cx} {env : Env} {m : Loc} {σ : Store} {X : Value → Loc → Store → Prop} {Q : Value → Loc → Store → Prop}
end
end Mine

open PySem PySem.W PySem.Calls PyProof.Rows
namespace Mine
section
variable {n : Nat} {c : Cx} {m : Loc} {σ : Store} {X : Value → Loc → Store → Prop} {scope : Scope} {e : Env} {C : Addr} {x : Str} {pos : Pos} {v : Value}
/-- the word of the whole, behind what is walked -/
def CompU (c : Cx) (elt iter : Expr) (x : Str) (px : Pos) (scope : Scope) (pos : Pos) (v : Value) (m : Loc) (σ : Store) (y : Str) (py : Pos) (Q : Loc → Store → Prop) : Prop :=
  CompG c [] elt iter x px scope pos v m σ (some (assign (.Name y py) c.env)) (fun s _ s' => After c σ s s' Q)

theorem x_assign_comp {elt iter : Expr} {px py spos : Pos} {y : Str} {rest : List Stmt} {Q : Flow → Loc → Store → Prop} (g : Gnd n c) (hy : c.env.kindOf y = some .local) (hl : (py.line == pos.line && !(scope.names.any fun (n, k) => n == y && (k == .local || k == .cell))) = true)
    (hfree : ∀ y ∈ scope.names, y.2 = NameKind.free → ∃ a, c.env.cells.lookup y.1 = some a) (hkind : scope.kind = .function) (hnames : ∀ x ∈ scope.names, x.2 = .local → scope.names.lookup x.1 = some .local)
    (hs : ∀ x, foldedSetIterable iter c.env x = Pure.pure x) (h : W c (eval iter c.env) m σ (fun v m₁ σ₁ => CompU c elt iter x px scope pos v m₁ σ₁ y py (fun m₂ σ₂ => W c (execs rest c.env) m₂ σ₂ Q X)) X) :
    W c (execs (.Assign [.Name y py] (.ListComp elt [⟨.Name x px, iter, [], 0⟩] scope pos) spos :: rest) c.env) m σ Q X := by
  have hsw : swapsWith (.ListComp elt [⟨.Name x px, iter, [], 0⟩] scope pos) (some (.Name y py)) spos.line c.env = Pure.pure true := by
    show (Pure.pure (c.env.blockKind == .function && c.env.kindOf y == some .local && py.line == pos.line && !(scope.names.any fun (n, k) => n == y && (k == .local || k == .cell))) : Sem Bool) = _
    rw [Bool.and_assoc, hl, hy]
    unfold Env.blockKind
    rw [g.knd]; rfl
  refine w_execs_cons (fun s F S => ?_)
  obtain ⟨cl, hcl, hl⟩ := closure_is hfree
  rw [exec_Assign_Name_used _ _ _ _ hsw]
  refine wpAny_bind (wpAny_standAt (wpAny_bind ?_))
  show wpAny _ _ (do let _ ← comprehension (.ListComp elt [⟨.Name x px, iter, [], 0⟩] scope pos) scope c.env _ (newList []) false (eval iter c.env) (some (assign (.Name y py) c.env))) _ _ s
  refine wpAny_bind (wpAny_mono (wpAny_comprehension_free (g := ⟨.Name x px, iter, [], 0⟩) (gs := []) (use := some (assign (.Name y py) c.env)) (Q := fun _ s' => After c σ s s' (fun m₂ σ₂ => W c (execs rest c.env) m₂ σ₂ Q X)) rfl hs hcl hkind hnames ?_) (fun _ s' hq => wpAny_pure (wpAny_pure ?_)) fun _ _ e => e)
  · refine wpAny_mono (h s F S) (fun v s₁ A => ?_) fun _ _ x => x
    obtain ⟨h', tk, m', σ', rfl, F', S', fx, T⟩ := A
    refine wpAny_mono (T cl hl { s with heap := h', toks := tk } F' S') (fun it s₂ C => wpAny_mono C (fun acc s₃ C => wpAny_mono C (fun cenv s₄ C => codeAny_mono C fun r s' z => ?_) fun _ _ x => x.elim) fun _ _ x => x.elim) fun _ _ x => x.elim
    cases r with
    | ok f =>
      refine wpAny_mono z (fun _ s'' k => ?_) fun _ _ x => x.elim
      obtain ⟨mm, hn, k⟩ := k
      exact ⟨mm, hn, fun h' hs => (k h' hs).on rfl fx⟩
    | error e =>
      obtain ⟨mm, hn, k⟩ := z
      exact ⟨mm, hn, fun h' hs ce hce => wpAny_mono (k h' hs ce hce) (fun _ _ x => x) fun _ _ x => x.elim⟩
  · exact hq
theorem fin_use {s : Shared} {I : Addr} {τ : Store} {h : Heap} {ys : List Value} {kk tk : Nat} {oC : Obj} {mm : Loc} {y : Str} {py : Pos} {Q : Loc → Store → Prop} (g : Gnd n c) (hy : c.env.kindOf y = some .local) (hyc : c.env.cells.lookup y = none)
    (B : CBase c m σ s I) (A : CAt c m σ s I τ h ys kk oC) (hn : NsO oC mm) (hQ : Q (setM m y (.ref (I + 1))) (upd τ (I + 1) (lstO ys kk))) :
    compPost (model c.g.prog c.g.w) c.A (fun _ _ => False) (some (assign (.Name y py) c.env)) (fun _ s' => After c σ s s' Q) (.ref (I + 1)) (I + 2) (.ok .next) { s with heap := h, toks := tk } := by
  have key := w_store (x := y) (v := .ref (I + 1)) (X := NoX) (Q := fun _ m' σ' => m' = setM m y (.ref (I + 1)) ∧ σ' = upd (upd τ (I + 1) (lstO ys kk)) (I + 2) oC) g.knd hy hyc ⟨rfl, rfl⟩ { s with heap := h, toks := tk } A.F (B.stoU (le2 I) (B.stoU (le1 I) A.S A.hD) A.hC)
  refine wpAny_mono (wpAny_assign_Name key) (fun _ s4 A4 => ?_) fun e s4 A4 => A4.no.elim
  obtain ⟨h4, tk4, m4, σ4, rfl, F4, S4, x4, rfl, rfl⟩ := A4
  refine ⟨mm, hn.at (S4 _ _ upd_same).1, fun h2 hsb => ?_⟩
  have k2 : ∀ b o, b ≠ I + 2 → h4.get? b = some o → h2.get? b = some o := fun b o q e => (hsb.2 b q).trans e
  have nC1 : upd τ (I + 1) (lstO ys kk) (I + 2) = none := (upd_ne (n21 I)).trans A.nC
  have fx4 := (B.fraU (o := oC) (le2 I) (B.fraU (o := lstO ys kk) (le1 I) A.x)).trans x4 S4
  exact ⟨h2, tk4, _, upd τ (I + 1) (lstO ys kk), rfl, B.frm (le2 I) F4 k2, (S4.sub (sub_upd nC1)).step nC1 k2, B.fra (le2 I) (fx4.less (sub_upd nC1)) k2, hQ⟩
theorem comp_rangeU {elt iter : Expr} {px py : Pos} {y : Str} {r : Addr} {i k : Int} {t u w : Tok} (g : Gnd n c) (hy : c.env.kindOf y = some .local) (hyc : c.env.cells.lookup y = none) (hcell : ∀ y ∈ scope.names, y.2 ≠ .cell) (hkind : scope.kind = .function) (hx : scope.names.lookup x = some .local)
    (P : Nat → List Value → Store → Prop) (mono : ∀ i ys τ τ', Sub τ τ' → P i ys τ → P i ys τ')
    (hr : σ r = some (rngO i k t u w)) (hi : -(2 ^ 62) ≤ i) (hi' : i < 2 ^ 62) (hk : -(2 ^ 62) ≤ k) (hk' : k < 2 ^ 62) (hN : (k - i).toNat ≤ sizeLine) (h0 : P 0 [] σ)
    (turn : ∀ j t, j < (k - i).toNat → EltOk c scope x elt m σ P j (.int (i + j) t))
    (done : ∀ D σ' ys kk, σ D = none → σ' D = none → Sub σ σ' → ys.length = (k - i).toNat → P (k - i).toNat ys σ' → Q (setM m y (.ref D)) (upd σ' D (lstO ys kk))) : CompU c elt iter x px scope pos (.ref r) m σ y py Q := by
  refine comp_core g hcell hkind hx hN (fun i ys τ => ys.length = i ∧ P i ys τ) (CWalk.range g hr hi hi' hk hk') ⟨rfl, h0⟩ ?_ fun s I ys τ h tk kk oC mm B A hP hn => fin_use g hy hyc B A hn (done _ τ ys kk (B.notσ (le1 I)) A.nD A.sub hP.1 hP.2)
  rintro j v hj ⟨t, rfl⟩
  rw [Int.mul_one]
  exact (turn j t hj).plain
end
end Mine

open PySem PySem.W PySem.Calls PyProof.Rows
namespace Mine
/-! ## dicts with text keys -/
/-- the dict at d holds these pairs -/
def DicAt (g : Pg) (σ : Store) (d : Addr) (kvs : List (Str × Value)) : Prop := ∃ o, σ d = some o ∧ o.IsDictOf (strKind g.prog g.w) kvs
theorem DicAt.sub {g : Pg} {σ τ : Store} {d : Addr} {kvs : List (Str × Value)} (h : DicAt g σ d kvs) (s : Sub σ τ) : DicAt g τ d kvs := let ⟨o, e, q⟩ := h; ⟨o, s _ _ e, q⟩
theorem DicAt.new {g : Pg} {σ : Store} {d : Addr} {o : Obj} {kvs : List (Str × Value)} (h : o.IsDictOf (strKind g.prog g.w) kvs) : DicAt g (upd σ d o) d kvs := ⟨o, upd_same, h⟩
theorem DicAt.off {g : Pg} {σ : Store} {d a : Addr} {o : Obj} {kvs : List (Str × Value)} (h : DicAt g σ d kvs) (n : d ≠ a) : DicAt g (upd σ a o) d kvs := let ⟨o', e, q⟩ := h; ⟨o', by rw [upd_ne n]; exact e, q⟩
section
variable {n : Nat} {c : Cx} {env : Env} {m : Loc} {σ : Store} {X : Value → Loc → Store → Prop} {Q : Value → Loc → Store → Prop}
theorem turned_same {s : Shared} {d : Addr} {o o' : Obj} {h' : Heap} (F : Frm c s.heap m) (S : Sto c s.heap σ) (hd : σ d = some o) (hs : Heap.SameBut d s.heap h') (ho' : h'.get? d = some o') :
    Frm c h' m ∧ Sto c h' (upd σ d o') ∧ Fra c σ s.heap h' (upd σ d o') := by
  have nd := (S d o hd).2
  have k2 : ∀ b x, b ≠ d → s.heap.get? b = some x → h'.get? b = some x := fun b x q e => (hs.2 b q).trans e
  refine ⟨?_, fun a x e => ?_, fun a x e z _ => k2 a x (fun q => by rw [q, hd] at z; cases z) e, fun a x e => ?_⟩
  · refine F.on ⟨?_, fun b x e => k2 b x (fun q => by rw [q, nd.2] at e; cases e) (F.keep b x e), F.F.above⟩ fun x b hb o e => k2 b o (fun q => nd.1 (q ▸ .inr ⟨x, hb⟩)) e
    obtain ⟨oL, es, ep, hL, r⟩ := F.F.ns
    exact ⟨oL, es, ep, k2 _ _ (fun q => nd.1 (.inl q.symm)) hL, r⟩
  · by_cases q : a = d
    · subst q; rw [upd_same] at e; cases e; exact ⟨ho', nd⟩
    · rw [upd_ne q] at e; exact ⟨k2 a x q (S a x e).1, (S a x e).2⟩
  · by_cases q : a = d
    · subst q; exact .inl (by rw [hd]; exact fun z => nomatch z)
    · rw [upd_ne q] at e; exact .inl (by rw [e]; exact fun z => nomatch z)
theorem dic_of {h : Heap} {d : Addr} {kvs : List (Str × Value)} (S : Sto c h σ) (hd : DicAt c.g σ d kvs) : h.DictOf (strKind c.g.prog c.g.w) d kvs := let ⟨o, e, q⟩ := hd; Heap.dictOf_iff.mpr ⟨o, (S d o e).1, q⟩
theorem w_dget {value slice : Expr} {d : Addr} {kvs : List (Str × Value)} {k : Str} {t : Tok} {v : Value} (hd : DicAt c.g σ d kvs) (hv : valueAt kvs k = some v) (h : Q v m σ)
    (hs : subscripted slice false (.ref d) (.str k t) = operate [.ref d, .str k t] (getItem (.ref d) (.str k t)) := by with_unfolding_all rfl) : W c (subscriptTail value slice (.ref d) (.str k t)) m σ Q X :=
  fun s F S => tail_any (dic_of S hd).typeIs slot_dict_getitem.lookup (wpAny_getItem_of (strKind_is _ _ k t) (dic_of S hd).mapOf hv (After.tok F S h)) hs
theorem w_dset {d : Addr} {kvs : List (Str × Value)} {k : Str} {t : Tok} {v : Value} {Q : Unit → Loc → Store → Prop} (hd : DicAt c.g σ d kvs) (hz : kvs.length ≤ sizeLine) (h : ∀ o', o'.IsDictOf (strKind c.g.prog c.g.w) (stored kvs k v) → Q () m (upd σ d o')) :
    W c (setItem (.ref d) (.str k t) v) m σ Q X := fun s F S => by
  refine wpAny_setItem_pairs (strKind_is _ _ k t) (dic_of S hd) (fun h' hm hs => ?_) hz
  obtain ⟨o, ho, q⟩ := Heap.dictOf_iff.mp hm
  obtain ⟨o0, e0, _⟩ := hd
  exact After.at (turned_same F S e0 hs ho) (h o q)
theorem w_assign_sub {o i value : Expr} {pos' pos : Pos} {Q : Flow → Loc → Store → Prop} (hs : swapsWith value (some (.Subscript o i pos')) pos.line env = Pure.pure false)
    (h : W c (eval value env) m σ (fun v m' σ' => W c (eval o env) m' σ' (fun ov m₂ σ₂ => W c (eval i env) m₂ σ₂ (fun iv m₃ σ₃ => W c (setItem ov iv v) m₃ σ₃ (fun _ => Q .next) X) X) X) X) : W c (exec (.Assign [.Subscript o i pos'] value pos) env) m σ Q X :=
  fun s F S => wpAny_Assign_Subscript (wpAny_mono (h s F S) (fun _ _ A => wpAny_mono (A.next fun _ _ w => w) (fun _ _ A' => wpAny_mono (A'.next fun _ _ w => w) (fun _ _ A'' => A''.next fun _ _ w => w) fun _ _ x => x) fun _ _ x => x) fun _ _ x => x) hs
theorem x_sub {o i value : Expr} {pos' pos : Pos} {rest : List Stmt} {Q : Flow → Loc → Store → Prop} (hs : swapsWith value (some (.Subscript o i pos')) pos.line env = Pure.pure false)
    (h : W c (eval value env) m σ (fun v m' σ' => W c (eval o env) m' σ' (fun ov m₂ σ₂ => W c (eval i env) m₂ σ₂ (fun iv m₃ σ₃ => W c (setItem ov iv v) m₃ σ₃ (fun _ m₄ σ₄ => W c (execs rest env) m₄ σ₄ Q X) X) X) X) X) : W c (execs (.Assign [.Subscript o i pos'] value pos :: rest) env) m σ Q X :=
  w_execs_cons (w_assign_sub hs h)
/-- a dict, written -/
theorem w_pairs {k v : Expr} {ks : List (Option Expr)} {vs : List Expr} {pos : Pos} {Q : List (Value × Value) → Loc → Store → Prop}
    (h : W c (eval k env) m σ (fun kv m₁ σ₁ => W c (eval v env) m₁ σ₁ (fun vv m₂ σ₂ => W c (evalPairs (pairTrees ks vs env pos)) m₂ σ₂ (fun r m₃ σ₃ => Q ((kv, vv) :: r) m₃ σ₃) X) X) X) : W c (evalPairs (pairTrees (some k :: ks) (v :: vs) env pos)) m σ Q X :=
  fun s F S => pairTrees_cons_walk (wpAny_mono (h s F S) (fun _ _ A => wpAny_mono (A.next fun _ _ w => w) (fun _ _ A' => A'.next fun _ _ w => w) fun _ _ x => x) fun _ _ x => x)
theorem w_pairs_nil {pos : Pos} {Q : List (Value × Value) → Loc → Store → Prop} (h : Q [] m σ) : W c (evalPairs (pairTrees [] [] env pos)) m σ Q X := fun _ F S => pairTrees_nil_walk (After.here F S h)
theorem w_dictS {keys : List (Option Expr)} {values : List Expr} {pos : Pos} (hall : keys.all (·.isSome) = true) (hl : keys.length = values.length) (h0 : keys ≠ []) (hlen : keys.length ≤ 15)
    (h : W c (evalPairs (pairTrees keys values env pos)) m σ (fun vs m' σ' => ∃ kvs, Carries (strKind c.g.prog c.g.w) vs kvs ∧ ∀ a o, σ' a = none → o.IsDictOf (strKind c.g.prog c.g.w) (merged [] kvs) → Q (.ref a) m' (upd σ' a o)) X) : W c (eval (.Dict keys values pos) env) m σ Q X := fun s F S => by
  refine Dict_made (knd := strKind c.g.prog c.g.w) F.F hall hl h0 hlen fun F1 => ?_
  have hn : s.heap.get? s.heap.objs.size = none := no_end _
  have F1' : Frm c (s.heap.push { cls := .type "dict", data := .dict #[] }) m := F.keeps fun b o e => Heap.get?_push_of_some _ e
  have S1 : Sto c (s.heap.push { cls := .type "dict", data := .dict #[] }) σ := fun a o e => ⟨Heap.get?_push_of_some _ (S a o e).1, (S a o e).2⟩
  have nF : ¬ FA c s.heap.objs.size := F.notNew hn
  have n0 : c.h₀.get? s.heap.objs.size = none := by
    cases q : c.h₀.get? s.heap.objs.size with
    | none => rfl
    | some o => rw [F.keep _ o q] at hn; cases hn
  have hself : (s.heap.push { cls := .type "dict", data := .dict #[] }).get? s.heap.objs.size = some { cls := .type "dict", data := .dict #[] } := Heap.get?_push_size _ rfl
  have fx0 : Fra c σ s.heap (s.heap.push { cls := .type "dict", data := .dict #[] }) σ := ⟨fun b o e _ _ => Heap.get?_push_of_some _ e, fun a o e => .inl (by rw [e]; exact fun q => nomatch q)⟩
  have key := h { s with heap := s.heap.push { cls := .type "dict", data := .dict #[] } } F1' S1
  refine wpAny_mono key (fun vs s1 A => ?_) fun e s1 A => A.on (s := s) (tk := s.toks) rfl fx0
  obtain ⟨h1, tk1, m1, σ1, rfl, F2, S2, x2, kvs, hc, q⟩ := A
  have hd1 : h1.get? s.heap.objs.size = some { cls := .type "dict", data := .dict #[] } := x2.kept _ _ hself S.fresh nF
  have no1 : σ1 s.heap.objs.size = none := by
    cases z : σ1 s.heap.objs.size with
    | none => rfl
    | some o =>
      rcases x2.grow _ o z with r | r
      · exact absurd S.fresh r
      · rw [hself] at r; cases r
  have hdo : h1.DictOf (strKind c.g.prog c.g.w) s.heap.objs.size [] := by
    have := Heap.DictOf.new (knd := strKind c.g.prog c.g.w) s.heap
    obtain ⟨o, ho, r⟩ := Heap.dictOf_iff.mp this
    rw [hself] at ho; cases ho
    exact Heap.dictOf_iff.mpr ⟨_, hd1, r⟩
  refine ⟨kvs, hc, hdo, fun h' hm hs => ?_⟩
  obtain ⟨o, ho, r⟩ := Heap.dictOf_iff.mp hm
  have fx := fx0.trans x2 S2
  have S3 : Sto c h1 (upd σ1 s.heap.objs.size { cls := .type "dict", data := .dict #[] }) := fun a o e => by
    by_cases q : a = s.heap.objs.size
    · subst q; rw [upd_same] at e; cases e; exact ⟨hd1, nF, n0⟩
    · rw [upd_ne q] at e; exact S2 a o e
  have T := turned_same (s := { s with heap := h1, toks := tk1 }) F2 S3 upd_same hs ho
  have hq := q s.heap.objs.size o no1 r
  have e : upd (upd σ1 s.heap.objs.size { cls := .type "dict", data := .dict #[] }) s.heap.objs.size o = upd σ1 s.heap.objs.size o := by
    funext a
    by_cases q : a = s.heap.objs.size
    · rw [q, upd_same, upd_same]
    · rw [upd_ne q, upd_ne q, upd_ne q]
  rw [e] at T
  refine ⟨h', _, m1, _, rfl, T.1, T.2.1, ⟨fun a o' e z l => ?_, fun a o' e => ?_⟩, hq⟩
  · have hne : a ≠ s.heap.objs.size := fun q => by rw [q, hn] at e; cases e
    exact (hs.2 a hne).trans (fx.kept a o' e z l)
  · by_cases q : a = s.heap.objs.size
    · exact .inr (by rw [q]; exact hn)
    · rw [upd_ne q] at e; exact fx.grow a o' e
end
end Mine

open PySem PySem.W PySem.Calls PyProof.Rows
namespace Mine
theorem forIn_one {tst : Expr} {e : Env} : (forIn (m := Sem) [tst] true fun c r => if r = true then do let ok ← isTrue c e (eval c e); pure (ForInStep.yield ok) else pure (ForInStep.yield r)) = isTrue tst e (eval tst e) := by
  rw [List.forIn_cons]
  simp
section
variable {n : Nat} {c : Cx} {m : Loc} {σ : Store} {X : Value → Loc → Store → Prop} {Q : Value → Loc → Store → Prop} {scope : Scope} {e : Env} {C : Addr} {x : Str} {pos : Pos} {v : Value}
/-- one element's word, behind a test -/
def EltOkT (c : Cx) (scope : Scope) (x : Str) (tst elt : Expr) (m : Loc) (σ : Store) (P : Nat → List Value → Store → Prop) (i : Nat) (v : Value) : Prop :=
  ∀ (e : Env) (C : Addr) (oC : Obj) (mm : Loc) (τ : Store) (ys : List Value), CompEnv c scope e C → Sub σ τ → τ C = none → P i ys τ → NsO oC mm → mm x = some v →
    W c (isTrue tst e (eval tst e)) m (upd τ C oC) (fun b m₁ σ₁ => Br b (W c (eval elt e) m₁ σ₁ (fun y m' σ' => m' = m ∧ Sub (upd τ C oC) σ' ∧ P (i + 1) (ys ++ [y]) (drop C σ')) NoX) (m₁ = m ∧ Sub (upd τ C oC) σ₁ ∧ P (i + 1) ys (drop C σ₁))) NoX
/-- the word of the whole, behind what is walked -/
def CompT (c : Cx) (tst elt iter : Expr) (x : Str) (px : Pos) (scope : Scope) (pos : Pos) (v : Value) (m : Loc) (σ : Store) (Q : Value → Loc → Store → Prop) : Prop :=
  CompG c [tst] elt iter x px scope pos v m σ none (fun s r s' => After c σ s s' (Q r))
theorem w_compT {tst elt iter : Expr} {px : Pos} (hfree : ∀ y ∈ scope.names, y.2 = NameKind.free → ∃ a, c.env.cells.lookup y.1 = some a) (hkind : scope.kind = .function) (hnames : ∀ x ∈ scope.names, x.2 = .local → scope.names.lookup x.1 = some .local)
    (hs : ∀ x, foldedSetIterable iter c.env x = Pure.pure x) (h : W c (eval iter c.env) m σ (fun v m₁ σ₁ => CompT c tst elt iter x px scope pos v m₁ σ₁ Q) X) :
    W c (eval (.ListComp elt [⟨.Name x px, iter, [tst], 0⟩] scope pos) c.env) m σ Q X := w_compG hfree hkind hnames hs h
theorem comp_listT {tst elt iter : Expr} {px : Pos} {l : Addr} {vs : List Value} {k : Nat} (g : Gnd n c) (hcell : ∀ y ∈ scope.names, y.2 ≠ .cell) (hkind : scope.kind = .function) (hx : scope.names.lookup x = some .local)
    (P : Nat → List Value → Store → Prop) (mono : ∀ i ys τ τ', Sub τ τ' → P i ys τ → P i ys τ')
    (hl : σ l = some (lstO vs k)) (hN : vs.length ≤ sizeLine) (h0 : P 0 [] σ)
    (turn : ∀ j v, vs[j]? = some v → EltOkT c scope x tst elt m σ P j v)
    (done : ∀ D σ' ys kk, σ D = none → σ' D = none → Sub σ σ' → P vs.length ys σ' → Q (.ref D) m (upd σ' D (lstO ys kk))) : CompT c tst elt iter x px scope pos (.ref l) m σ Q :=
  comp_core g hcell hkind hx hN P (CWalk.list g hl) h0 (fun j v _ hv => fun e C oC mm τ ys CE sub nC hP hn hv' => by
    unfold tests
    rw [forIn_one]
    exact turn j v (list_at hv) e C oC mm τ ys CE sub nC hP hn hv') fun s I ys τ h tk kk oC mm B A hP hn => fin_plain B A hn (done _ τ ys kk (B.notσ (le1 I)) A.nD A.sub hP)
end
end Mine

open PySem PySem.W PySem.Calls PyProof.Rows
namespace Mine
section
variable {n : Nat} {c : Cx} {env : Env} {m : Loc} {σ : Store} {X : Value → Loc → Store → Prop} {Q : Value → Loc → Store → Prop}
/-! ## a tuple's parts, each into its name -/
theorem w_unpack {elts : List Expr} {k} {tpos pos : Pos} {value : Expr} {Q : Flow → Loc → Store → Prop} (g : Gnd n c) (hs : swapsWithSole [.Tuple elts k tpos] value pos.line env = Pure.pure false) (hw : swappedStores [.Tuple elts k tpos] value env = Pure.pure none)
    (h : W c (eval value env) m σ (fun v m₁ σ₁ => ∃ t vs, v = .ref t ∧ σ₁ t = some (tupO vs) ∧ (assignEach elts env).length = vs.length ∧ (assignEach elts env).findIdx? (·.1) = none ∧ W c (assignInOrder ((assignEach elts env).map (·.2)) vs) m₁ σ₁ (fun _ => Q .next) X) X) :
    W c (exec (.Assign [.Tuple elts k tpos] value pos) env) m σ Q X := fun s F S =>
  Assign_Tuple (wpAny_mono (h s F S) (fun v s₁ A => by
    obtain ⟨h', tk, m', σ', rfl, F', S', x, t, vs, rfl, ht, hn, hst, w⟩ := A
    refine assign_Tuple_tuple g.hh (isTup_of S' ht) (by simpa using hn) hst fun h2 he => ?_
    have keep : ∀ b o, h'.get? b = some o → h2.get? b = some o := fun b o e => he b o (Nat.ne_of_lt (Heap.lt_size e)) e
    have S2 : Sto c h2 σ' := fun a o e => ⟨keep _ _ (S' a o e).1, (S' a o e).2⟩
    have x2 : Fra c σ' h' h2 σ' := ⟨fun b o e _ _ => keep b o e, fun a o e => .inl (by rw [e]; exact fun q => nomatch q)⟩
    exact wpAny_mono (w { s with heap := h2, toks := tk } (F'.keeps keep) S2) (fun _ _ A => A.on (s := s) (h₁ := h2) (tk := tk) rfl (x.trans x2 S2)) fun _ _ A => A.on (s := s) (h₁ := h2) (tk := tk) rfl (x.trans x2 S2)) fun _ _ e => e) hs hw
theorem x_unpack {elts : List Expr} {k} {tpos pos : Pos} {value : Expr} {rest : List Stmt} {Q : Flow → Loc → Store → Prop} (g : Gnd n c) (hs : swapsWithSole [.Tuple elts k tpos] value pos.line env = Pure.pure false) (hw : swappedStores [.Tuple elts k tpos] value env = Pure.pure none)
    (h : W c (eval value env) m σ (fun v m₁ σ₁ => ∃ t vs, v = .ref t ∧ σ₁ t = some (tupO vs) ∧ (assignEach elts env).length = vs.length ∧ (assignEach elts env).findIdx? (·.1) = none ∧ W c (assignInOrder ((assignEach elts env).map (·.2)) vs) m₁ σ₁ (fun _ m₂ σ₂ => W c (execs rest env) m₂ σ₂ Q X) X) X) :
    W c (execs (.Assign [.Tuple elts k tpos] value pos :: rest) env) m σ Q X := w_execs_cons (w_unpack g hs hw h)
theorem w_asn {t : Value → Sem Unit} {ts : List (Value → Sem Unit)} {x : Value} {xs : List Value} {Q : Unit → Loc → Store → Prop} (h : W c (t x) m σ (fun _ m₁ σ₁ => W c (assignInOrder ts xs) m₁ σ₁ Q X) X) : W c (assignInOrder (t :: ts) (x :: xs)) m σ Q X :=
  fun s F S => assignInOrder_cons (wpAny_mono (h s F S) (fun _ _ A => A.next fun _ _ w => w) fun _ _ e => e)
theorem w_asn_nil {xs : List Value} {Q : Unit → Loc → Store → Prop} (h : Q () m σ) : W c (assignInOrder [] xs) m σ Q X := fun _ F S => assignInOrder_nil (After.here F S h)
theorem w_asn_name {x : Str} {pos : Pos} {v : Value} {Q : Unit → Loc → Store → Prop} (h : W c (storeName env x v) m σ Q X) : W c (assign (.Name x pos) env v) m σ Q X := fun s F S => wpAny_assign_Name (h s F S)
/-! ## more of ints -/
theorem i_max2 {a b : Int} {t u : Tok} (g : Gnd n c) (h : ∀ tk, Q (.int (if b > a then b else a) tk) m σ) : W c (call (.builtin "max") [.int a t, .int b u]) m σ Q X :=
  fun s F S => max_two_N g.hh F.F (all_news c s.heap) fun h' tk F' N' => After.at (stayed F S F' N') (h _)
theorem i_shr {a b : Int} {t u : Tok} (hb : 0 ≤ b) (h : ∀ tk, Q (.int (a.fdiv (2 ^ b.toNat)) tk) m σ) : W c (binaryOp .RShift (.int a t) (.int b u)) m σ Q X :=
  fun _ F S => rshift_int hb (After.tok F S (h _))
end
end Mine

open PySem PySem.W PySem.Calls PyProof.Rows
namespace Mine
section
variable {n : Nat} {c : Cx} {env : Env} {m : Loc} {σ : Store} {X : Value → Loc → Store → Prop}
/-! ## a range by twos -/
abbrev rng2O (a b : Int) (t u v : Tok) : Obj := { cls := .type "range", data := .fields #[.int a t, .int b u, .int 2 v] }
theorem w_range3 {i k : Int} {t u v : Tok} {Q : Value → Loc → Store → Prop} (hi : -(2 ^ 61) ≤ i) (hi' : i < 2 ^ 61) (hk : -(2 ^ 61) ≤ k) (hk' : k < 2 ^ 61) (h : ∀ a, σ a = none → Q (.ref a) m (upd σ a (rng2O i k t u v))) : W c (call (.type "range") [.int i t, .int k u, .int 2 v]) m σ Q X :=
  fun _ F S => call_range_3 (by decide) (After.at (pushed F S _ rfl) (h _ S.fresh)) (Or.inl (PyProof.noPylong_small (by omega)))
theorem turns_range2 {x : Str} {tp : Pos} {body : List Stmt} {r : Addr} {i k : Int} {t u v : Tok} {Q : Flow → Loc → Store → Prop} (g : Gnd n c) (hx : c.env.kindOf x = some .local) (hxc : c.env.cells.lookup x = none) (J : Nat → Loc → Store → Prop)
    (hr : σ r = some (rng2O i k t u v)) (hi : -(2 ^ 61) ≤ i) (hi' : i < 2 ^ 61) (hk : -(2 ^ 61) ≤ k) (hk' : k < 2 ^ 61) (h0 : J 0 m σ)
    (turn : ∀ (j : Nat) (t : Tok) m' σ', i + j * 2 < k → J j m' σ' → Turn c x body Q (J (j + 1)) (.int (i + j * 2) t) m' σ')
    (done : ∀ j m' σ', J j m' σ' → Q .next m' σ') : Turns c x tp body (.ref r) m σ Q := by
  have hsm : Builtin.Range.small i k 2 = true := by
    unfold Builtin.Range.small Builtin.Range.rangeSize
    simp only [Builtin.Range.rangeFitsLong, Bool.and_eq_true, Bool.or_eq_true, decide_eq_true_eq, beq_iff_eq, show (2 : Int) > 0 by decide, if_true]
    split <;> omega
  obtain ⟨N, hsz, hN⟩ : ∃ N : Nat, Builtin.Range.rangeSize i k 2 = (N : Int) ∧ ∀ j : Nat, j < N → i + j * 2 < k := by
    unfold Builtin.Range.rangeSize
    rw [if_pos (by decide)]
    by_cases q : i < k
    · rw [if_pos q]
      refine ⟨((k - i - 1) / 2 + 1).toNat, by omega, fun j hj => by omega⟩
    · rw [if_neg q]
      exact ⟨0, rfl, fun j hj => by omega⟩
  refine turns_walk (N := N) (P := fun j v => ∃ t, v = .int (i + j * 2) t) g hx hxc J (fun I => [I]) (fun I j h => IsRangeIter h I (i + (j : Nat) * 2) ((N : Int) - (j : Nat)) 2) ?_ ?_ ?_ h0 ?_ (done N)
  · intro s F S
    refine ⟨{ cls := .type "range_iterator", data := .fields #[rawInt i, rawInt (Builtin.Range.rangeSize i k 2), rawInt 2] }, rfl, Walks.range g.hh _ i 2 _, ?_, fun Q' E' hq => wpAny_pyIter_range (S r _ hr).1 hsm hq⟩
    show IsRangeIter _ _ _ _ _
    rw [hsz]
    simpa using Heap.get?_push_size s.heap (o := { cls := .type "range_iterator", data := .fields #[rawInt i, rawInt (N : Int), rawInt 2] }) rfl
  · intro I j h e; rw [show h.get? I = _ from e]; rfl
  · intro I b hb hne; exact absurd (List.mem_singleton.mp hb) hne
  · rintro j v m' σ' hj ⟨t, rfl⟩ hJ
    exact turn j t m' σ' (hN j hj) hJ
end
end Mine

open PySem PySem.W PySem.Calls PyProof.Rows
namespace Mine
/-! ## the program's things as Python holds them -/
def ent (P : Params) (x : Str) (t : Tok) (v : Value) : DictEntry := ⟨PyData.keyHash P x, .str x t, v⟩
def optV (o : Option Nat) (t : Tok) : Value := match o with | none => .none | some s => .int (s : Int) t
def optI (o : Option Int) (t : Tok) : Value := match o with | none => .none | some s => .int s t
def handD (P : Params) (k : Nat → Tok) (h : Hnd) : List DictEntry :=
  [ent P (Str.ofString "number") (k 0) (.int h.num (k 7)), ent P (Str.ofString "at_stage") (k 1) (optV h.stage (k 8)), ent P (Str.ofString "far") (k 2) (.int (h.far : Int) (k 9)), ent P (Str.ofString "had") (k 3) (.int (h.had : Int) (k 10)),
   ent P (Str.ofString "lost") (k 4) (.bool h.lost), ent P (Str.ofString "won") (k 5) (.bool h.won), ent P (Str.ofString "greatest") (k 6) (optI h.top (k 11))]
def setT (k : Nat → Tok) (i : Nat) (t : Tok) : Nat → Tok := fun j => if j = i then t else k j
def ringD (P : Params) (k : Nat → Tok) (lh lr : Addr) (many : Nat) : List DictEntry :=
  [ent P (Str.ofString "hands") (k 0) (.ref lh), ent P (Str.ofString "road") (k 1) (.ref lr), ent P (Str.ofString "many") (k 2) (.int (many : Int) (k 3))]
section
variable {P : Params} {k : Nat → Tok} {h : Hnd} {hs : Int} {key : Value} {t : Tok}
theorem g_number : getL (Str.ofString "number") (handD P k h) = some (some (.int h.num (k 7))) := rfl
theorem g_stage : getL (Str.ofString "at_stage") (handD P k h) = some (some (optV h.stage (k 8))) := rfl
theorem g_far : getL (Str.ofString "far") (handD P k h) = some (some (.int (h.far : Int) (k 9))) := rfl
theorem g_had : getL (Str.ofString "had") (handD P k h) = some (some (.int (h.had : Int) (k 10))) := rfl
theorem g_lost : getL (Str.ofString "lost") (handD P k h) = some (some (.bool h.lost)) := rfl
theorem g_won : getL (Str.ofString "won") (handD P k h) = some (some (.bool h.won)) := rfl
theorem g_top : getL (Str.ofString "greatest") (handD P k h) = some (some (optI h.top (k 11))) := rfl
theorem p_stage {s : Nat} : putL (Str.ofString "at_stage") hs key (.int (s : Int) t) (handD P k h) = handD P (setT k 8 t) { h with stage := some s } := rfl
theorem p_far {s : Nat} : putL (Str.ofString "far") hs key (.int (s : Int) t) (handD P k h) = handD P (setT k 9 t) { h with far := s } := rfl
theorem p_had {s : Nat} : putL (Str.ofString "had") hs key (.int (s : Int) t) (handD P k h) = handD P (setT k 10 t) { h with had := s } := rfl
theorem p_lost {b : Bool} : putL (Str.ofString "lost") hs key (.bool b) (handD P k h) = handD P k { h with lost := b } := rfl
theorem p_won {b : Bool} : putL (Str.ofString "won") hs key (.bool b) (handD P k h) = handD P k { h with won := b } := rfl
theorem p_top {x : Int} : putL (Str.ofString "greatest") hs key (.int x t) (handD P k h) = handD P (setT k 11 t) { h with top := some x } := rfl
theorem pn_stage {j : Nat} : putN (Str.ofString "at_stage") (handD P k h) j = j := rfl
theorem pn_far {j : Nat} : putN (Str.ofString "far") (handD P k h) j = j := rfl
theorem pn_had {j : Nat} : putN (Str.ofString "had") (handD P k h) j = j := rfl
theorem pn_lost {j : Nat} : putN (Str.ofString "lost") (handD P k h) j = j := rfl
theorem pn_won {j : Nat} : putN (Str.ofString "won") (handD P k h) j = j := rfl
theorem pn_top {j : Nat} : putN (Str.ofString "greatest") (handD P k h) j = j := rfl
end

def wordS : Word → Str
  | .ask => Str.ofString "ask"
  | .answer => Str.ofString "answer"
  | .crown => Str.ofString "crown"
def ltrV (l : Ltr) (k : Nat → Tok) : List Value := [.int l.way (k 0), .str (wordS l.word) (k 1), .int l.num (k 2), .int (l.stage : Int) (k 3), .int (l.steps : Int) (k 4)]
def LtrAt (σ : Store) (a : Addr) (l : Ltr) : Prop := ∃ k, σ a = some (tupO (ltrV l k))
def MailAt (σ : Store) (a : Addr) (p : Nat × Ltr) : Prop := ∃ t k, σ a = some (tupO (.int (p.1 : Int) t :: ltrV p.2 k))
def HandAt (P : Params) (C : Addr) (σ : Store) (x dx : Addr) (h : Hnd) : Prop := ∃ k, σ x = some (instObj C dx) ∧ σ dx = some (dictOf (handD P k h) 7)

inductive All2 {α β : Type} (R : α → β → Prop) : List α → List β → Prop
  | nil : All2 R [] []
  | cons {a b as bs} : R a b → All2 R as bs → All2 R (a :: as) (b :: bs)
theorem All2.len {α β : Type} {R : α → β → Prop} {as : List α} {bs : List β} (h : All2 R as bs) : as.length = bs.length := by
  induction h with
  | nil => rfl
  | cons _ _ ih => simp [ih]
theorem All2.mono {α β : Type} {R R' : α → β → Prop} {as : List α} {bs : List β} (h : All2 R as bs) (k : ∀ a b, R a b → R' a b) : All2 R' as bs := by
  induction h with
  | nil => exact .nil
  | cons r _ ih => exact .cons (k _ _ r) ih
theorem All2.append {α β : Type} {R : α → β → Prop} {as as' : List α} {bs bs' : List β} (h : All2 R as bs) (h' : All2 R as' bs') : All2 R (as ++ as') (bs ++ bs') := by
  induction h with
  | nil => exact h'
  | cons r _ ih => exact .cons r ih
theorem All2.erase {α β : Type} {R : α → β → Prop} {as : List α} {bs : List β} (h : All2 R as bs) : ∀ i : Nat, All2 R (as.eraseIdx i) (bs.eraseIdx i) := by
  induction h with
  | nil => intro i; exact .nil
  | cons r h ih =>
    intro i
    cases i with
    | zero => exact h
    | succ i => exact .cons r (ih i)
theorem All2.get' {α β : Type} {R : α → β → Prop} {as : List α} {bs : List β} (h : All2 R as bs) : ∀ {i : Nat} {a : α}, as[i]? = some a → ∃ b, bs[i]? = some b ∧ R a b := by
  induction h with
  | nil => intro i b e; simp at e
  | cons r _ ih =>
    intro i b e
    cases i with
    | zero => simp at e; subst e; exact ⟨_, rfl, r⟩
    | succ i => simpa using ih (by simpa using e)

/-- all but some is kept -/
def Keep (D : Addr → Prop) (σ σ' : Store) : Prop := ∀ a o, σ a = some o → ¬ D a → σ' a = some o
theorem Keep.refl {D : Addr → Prop} {σ : Store} : Keep D σ σ := fun _ _ e _ => e
theorem Keep.trans {D : Addr → Prop} {σ σ₁ σ₂ : Store} (x : Keep D σ σ₁) (y : Keep D σ₁ σ₂) : Keep D σ σ₂ := fun a o e n => y a o (x a o e n) n
theorem Keep.wide {D D' : Addr → Prop} {σ σ' : Store} (x : Keep D σ σ') (k : ∀ a, D a → D' a) : Keep D' σ σ' := fun a o e n => x a o e fun q => n (k a q)
theorem Keep.of_sub {D : Addr → Prop} {σ σ' : Store} (x : Sub σ σ') : Keep D σ σ' := fun a o e _ => x a o e
theorem Keep.upd {D : Addr → Prop} {σ σ' : Store} (x : Keep D σ σ') {a : Addr} {o : Obj} (h : D a ∨ σ' a = none) : Keep D σ (upd σ' a o) := fun b q e n => by
  have := x b q e n
  rw [upd_ne fun z => ?_]
  · exact this
  · subst z
    rcases h with h | h
    · exact n h
    · rw [h] at this; cases this
theorem LtrAt.keep {D : Addr → Prop} {σ σ' : Store} {a : Addr} {l : Ltr} (h : LtrAt σ a l) (x : Keep D σ σ') (n : ¬ D a) : LtrAt σ' a l := let ⟨k, e⟩ := h; ⟨k, x a _ e n⟩
theorem LtrAt.sub {σ σ' : Store} {a : Addr} {l : Ltr} (h : LtrAt σ a l) (x : Sub σ σ') : LtrAt σ' a l := let ⟨k, e⟩ := h; ⟨k, x a _ e⟩
theorem HandAt.sub {P : Params} {C x dx : Addr} {σ σ' : Store} {h : Hnd} (H : HandAt P C σ x dx h) (s : Sub σ σ') : HandAt P C σ' x dx h := let ⟨k, h1, h2⟩ := H; ⟨k, s _ _ h1, s _ _ h2⟩
/-- a tuple is no dict -/
theorem tup_ne {σ : Store} {a d : Addr} {vs : List Value} {es : List DictEntry} {n : Nat} (h1 : σ a = some (tupO vs)) (h2 : σ d = some (dictOf es n)) : a ≠ d := fun q => by
  subst q
  have e := congrArg Obj.cls (Option.some.inj (h1.symm.trans h2))
  exact absurd (Value.type.inj e) (by decide)
theorem lst_ne {σ : Store} {a d : Addr} {vs : List Value} {es : List DictEntry} {n k : Nat} (h1 : σ a = some (lstO vs k)) (h2 : σ d = some (dictOf es n)) : a ≠ d := fun q => by
  subst q
  have e := congrArg Obj.cls (Option.some.inj (h1.symm.trans h2))
  exact absurd (Value.type.inj e) (by decide)
theorem tup_lst {σ : Store} {a d : Addr} {vs ws : List Value} {k : Nat} (h1 : σ a = some (tupO vs)) (h2 : σ d = some (lstO ws k)) : a ≠ d := fun q => by
  subst q
  have e := congrArg Obj.cls (Option.some.inj (h1.symm.trans h2))
  exact absurd (Value.type.inj e) (by decide)
theorem inst_ne {σ : Store} {a d C dx : Addr} {es : List DictEntry} {n : Nat} (h1 : σ a = some (instObj C dx)) (h2 : σ d = some (dictOf es n)) : a ≠ d := fun q => by
  subst q
  have e := congrArg Obj.cls (Option.some.inj (h1.symm.trans h2))
  exact nomatch e
theorem new_ne {σ : Store} {a b : Addr} {o : Obj} (h1 : σ a = some o) (h2 : σ b = none) : a ≠ b := fun q => by
  subst q; rw [h2] at h1; cases h1

/-- what a hand's word to its neighbours comes to -/
def Gives (P : Params) (C : Addr) (σ : Store) (x dx : Addr) (h : Hnd) (ls : List Ltr) (v : Value) (σ' : Store) : Prop :=
  ∃ la as k, v = .ref la ∧ σ la = none ∧ σ' la = some (lstO (as.map .ref) k) ∧ All2 (LtrAt σ') as ls ∧ HandAt P C σ' x dx h ∧ Keep (· = dx) σ σ'

/-! ## the fields of a hand, of a ring -/
section
variable {n : Nat} {c : Cx} {m : Loc} {σ : Store} {X : Value → Loc → Store → Prop} {Q : Value → Loc → Store → Prop} {R : Unit → Loc → Store → Prop} {x dx C : Addr} {k : Nat → Tok} {h : Hnd} {t : Tok}
theorem get_number (g : Gnd n c) (f : FieldOk c.g.K C (Str.ofString "number")) (hx : σ x = some (instObj C dx)) (hd : σ dx = some (dictOf (handD c.g.w.params k h) 7)) (q : Q (.int h.num (k 7)) m σ) : W c (getAttr (.ref x) (Str.ofString "number") true) m σ Q X :=
  w_get g f hx hd g_number rfl q
theorem get_far (g : Gnd n c) (f : FieldOk c.g.K C (Str.ofString "far")) (hx : σ x = some (instObj C dx)) (hd : σ dx = some (dictOf (handD c.g.w.params k h) 7)) (q : Q (.int (h.far : Int) (k 9)) m σ) : W c (getAttr (.ref x) (Str.ofString "far") true) m σ Q X :=
  w_get g f hx hd g_far rfl q
theorem get_had (g : Gnd n c) (f : FieldOk c.g.K C (Str.ofString "had")) (hx : σ x = some (instObj C dx)) (hd : σ dx = some (dictOf (handD c.g.w.params k h) 7)) (q : Q (.int (h.had : Int) (k 10)) m σ) : W c (getAttr (.ref x) (Str.ofString "had") true) m σ Q X :=
  w_get g f hx hd g_had rfl q
theorem get_lost (g : Gnd n c) (f : FieldOk c.g.K C (Str.ofString "lost")) (hx : σ x = some (instObj C dx)) (hd : σ dx = some (dictOf (handD c.g.w.params k h) 7)) (q : Q (.bool h.lost) m σ) : W c (getAttr (.ref x) (Str.ofString "lost") true) m σ Q X :=
  w_get g f hx hd g_lost rfl q
theorem get_won (g : Gnd n c) (f : FieldOk c.g.K C (Str.ofString "won")) (hx : σ x = some (instObj C dx)) (hd : σ dx = some (dictOf (handD c.g.w.params k h) 7)) (q : Q (.bool h.won) m σ) : W c (getAttr (.ref x) (Str.ofString "won") true) m σ Q X :=
  w_get g f hx hd g_won rfl q
theorem get_stage {s : Nat} (g : Gnd n c) (f : FieldOk c.g.K C (Str.ofString "at_stage")) (hx : σ x = some (instObj C dx)) (hd : σ dx = some (dictOf (handD c.g.w.params k h) 7)) (hs : h.stage = some s) (q : Q (.int (s : Int) (k 8)) m σ) : W c (getAttr (.ref x) (Str.ofString "at_stage") true) m σ Q X :=
  w_get g f hx hd (by rw [g_stage, hs]; rfl) rfl q
theorem get_stage0 (g : Gnd n c) (f : FieldOk c.g.K C (Str.ofString "at_stage")) (hx : σ x = some (instObj C dx)) (hd : σ dx = some (dictOf (handD c.g.w.params k h) 7)) (hs : h.stage = none) (q : Q (.none) m σ) : W c (getAttr (.ref x) (Str.ofString "at_stage") true) m σ Q X :=
  w_get g f hx hd (by rw [g_stage, hs]; rfl) rfl q
theorem get_top {s : Int} (g : Gnd n c) (f : FieldOk c.g.K C (Str.ofString "greatest")) (hx : σ x = some (instObj C dx)) (hd : σ dx = some (dictOf (handD c.g.w.params k h) 7)) (hs : h.top = some s) (q : Q (.int s (k 11)) m σ) : W c (getAttr (.ref x) (Str.ofString "greatest") true) m σ Q X :=
  w_get g f hx hd (by rw [g_top, hs]; rfl) rfl q
theorem get_top0 (g : Gnd n c) (f : FieldOk c.g.K C (Str.ofString "greatest")) (hx : σ x = some (instObj C dx)) (hd : σ dx = some (dictOf (handD c.g.w.params k h) 7)) (hs : h.top = none) (q : Q (.none) m σ) : W c (getAttr (.ref x) (Str.ofString "greatest") true) m σ Q X :=
  w_get g f hx hd (by rw [g_top, hs]; rfl) rfl q
theorem set_stage (s : Nat) {a : Int} (g : Gnd n c) (f : FieldOk c.g.K C (Str.ofString "at_stage")) (hx : σ x = some (instObj C dx)) (hd : σ dx = some (dictOf (handD c.g.w.params k h) 7)) (e : a = (s : Int)) (q : ∀ k', R () m (upd σ dx (dictOf (handD c.g.w.params k' { h with stage := some s }) 7))) : W c (setAttr (.ref x) (Str.ofString "at_stage") (.int a t)) m σ R X := by
  subst e; exact w_set g f hx hd rfl (show 7 < 1000 by decide) fun _ => (by rw [p_stage, pn_stage]; exact q _)
theorem set_far (s : Nat) {a : Int} (g : Gnd n c) (f : FieldOk c.g.K C (Str.ofString "far")) (hx : σ x = some (instObj C dx)) (hd : σ dx = some (dictOf (handD c.g.w.params k h) 7)) (e : a = (s : Int)) (q : ∀ k', R () m (upd σ dx (dictOf (handD c.g.w.params k' { h with far := s }) 7))) : W c (setAttr (.ref x) (Str.ofString "far") (.int a t)) m σ R X := by
  subst e; exact w_set g f hx hd rfl (show 7 < 1000 by decide) fun _ => (by rw [p_far, pn_far]; exact q _)
theorem set_had (s : Nat) {a : Int} (g : Gnd n c) (f : FieldOk c.g.K C (Str.ofString "had")) (hx : σ x = some (instObj C dx)) (hd : σ dx = some (dictOf (handD c.g.w.params k h) 7)) (e : a = (s : Int)) (q : ∀ k', R () m (upd σ dx (dictOf (handD c.g.w.params k' { h with had := s }) 7))) : W c (setAttr (.ref x) (Str.ofString "had") (.int a t)) m σ R X := by
  subst e; exact w_set g f hx hd rfl (show 7 < 1000 by decide) fun _ => (by rw [p_had, pn_had]; exact q _)
theorem set_lost {b : Bool} (g : Gnd n c) (f : FieldOk c.g.K C (Str.ofString "lost")) (hx : σ x = some (instObj C dx)) (hd : σ dx = some (dictOf (handD c.g.w.params k h) 7)) (q : R () m (upd σ dx (dictOf (handD c.g.w.params k { h with lost := b }) 7))) : W c (setAttr (.ref x) (Str.ofString "lost") (.bool b)) m σ R X :=
  w_set g f hx hd rfl (show 7 < 1000 by decide) fun _ => (by rw [p_lost, pn_lost]; exact q)
theorem set_won {b : Bool} (g : Gnd n c) (f : FieldOk c.g.K C (Str.ofString "won")) (hx : σ x = some (instObj C dx)) (hd : σ dx = some (dictOf (handD c.g.w.params k h) 7)) (q : R () m (upd σ dx (dictOf (handD c.g.w.params k { h with won := b }) 7))) : W c (setAttr (.ref x) (Str.ofString "won") (.bool b)) m σ R X :=
  w_set g f hx hd rfl (show 7 < 1000 by decide) fun _ => (by rw [p_won, pn_won]; exact q)
theorem set_top {b : Int} (g : Gnd n c) (f : FieldOk c.g.K C (Str.ofString "greatest")) (hx : σ x = some (instObj C dx)) (hd : σ dx = some (dictOf (handD c.g.w.params k h) 7)) (q : ∀ k', R () m (upd σ dx (dictOf (handD c.g.w.params k' { h with top := some b }) 7))) : W c (setAttr (.ref x) (Str.ofString "greatest") (.int b t)) m σ R X :=
  w_set g f hx hd rfl (show 7 < 1000 by decide) fun _ => (by rw [p_top, pn_top]; exact q _)
theorem meth_hand {name : Str} {f : Addr} {pl : Sem Bool} {Q : Value × List Value → Loc → Store → Prop} (g : Gnd n c) (o : MethOk c.g.K C name f) (hx : σ x = some (instObj C dx)) (hd : σ dx = some (dictOf (handD c.g.w.params k h) 7))
    (hl : getL name (handD c.g.w.params k h) = some none) (q : Q (.ref f, [.ref x]) m σ) : W c (getMethod (.ref x) name pl) m σ Q X := w_getMeth g o hx hd hl q
variable {lh lr : Addr} {many : Nat}
variable {value slice : Expr} {l : Ltr} {a : Addr}
theorem part_way (hl : σ a = some (tupO (ltrV l k))) (q : Q (.int l.way (k 0)) m σ) (hs : subscripted slice false (.ref a) (.int 0 t) = operate [.ref a, .int 0 t] (getItem (.ref a) (.int 0 t))) : W c (subscriptTail value slice (.ref a) (.int 0 t)) m σ Q X :=
  w_item_tup (j := 0) hl (by decide) (by decide) rfl rfl q hs
theorem part_word (hl : σ a = some (tupO (ltrV l k))) (q : Q (.str (wordS l.word) (k 1)) m σ) (hs : subscripted slice false (.ref a) (.int 1 t) = operate [.ref a, .int 1 t] (getItem (.ref a) (.int 1 t))) : W c (subscriptTail value slice (.ref a) (.int 1 t)) m σ Q X :=
  w_item_tup (j := 1) hl (by decide) (by decide) rfl rfl q hs
theorem part_num (hl : σ a = some (tupO (ltrV l k))) (q : Q (.int l.num (k 2)) m σ) (hs : subscripted slice false (.ref a) (.int 2 t) = operate [.ref a, .int 2 t] (getItem (.ref a) (.int 2 t))) : W c (subscriptTail value slice (.ref a) (.int 2 t)) m σ Q X :=
  w_item_tup (j := 2) hl (by decide) (by decide) rfl rfl q hs
theorem part_lstage (hl : σ a = some (tupO (ltrV l k))) (q : Q (.int (l.stage : Int) (k 3)) m σ) (hs : subscripted slice false (.ref a) (.int 3 t) = operate [.ref a, .int 3 t] (getItem (.ref a) (.int 3 t))) : W c (subscriptTail value slice (.ref a) (.int 3 t)) m σ Q X :=
  w_item_tup (j := 3) hl (by decide) (by decide) rfl rfl q hs
theorem part_steps (hl : σ a = some (tupO (ltrV l k))) (q : Q (.int (l.steps : Int) (k 4)) m σ) (hs : subscripted slice false (.ref a) (.int 4 t) = operate [.ref a, .int 4 t] (getItem (.ref a) (.int 4 t))) : W c (subscriptTail value slice (.ref a) (.int 4 t)) m σ Q X :=
  w_item_tup (j := 4) hl (by decide) (by decide) rfl rfl q hs
end

theorem upd_none {σ : Store} {a b : Addr} {o : Obj} (h : upd σ a o b = none) : σ b = none := by
  by_cases q : b = a
  · subst q; rw [upd_same] at h; cases h
  · rw [upd_ne q] at h; exact h
theorem Keep.none {D : Addr → Prop} {σ σ' : Store} (x : Keep D σ σ') {b : Addr} (h : σ' b = none) (n : ¬ D b) : σ b = none := by
  cases e : σ b with
  | none => rfl
  | some o => rw [x b o e n] at h; cases h
theorem ltr_at {σ : Store} {a : Addr} {l : Ltr} {t0 t1 t2 t3 t4 : Tok} (h : σ a = some (tupO [.int l.way t0, .str (wordS l.word) t1, .int l.num t2, .int (l.stage : Int) t3, .int (l.steps : Int) t4])) : LtrAt σ a l :=
  ⟨fun i => [t0, t1, t2, t3, t4].getD i 0, h⟩
/-- the hand itself is never the list or the letters it gives -/
theorem Gives.mk {P : Params} {C : Addr} {σ : Store} {x dx : Addr} {h : Hnd} {ls : List Ltr} {σ' : Store} {la : Addr} {k : Nat} (as : List Addr) (h1 : σ la = none) (h2 : σ' la = some (lstO (as.map .ref) k)) (h3 : All2 (LtrAt σ') as ls) (h4 : HandAt P C σ' x dx h) (h5 : Keep (· = dx) σ σ') :
    Gives P C σ x dx h ls (.ref la) σ' := ⟨la, as, k, rfl, h1, h2, h3, h4, h5⟩
theorem app_nil {c : Cx} {env : Env} {m : Loc} {σ : Store} {L : List Stmt} {Q : Flow → Loc → Store → Prop} {X : Value → Loc → Store → Prop} (h : W c (execs L env) m σ Q X) : W c (execs ([] ++ L) env) m σ Q X := h
theorem app_cons {c : Cx} {env : Env} {m : Loc} {σ : Store} {s : Stmt} {L R : List Stmt} {Q : Flow → Loc → Store → Prop} {X : Value → Loc → Store → Prop} (h : W c (execs (s :: (L ++ R)) env) m σ Q X) : W c (execs ((s :: L) ++ R) env) m σ Q X := h
theorem ltr_of {σ : Store} {a : Addr} {l : Ltr} {w nm st sp : Int} {wd : Str} {t0 t1 t2 t3 t4 : Tok} (h : σ a = some (tupO [.int w t0, .str wd t1, .int nm t2, .int st t3, .int sp t4]))
    (h1 : w = l.way) (h2 : wd = wordS l.word) (h3 : nm = l.num) (h4 : st = (l.stage : Int)) (h5 : sp = (l.steps : Int)) : LtrAt σ a l := by
  subst h1 h2 h3 h4 h5
  exact ltr_at h
theorem wake_len (h : Hnd) : h.wake.2.length ≤ 2 := by
  unfold Hnd.wake; cases h.stage <;> simp [Hnd.asks]
theorem came_len (h : Hnd) (l : Ltr) : (h.came l).2.length ≤ 2 := by
  unfold Hnd.came
  cases l.word with
  | ask =>
    simp only; unfold Hnd.askCame
    repeat' split
    all_goals simp
  | answer =>
    simp only; unfold Hnd.answerCame
    repeat' split
    all_goals simp
  | crown =>
    simp only; unfold Hnd.crownCame
    split <;> simp
theorem All2.tups {σ σ' : Store} {dx : Addr} {es : List DictEntry} {n : Nat} {as : List Addr} {ls : List Ltr} (h : All2 (LtrAt σ) as ls) (hd : σ dx = some (dictOf es n)) (k : Keep (· = dx) σ σ') : All2 (LtrAt σ') as ls :=
  h.mono fun a l r => let ⟨kk, e⟩ := r; ⟨kk, k a _ e (tup_ne e hd)⟩
theorem give_add {P : Params} {C : Addr} {c : Cx} {m : Loc} {σ σ₁ σ₂ : Store} {x dx la₁ la₂ : Addr} {h₁ h₂ : Hnd} {ls₁ ls₂ : List Ltr} {Q : Value → Loc → Store → Prop} {X : Value → Loc → Store → Prop} (G₁ : Gives P C σ x dx h₁ ls₁ (.ref la₁) σ₁) (G₂ : Gives P C σ₁ x dx h₂ ls₂ (.ref la₂) σ₂)
    (hz : ls₁.length + ls₂.length ≤ 100) (q : ∀ la σ₃, Gives P C σ x dx h₂ (ls₁ ++ ls₂) (.ref la) σ₃ → Q (.ref la) m σ₃) : W c (binaryOp .Add (.ref la₁) (.ref la₂)) m σ₂ Q X := by
  obtain ⟨_, as, k, e, f1, f2, f3, ⟨k1, fx, fd⟩, f5⟩ := G₁
  cases e
  obtain ⟨_, as', k', e, g1, g2, g3, ⟨k2, gx, gd⟩, g5⟩ := G₂
  cases e
  have l1 : σ₂ la₁ = some (lstO (as.map .ref) k) := g5 _ _ f2 (lst_ne f2 fd)
  refine add_lists l1 g2 ?_ fun la hf => q la _ ?_
  · rw [List.length_map, List.length_map, f3.len, g3.len, sizeLine_eq]; omega
  · have s3 := sub_upd (o := lstO (as.map .ref ++ as'.map .ref) 0) hf
    refine ⟨la, as ++ as', 0, rfl, ?_, by rw [List.map_append]; exact upd_same, ?_, ⟨k2, s3 _ _ gx, s3 _ _ gd⟩, ?_⟩
    · have n1 : la ≠ dx := fun e => by rw [e, gd] at hf; cases hf
      exact (f5.trans g5).none hf n1
    · exact ((f3.tups fd g5).append g3).mono fun a l r => r.sub s3
    · exact (f5.trans g5).upd (.inr hf)
end Mine

open PySem PySem.W PySem.Calls PyProof.Rows
namespace Mine
/-- where a ring lies -/
structure RL where
  r : Addr
  dR : Addr
  lh : Addr
  lr : Addr
  xs : List Addr
  dxs : List Addr
def RL.D (L : RL) (a : Addr) : Prop := a = L.dR ∨ a = L.lr ∨ a ∈ L.dxs
structure RingAt (P : Params) (CH CR : Addr) (L : RL) (σ : Store) (R : Rng) : Prop where
  top : σ L.r = some (instObj CR L.dR)
  dict : ∃ k, σ L.dR = some (dictOf (ringD P k L.lh L.lr R.many) 3)
  hl : ∃ k, σ L.lh = some (lstO (L.xs.map .ref) k)
  road : ∃ ms k, σ L.lr = some (lstO (ms.map .ref) k) ∧ All2 (MailAt σ) ms R.road
  lenx : L.xs.length = R.hands.length
  lend : L.dxs.length = R.hands.length
  hand : ∀ (i : Nat) (x dx : Addr) (h : Hnd), L.xs[i]? = some x → L.dxs[i]? = some dx → R.hands[i]? = some h → HandAt P CH σ x dx h
  nd : (L.dR :: L.dxs).Nodup
  ne : L.lr ≠ L.lh
section
variable {P : Params} {CH CR : Addr} {L : RL} {σ σ' : Store} {R : Rng}
end
theorem u_not {c : Cx} {m : Loc} {σ : Store} {X : Value → Loc → Store → Prop} {Q : Value → Loc → Store → Prop} {v : Value} (h : W c (truthy v) m σ (fun b m' σ' => Q (.bool (!b)) m' σ') X) : W c (unaryOp .Not v) m σ Q X :=
  fun s F S => not_of (h s F S)
theorem w_getappend {c : Cx} {m : Loc} {σ : Store} {X : Value → Loc → Store → Prop} {l : Addr} {vs : List Value} {k : Nat} {pl : Sem Bool} {Q : Value × List Value → Loc → Store → Prop} (hl : σ l = some (lstO vs k)) (h : Q (.builtin "list.append", [.ref l]) m σ) : W c (getMethod (.ref l) (Str.ofString "append") pl) m σ Q X :=
  w_lmeth hl PySem.F.slot_list_append PySem.F.type_list_append h
theorem w_getpop {c : Cx} {m : Loc} {σ : Store} {X : Value → Loc → Store → Prop} {l : Addr} {vs : List Value} {k : Nat} {pl : Sem Bool} {Q : Value × List Value → Loc → Store → Prop} (hl : σ l = some (lstO vs k)) (h : Q (.builtin "list.pop", [.ref l]) m σ) : W c (getMethod (.ref l) (Str.ofString "pop") pl) m σ Q X :=
  w_lmeth hl PySem.F.slot_list_pop PySem.F.type_list_pop h
theorem call_nil {c : Cx} {m : Loc} {σ : Store} {X : Value → Loc → Store → Prop} {Q : Value → Loc → Store → Prop} {f : Value} {vs : List Value} (h : W c (call f vs) m σ Q X) : W c (call f ([] ++ vs)) m σ Q X := h
theorem call_one {c : Cx} {m : Loc} {σ : Store} {X : Value → Loc → Store → Prop} {Q : Value → Loc → Store → Prop} {f x : Value} {vs : List Value} (h : W c (call f (x :: vs)) m σ Q X) : W c (call f ([x] ++ vs)) m σ Q X := h
end Mine

open PySem PySem.W PySem.Calls PyProof.Rows
namespace Mine
theorem put_new {name : Str} {hs : Int} {key v : Value} : ∀ {es : List DictEntry}, getL name es = some none → putL name hs key v es = es ++ [⟨hs, key, v⟩] ∧ es.any (·.key.isStr name) = false
  | [], _ => ⟨rfl, rfl⟩
  | e :: r, h => by
    have hf : (e :: r).find? (·.key.isStr name) = none := by
      cases q : (e :: r).find? (·.key.isStr name) with
      | none => rfl
      | some y => unfold getL at h; rw [q] at h; cases h
    have h1 : e.key.isStr name = false := by
      cases z : e.key.isStr name with
      | false => rfl
      | true => rw [List.find?_cons, z] at hf; cases hf
    have h2 : r.find? (·.key.isStr name) = none := by rw [List.find?_cons, h1] at hf; exact hf
    have h3 : getL name r = some none := by
      unfold getL at h ⊢
      rw [h2]
      rw [hf] at h
      have hno : (e :: r).any (·.refKey) = false := by
        cases q : (e :: r).any (·.refKey) with
        | false => rfl
        | true => simp only [q, if_true] at h; cases h
      rw [List.any_cons] at hno
      rw [(Bool.or_eq_false_iff.mp hno).2]
      rfl
    obtain ⟨a, b⟩ := put_new h3
    refine ⟨?_, by rw [List.any_cons, h1, b]; rfl⟩
    show (if e.key.isStr name = true then _ else e :: putL name hs key v r) = _
    rw [h1, if_neg Bool.false_ne_true, a]
    rfl
theorem set_new {n : Nat} {c : Cx} {m : Loc} {σ : Store} {X : Value → Loc → Store → Prop} {R : Unit → Loc → Store → Prop} {x C dx : Addr} {name : Str} {es : List DictEntry} {k : Nat} {v : Value} (g : Gnd n c) (f : FieldOk c.g.K C name) (hx : σ x = some (instObj C dx)) (hd : σ dx = some (dictOf es k))
    (hn : getL name es = some none) (hz : es.length < 1000) (h : ∀ tk, R () m (upd σ dx (dictOf (es ++ [ent c.g.w.params name tk v]) (k + 1)))) : W c (setAttr (.ref x) name v) m σ R X :=
  w_set g f hx hd (by rw [hn]; rfl) hz fun tk => by
    obtain ⟨a, b⟩ := put_new (hs := PyData.keyHash c.g.w.params name) (key := .str name tk) (v := v) hn
    rw [a]
    unfold putN
    rw [b, if_neg Bool.false_ne_true]
    exact h tk
theorem ints_get {vs : List Value} {ns : List Int} (h : IntsAre vs ns) : ∀ {j : Nat} {v : Value}, vs[j]? = some v → ∃ a t, ns[j]? = some a ∧ v = .int a t := by
  induction h with
  | nil => intro j v e; simp at e
  | cons n t _ ih =>
    intro j v e
    cases j with
    | zero => simp at e; subst e; exact ⟨n, t, rfl, rfl⟩
    | succ j => simpa using ih (by simpa using e)

/-- the hands made so far -/
def HandsTo (P : Params) (C : Addr) (σ₀ : Store) (ns : List Int) (i : Nat) (ys : List Value) (σ : Store) : Prop :=
  ∃ xs dxs : List Addr, ys = xs.map .ref ∧ xs.length = i ∧ dxs.length = i ∧ dxs.Nodup ∧ (∀ (j : Nat) (x dx : Addr) (a : Int), xs[j]? = some x → dxs[j]? = some dx → ns[j]? = some a → HandAt P C σ x dx { num := a }) ∧ ∀ d ∈ dxs, σ₀ d = none
end Mine

open PySem PySem.W PySem.Calls PyProof.Rows
namespace Mine
/-! ## names of a frame with cells -/
section
variable {n : Nat} {c : Cx} {sc scope : Scope} {m : Loc} {σ : Store} {X : Value → Loc → Store → Prop} {x : Str} {pos : Pos} {v : Value}
theorem cell_has (hs : c.env.scope = sc) (hc : c.env.cells = cellsFrom (c.env.locals + 1) sc.names []) (hx : sc.names.lookup x = some .cell) : ∃ a, c.env.cells.lookup x = some a := by
  rw [hc]; exact Option.isSome_iff_exists.mp (cellsFrom_some _ _ _ (.inl hx))
theorem cell_no {k : NameKind} (hc : c.env.cells = cellsFrom (c.env.locals + 1) sc.names []) (hx : sc.names.lookup x = some k) (hk : k ≠ .cell) (nd : (sc.names.map (·.1)).Nodup) : c.env.cells.lookup x = none := by
  rw [hc]
  cases e : (cellsFrom (c.env.locals + 1) sc.names []).lookup x with
  | none => rfl
  | some a =>
    rcases cf_kind sc.names (c.env.locals + 1) [] (x, a) (mem_of_look e) with q | q
    · cases q
    · rw [look_mem_nodup nd q] at hx; exact absurd (Option.some.inj hx).symm hk
theorem n_cell {Q : Value → Loc → Store → Prop} (g : Gnd n c) (hs : c.env.scope = sc) (hc : c.env.cells = cellsFrom (c.env.locals + 1) sc.names []) (hx : sc.names.lookup x = some .cell) (hd : (x == ("__debug__" : Str)) = false) (hv : m x = some v) (h : Q v m σ) :
    W c (eval (.Name x pos) c.env) m σ Q X := let ⟨_, ha⟩ := cell_has hs hc hx; w_cell g.knd (kind_is hs hx) ha hd hv h
theorem n_localC {Q : Value → Loc → Store → Prop} (g : Gnd n c) (hs : c.env.scope = sc) (hc : c.env.cells = cellsFrom (c.env.locals + 1) sc.names []) (nd : (sc.names.map (·.1)).Nodup) (hx : sc.names.lookup x = some .local) (hd : (x == ("__debug__" : Str)) = false) (hv : m x = some v) (h : Q v m σ) :
    W c (eval (.Name x pos) c.env) m σ Q X := w_local g.knd (kind_is hs hx) (cell_no hc hx (fun q => nomatch q) nd) hd hv h
theorem n_storeC {Q : Unit → Loc → Store → Prop} (g : Gnd n c) (hs : c.env.scope = sc) (hc : c.env.cells = cellsFrom (c.env.locals + 1) sc.names []) (nd : (sc.names.map (·.1)).Nodup) (hx : sc.names.lookup x = some .local) (h : Q () (setM m x v) σ) : W c (storeName c.env x v) m σ Q X :=
  w_store g.knd (kind_is hs hx) (cell_no hc hx (fun q => nomatch q) nd) h
theorem cn_cellC {e : Env} {C : Addr} {Q : Value → Loc → Store → Prop} (E : CompEnv c scope e C) (hs : c.env.scope = sc) (hc : c.env.cells = cellsFrom (c.env.locals + 1) sc.names []) (hx : scope.names.lookup x = some .free) (hk : sc.names.lookup x = some .cell) (hd : (x == ("__debug__" : Str)) = false) (hv : m x = some v) (h : Q v m σ) :
    W c (eval (.Name x pos) e) m σ Q X := let ⟨_, ha⟩ := cell_has hs hc hk; cn_cell E hx (kind_is hs hk) ha hd hv h
theorem allfree (hs : c.env.scope = sc) (hc : c.env.cells = cellsFrom (c.env.locals + 1) sc.names []) {names : List (Str × NameKind)} (h : (names.all fun y => y.2 != .free || sc.names.lookup y.1 == some .cell) = true) : ∀ y ∈ names, y.2 = NameKind.free → ∃ a, c.env.cells.lookup y.1 = some a := fun y hy e => by
  have := List.all_eq_true.mp h y hy
  rw [e] at this
  exact cell_has hs hc (eq_of_beq (Bool.or_eq_true_iff.mp this |>.resolve_left (by decide)))
end

/-- the body of a def with cells that raises nothing -/
theorem fn_bodyC {n : Nat} {σ : Store} {g : Pg} {f : Addr} {args : List Value} {Q : Value → Store → Prop} {name qual : Str} {params : Arguments} {body : List Stmt} {scope : Scope} {dV kV doc pm cdv ct oc : Value} {an od : Option Addr} {osl : Array (Option Value)} (binds : List (Str × Value))
    (ho : g.K.lookup f = some ⟨oc, od, .func (fnX name qual params body scope [] dV kV doc pm an cdv ct), osl⟩) (hcd : codeIn g.K cdv qual = true)
    (hb : bindArgs (fnX name qual params body scope [] dV kV doc pm an cdv ct) ⟨args, []⟩ = pure binds) (hkind : (binds.all fun y => scope.names.lookup y.1 == some .local || scope.names.lookup y.1 == some .cell) = true)
    (hnd : (scope.names.map (·.1)).Nodup)
    (hco : scope.isCoroutine = false) (hgen : scope.isGenerator = false) (hk : scope.kind = .function)
    (h : ∀ (c : Cx) (m : Loc), c.g = g → Gnd n c → c.env.scope = scope → c.env.cells = cellsFrom (c.env.locals + 1) scope.names [] → (scope.names.map (·.1)).Nodup → interactive c.env = false → (∀ y, m y = binds.reverse.lookup y) → W c (execs body c.env) m σ (fun fl _ σ' => Q (match fl with | .ret v => v | _ => .none) σ') NoX) :
    Fn g (n + 1) (.ref f) args σ Q NoE :=
  fn_of_bodyC ho hcd hb hkind hnd hco hgen hk fun c h1 h2 h3 h4 => (h c _ h1 h2 h3 h4 hnd (by unfold interactive; rw [h3, hk]; rfl) fun _ => rfl).mono (fun _ _ _ q => q) fun _ _ _ q => q.elim

/-! ## a ring at work -/
structure Going (P : Params) (CH CR : Addr) (L : RL) (nums : List Int) (R : Rng) (σ : Store) : Prop where
  A : RingAt P CH CR L σ R
  G : Good nums R
  cnt : R.road.length ≤ R.many
section
variable {P : Params} {CH CR : Addr} {L : RL} {nums : List Int} {R : Rng} {σ σ' : Store}
end
/-- what a deed leaves -/
def Next (P : Params) (CH CR : Addr) (L : RL) (nums : List Int) (R : Rng) (σ σ' : Store) : Prop := ∃ R', Going P CH CR L nums R' σ' ∧ R.Le R' ∧ Keep L.D σ σ'
theorem fmod_nat {n : Nat} (hn : 0 < n) (z : Int) : ∃ j : Nat, z.fmod (n : Int) = (j : Int) ∧ j < n := by
  have h1 := Int.fmod_nonneg_of_pos z (show (0 : Int) < (n : Int) by omega)
  have h2 := Int.fmod_lt_of_pos z (show (0 : Int) < (n : Int) by omega)
  exact ⟨(z.fmod n).toNat, by omega, by omega⟩
section
variable {P : Params} {CH CR : Addr} {L : RL} {nums : List Int} {R : Rng} {σ σ' : Store}
end
end Mine

open PySem PySem.W PySem.Calls PyProof.Rows
namespace Mine
theorem x_if_cut {c : Cx} {env : Env} {m : Loc} {σ : Store} {X : Value → Loc → Store → Prop} {Q : Flow → Loc → Store → Prop} {test : Expr} {body orelse rest : List Stmt} {pos : Pos} (J : Loc → Store → Prop)
    (h : W c (isTrue test env (eval test env)) m σ (fun b m' σ' => Br b (W c (execs body env) m' σ' (fun f m₂ σ₂ => match f with | .next => J m₂ σ₂ | f => Q f m₂ σ₂) X) (W c (execs orelse env) m' σ' (fun f m₂ σ₂ => match f with | .next => J m₂ σ₂ | f => Q f m₂ σ₂) X)) X)
    (hr : ∀ m σ, J m σ → W c (execs rest env) m σ Q X) : W c (execs (.If test body orelse pos :: rest) env) m σ Q X := by
  refine w_execs_cons (w_if (h.mono (fun b m' σ' q => ?_) fun _ _ _ q => q))
  cases b with
  | true => exact (q.1 rfl).mono (fun f m₂ σ₂ z => by
      cases f with
      | next => exact hr _ _ z
      | brk => exact z
      | cont => exact z
      | ret v => exact z) fun _ _ _ q => q
  | false => exact (q.2 rfl).mono (fun f m₂ σ₂ z => by
      cases f with
      | next => exact hr _ _ z
      | brk => exact z
      | cont => exact z
      | ret v => exact z) fun _ _ _ q => q

/-- a list of numbers for a ring -/
structure Fit (nums : List Int) : Prop where
  pos : 1 ≤ nums.length
  most : nums.length ≤ 64
  nn : ∀ a ∈ nums, 0 ≤ a
  nd : nums.Nodup
end Mine

open PySem PySem.W PySem.Calls PyProof.Rows
namespace Mine
theorem bools_snoc {vs : List Value} {bs : List Bool} (h : LSm.BoolsAre vs bs) (b : Bool) : LSm.BoolsAre (vs ++ [.bool b]) (bs ++ [b]) := by
  induction h with
  | nil => exact .cons b .nil
  | cons n _ ih => exact .cons n ih
end Mine

open PySem PySem.W PySem.Calls PyProof.Rows
namespace Mine
end Mine

open PySem PySem.W PySem.Calls PyProof.Rows
namespace Mine
/-- a thing that is no count from 1 to 64 -/
def BadCnt (σ : Store) (th : Value) : Prop := (∃ b, th = .bool b) ∨ NotInt σ th ∨ ∃ a t, th = .int a t ∧ (a < 1 ∨ 64 < a)
end Mine

open PySem PySem.W PySem.Calls PyProof.Rows
namespace Mine
/-- a thing that is no list -/
def NotList (σ : Store) (th : Value) : Prop := (∃ x t, th = .str x t) ∨ th = .none ∨ (∃ a t, th = .int a t) ∨ (∃ a o, th = .ref a ∧ σ a = some o ∧ (o.cls = .type "tuple" ∨ o.cls = .type "dict"))
/-- a thing that is no number of a hand -/
def BadOne (σ : Store) (v : Value) : Prop := (∃ b, v = .bool b) ∨ NotInt σ v ∨ ∃ a t, v = .int a t ∧ a < 0
/-- a list that no ring takes -/
def BadList (σ : Store) (vs : List Value) : Prop := vs.length = 0 ∨ 64 < vs.length ∨ (∃ ns, IntsAre vs ns ∧ 1 ≤ ns.length ∧ ns.length ≤ 64 ∧ (∀ a ∈ ns, 0 ≤ a) ∧ ¬ ns.Nodup) ∨
  (1 ≤ vs.length ∧ vs.length ≤ 64 ∧ ∃ (i : Nat) (v : Value), vs[i]? = some v ∧ BadOne σ v ∧ ∀ j, j < i → ∃ a t, vs[j]? = some (.int a t) ∧ 0 ≤ a)
def BadNums (σ : Store) (th : Value) : Prop := NotList σ th ∨ ∃ l vs k, th = .ref l ∧ σ l = some (lstO vs k) ∧ vs.length ≤ 1000 ∧ BadList σ vs
end Mine
namespace Mine
end Mine
namespace Mine
end Mine

open PySem PySem.W PySem.Calls PyProof.Rows
namespace Mine
section
variable {n : Nat} {c : Cx} {m : Loc} {σ : Store} {X : Value → Loc → Store → Prop} {Q : Value → Loc → Store → Prop}
theorem ne_same {l₁ l₂ : Addr} {vs : List Value} {k₁ k₂ : Nat} (g : Gnd n c) (h1 : σ l₁ = some (lstO vs k₁)) (h2 : σ l₂ = some (lstO vs k₂)) (h : Q (.bool false) m σ) : W c (compareOp .NotEq (.ref l₁) (.ref l₂)) m σ Q X := fun s F S => by
  have hu : c.A.units < cLine := by have := g.un; omega
  refine PySem.SeqAt.RcNeAt.lists (e := fun _ => true) (isList_of S h1) (isList_of S h2) rfl hu (fun j _ _ => PySem.SeqAt.EqAt.same _) _ _ _ _ (After.here F S ?_)
  rw [show (List.range vs.toArray.size).all (fun _ => true) = true from List.all_eq_true.mpr fun _ _ => rfl]
  exact h
end
end Mine

open PySem PySem.W PySem.Calls PyProof.Rows
namespace Mine
section
variable {n : Nat} {c : Cx} {m : Loc} {σ : Store} {X : Value → Loc → Store → Prop} {Q : Value → Loc → Store → Prop}
theorem isTuple_of {h : Heap} {l : Addr} {vs : List Value} (S : Sto c h σ) (e : σ l = some (tupO vs)) : h.IsTuple l vs.toArray := ⟨_, (S l _ e).1, rfl, 0, rfl⟩
theorem isi_tup {l : Addr} {vs : List Value} (hl : σ l = some (tupO vs)) (h : Q (.bool true) m σ) : W c (call (.builtin "isinstance") [.ref l, .type "tuple"]) m σ Q X := fun _ F S => IsiPair.tuple_tuple (S l _ hl).1 rfl (After.here F S h)
theorem isi_str_int {x : Str} {t : Tok} (h : Q (.bool false) m σ) : W c (call (.builtin "isinstance") [.str x t, .type "int"]) m σ Q X := fun _ F S => IsiPair.str_int (After.tok F S h)
theorem isi_str_str {x : Str} {t : Tok} (h : Q (.bool true) m σ) : W c (call (.builtin "isinstance") [.str x t, .type "str"]) m σ Q X := fun _ F S => IsiPair.str_str (After.here F S h)
theorem turns_tup {x : Str} {tp : Pos} {body : List Stmt} {l : Addr} {vs : List Value} {Q : Flow → Loc → Store → Prop} (g : Gnd n c) (hx : c.env.kindOf x = some .local) (hxc : c.env.cells.lookup x = none) (J : Nat → Loc → Store → Prop)
    (hl : ∀ i m σ, J i m σ → σ l = some (tupO vs)) (h0 : J 0 m σ)
    (turn : ∀ j v m' σ', vs[j]? = some v → J j m' σ' → Turn c x body Q (J (j + 1)) v m' σ')
    (done : ∀ m' σ', J vs.length m' σ' → Q .next m' σ') : Turns c x tp body (.ref l) m σ Q := by
  refine turns_walk (N := vs.length) (P := fun j v => vs.toArray[j]? = some v) g hx hxc J (fun I => [I, l]) (fun I j h => h.IsTupleIter I l j ∧ h.IsTuple l vs.toArray) ?_ ?_ ?_ h0 ?_ done
  · intro s F S
    have hls := isTuple_of S (hl _ _ _ h0)
    have hne : l ≠ s.heap.objs.size := Nat.ne_of_lt (S.lt (hl _ _ _ h0))
    have Wk := Walks.tuple (prog := c.g.prog) (w := c.g.w) g.hh s.heap.objs.size l hne vs.toArray
    rw [List.size_toArray] at Wk
    exact ⟨{ cls := .type "tuple_iterator", data := .fields #[.ref l, .int 0 0] }, rfl, Wk, ⟨⟨_, Heap.get?_push_size _ rfl, rfl, rfl⟩, hls.at fun o e => Heap.get?_push_of_some _ e⟩, fun Q' E' hq => wpAny_pyIter_tuple hls hq⟩
  · rintro I j h ⟨⟨o, ho, _⟩, _⟩; rw [ho]; rfl
  · intro I b hb hne
    rcases List.mem_cons.mp hb with q | q
    · exact absurd q hne
    · rw [List.mem_singleton.mp q]; exact ⟨_, fun i m σ q => .inr (hl i m σ q)⟩
  · intro j v m' σ' _ hP hJ
    exact turn j v m' σ' (by simpa using hP) hJ
theorem eqAt_int {A : Around} {s : Shared} (a : Int) (t u : Tok) : PySem.SeqAt.EqAt A s (.int a t) (.int a u) true := by
  have := PySem.SeqAt.EqAt.int_int (A := A) (s := s) a t a u
  rwa [beq_self_eq_true] at this
theorem eqAt_str {A : Around} {s : Shared} (a : Str) (t u : Tok) : PySem.SeqAt.EqAt A s (.str a t) (.str a u) true := by
  have := PySem.SeqAt.EqAt.str_str (A := A) (s := s) a t a u
  rwa [beq_self_eq_true] at this
end
/-- a thing where no hand sits (no mail stands) -/
def BadPlace (σ : Store) (k : Nat) (v : Value) : Prop := BadOne σ v ∨ ∃ a t, v = .int a t ∧ (k : Int) ≤ a
end Mine

open PySem PySem.W PySem.Calls PyProof.Rows
namespace Mine
section
variable {n : Nat} {c : Cx} {env : Env} {m : Loc} {σ : Store} {X : Value → Loc → Store → Prop} {Q : Value → Loc → Store → Prop}
end
/-! ## a ring in which hands were woken, and no mail was brought -/
structure Woke (nums aw : List Int) (R : Rng) : Prop where
  len : R.hands.length = nums.length
  hand : ∀ (p : Nat) (h : Hnd), R.hands[p]? = some h → h.num = nmAt nums p ∧ h.won = false ∧ h.top = none ∧ h.far = 1 ∧ h.stage = if (p : Int) ∈ aw then some 0 else none
  many : R.many = R.road.length
  cnt : R.road.length ≤ 2 * aw.length
end Mine

open PySem PySem.W PySem.Calls PyProof.Rows
namespace Mine
/-- the law's own lists: all unlike -/
structure Far4 (L : RL) (nl la lm tl : Addr) : Prop where
  am : la ≠ lm
  an : la ≠ nl
  mn : lm ≠ nl
  at_ : la ≠ tl
  mt : lm ≠ tl
  ar : la ≠ L.lr
  mr : lm ≠ L.lr
  nr : nl ≠ L.lr
  tr : tl ≠ L.lr
  ah : la ≠ L.lh
  mh : lm ≠ L.lh
structure L4 (P : Params) (CH CR : Addr) (L : RL) (nl la lm tl : Addr) (nvs tvs : List Value) (kn : Nat) (σ : Store) (R : Rng) (aw : List Int) (ps : List (Nat × Ltr)) (avs : List Value) (ka : Nat) (bs : List Addr) (km : Nat) : Prop where
  A : RingAt P CH CR L σ R
  ha : σ la = some (lstO avs ka)
  hi : IntsAre avs aw
  hm : σ lm = some (lstO (bs.map .ref) km)
  am : All2 (MailAt σ) bs ps
  hn : σ nl = some (lstO nvs kn)
  ht : σ tl = some (lstO tvs 0)
section
variable {P : Params} {CH CR : Addr} {L : RL} {nl la lm tl : Addr} {nvs tvs : List Value} {kn : Nat} {σ σ' : Store} {R R' : Rng} {aw : List Int} {ps : List (Nat × Ltr)} {avs : List Value} {ka : Nat} {bs : List Addr} {km : Nat}
end
end Mine

open PySem PySem.W PySem.Calls PyProof.Rows
namespace Mine
theorem DicAt.newer {g : Pg} {σ : Store} {d a : Addr} {o : Obj} {kvs : List (Str × Value)} (ha : σ a = none) (h : DicAt g σ d kvs) : DicAt g (upd σ a o) d kvs := h.off fun q => by
  obtain ⟨o', e, _⟩ := h
  rw [q, ha] at e; cases e
/-- the pairs of the picture -/
def stD (s : LSt) (ld lp : Addr) (k : Nat → Tok) : List (Str × Value) :=
  [((Str.ofString "number"), .int s.num (k 0)), ((Str.ofString "awake"), .bool s.awake), ((Str.ofString "beaten"), .bool s.beaten), ((Str.ofString "first"), .bool s.first), ((Str.ofString "stage"), .int (s.stage : Int) (k 1)), ((Str.ofString "came"), .int (s.came : Int) (k 2)), ((Str.ofString "known"), optI s.known (k 3)), ((Str.ofString "due"), .ref ld), ((Str.ofString "passed"), .ref lp), ((Str.ofString "most"), .int s.most (k 4)), ((Str.ofString "seen"), .int s.seen (k 5)), ((Str.ofString "around"), .bool s.around), ((Str.ofString "eager"), .bool s.eager)]
section
variable {n : Nat} {c : Cx} {m : Loc} {σ : Store} {X : Value → Loc → Store → Prop} {Q : Value → Loc → Store → Prop} {s : LSt} {ld lp d : Addr} {k : Nat → Tok} {t : Tok} {value slice : Expr}

theorem d_number (hd : DicAt c.g σ d (stD s ld lp k)) (h : Q (.int s.num (k 0)) m σ) (hs : subscripted slice false (.ref d) (.str (Str.ofString "number") t) = operate [.ref d, .str (Str.ofString "number") t] (getItem (.ref d) (.str (Str.ofString "number") t))) : W c (subscriptTail value slice (.ref d) (.str (Str.ofString "number") t)) m σ Q X := w_dget hd rfl h hs
theorem d_awake (hd : DicAt c.g σ d (stD s ld lp k)) (h : Q (.bool s.awake) m σ) (hs : subscripted slice false (.ref d) (.str (Str.ofString "awake") t) = operate [.ref d, .str (Str.ofString "awake") t] (getItem (.ref d) (.str (Str.ofString "awake") t))) : W c (subscriptTail value slice (.ref d) (.str (Str.ofString "awake") t)) m σ Q X := w_dget hd rfl h hs
theorem d_beaten (hd : DicAt c.g σ d (stD s ld lp k)) (h : Q (.bool s.beaten) m σ) (hs : subscripted slice false (.ref d) (.str (Str.ofString "beaten") t) = operate [.ref d, .str (Str.ofString "beaten") t] (getItem (.ref d) (.str (Str.ofString "beaten") t))) : W c (subscriptTail value slice (.ref d) (.str (Str.ofString "beaten") t)) m σ Q X := w_dget hd rfl h hs
theorem d_first (hd : DicAt c.g σ d (stD s ld lp k)) (h : Q (.bool s.first) m σ) (hs : subscripted slice false (.ref d) (.str (Str.ofString "first") t) = operate [.ref d, .str (Str.ofString "first") t] (getItem (.ref d) (.str (Str.ofString "first") t))) : W c (subscriptTail value slice (.ref d) (.str (Str.ofString "first") t)) m σ Q X := w_dget hd rfl h hs
theorem d_stage (hd : DicAt c.g σ d (stD s ld lp k)) (h : Q (.int (s.stage : Int) (k 1)) m σ) (hs : subscripted slice false (.ref d) (.str (Str.ofString "stage") t) = operate [.ref d, .str (Str.ofString "stage") t] (getItem (.ref d) (.str (Str.ofString "stage") t))) : W c (subscriptTail value slice (.ref d) (.str (Str.ofString "stage") t)) m σ Q X := w_dget hd rfl h hs
theorem d_came (hd : DicAt c.g σ d (stD s ld lp k)) (h : Q (.int (s.came : Int) (k 2)) m σ) (hs : subscripted slice false (.ref d) (.str (Str.ofString "came") t) = operate [.ref d, .str (Str.ofString "came") t] (getItem (.ref d) (.str (Str.ofString "came") t))) : W c (subscriptTail value slice (.ref d) (.str (Str.ofString "came") t)) m σ Q X := w_dget hd rfl h hs
theorem d_known (hd : DicAt c.g σ d (stD s ld lp k)) (h : Q (optI s.known (k 3)) m σ) (hs : subscripted slice false (.ref d) (.str (Str.ofString "known") t) = operate [.ref d, .str (Str.ofString "known") t] (getItem (.ref d) (.str (Str.ofString "known") t))) : W c (subscriptTail value slice (.ref d) (.str (Str.ofString "known") t)) m σ Q X := w_dget hd rfl h hs
theorem d_due (hd : DicAt c.g σ d (stD s ld lp k)) (h : Q (.ref ld) m σ) (hs : subscripted slice false (.ref d) (.str (Str.ofString "due") t) = operate [.ref d, .str (Str.ofString "due") t] (getItem (.ref d) (.str (Str.ofString "due") t))) : W c (subscriptTail value slice (.ref d) (.str (Str.ofString "due") t)) m σ Q X := w_dget hd rfl h hs
theorem d_passed (hd : DicAt c.g σ d (stD s ld lp k)) (h : Q (.ref lp) m σ) (hs : subscripted slice false (.ref d) (.str (Str.ofString "passed") t) = operate [.ref d, .str (Str.ofString "passed") t] (getItem (.ref d) (.str (Str.ofString "passed") t))) : W c (subscriptTail value slice (.ref d) (.str (Str.ofString "passed") t)) m σ Q X := w_dget hd rfl h hs
theorem d_most (hd : DicAt c.g σ d (stD s ld lp k)) (h : Q (.int s.most (k 4)) m σ) (hs : subscripted slice false (.ref d) (.str (Str.ofString "most") t) = operate [.ref d, .str (Str.ofString "most") t] (getItem (.ref d) (.str (Str.ofString "most") t))) : W c (subscriptTail value slice (.ref d) (.str (Str.ofString "most") t)) m σ Q X := w_dget hd rfl h hs
theorem d_seen (hd : DicAt c.g σ d (stD s ld lp k)) (h : Q (.int s.seen (k 5)) m σ) (hs : subscripted slice false (.ref d) (.str (Str.ofString "seen") t) = operate [.ref d, .str (Str.ofString "seen") t] (getItem (.ref d) (.str (Str.ofString "seen") t))) : W c (subscriptTail value slice (.ref d) (.str (Str.ofString "seen") t)) m σ Q X := w_dget hd rfl h hs
theorem d_around (hd : DicAt c.g σ d (stD s ld lp k)) (h : Q (.bool s.around) m σ) (hs : subscripted slice false (.ref d) (.str (Str.ofString "around") t) = operate [.ref d, .str (Str.ofString "around") t] (getItem (.ref d) (.str (Str.ofString "around") t))) : W c (subscriptTail value slice (.ref d) (.str (Str.ofString "around") t)) m σ Q X := w_dget hd rfl h hs
theorem d_eager (hd : DicAt c.g σ d (stD s ld lp k)) (h : Q (.bool s.eager) m σ) (hs : subscripted slice false (.ref d) (.str (Str.ofString "eager") t) = operate [.ref d, .str (Str.ofString "eager") t] (getItem (.ref d) (.str (Str.ofString "eager") t))) : W c (subscriptTail value slice (.ref d) (.str (Str.ofString "eager") t)) m σ Q X := w_dget hd rfl h hs
variable {R : Unit → Loc → Store → Prop}
theorem stD_len : (stD s ld lp k).length ≤ sizeLine := by rw [sizeLine_eq]; show 13 ≤ _; omega
theorem ds_awake {b : Bool} (hd : DicAt c.g σ d (stD s ld lp k)) (h : ∀ o', DicAt c.g (upd σ d o') d (stD { s with awake := b } ld lp k) → R () m (upd σ d o')) : W c (setItem (.ref d) (.str (Str.ofString "awake") t) (.bool b)) m σ R X := w_dset hd stD_len fun o' q => h o' (DicAt.new q)
theorem ds_beaten {b : Bool} (hd : DicAt c.g σ d (stD s ld lp k)) (h : ∀ o', DicAt c.g (upd σ d o') d (stD { s with beaten := b } ld lp k) → R () m (upd σ d o')) : W c (setItem (.ref d) (.str (Str.ofString "beaten") t) (.bool b)) m σ R X := w_dset hd stD_len fun o' q => h o' (DicAt.new q)
theorem ds_first {b : Bool} (hd : DicAt c.g σ d (stD s ld lp k)) (h : ∀ o', DicAt c.g (upd σ d o') d (stD { s with first := b } ld lp k) → R () m (upd σ d o')) : W c (setItem (.ref d) (.str (Str.ofString "first") t) (.bool b)) m σ R X := w_dset hd stD_len fun o' q => h o' (DicAt.new q)
theorem ds_around {b : Bool} (hd : DicAt c.g σ d (stD s ld lp k)) (h : ∀ o', DicAt c.g (upd σ d o') d (stD { s with around := b } ld lp k) → R () m (upd σ d o')) : W c (setItem (.ref d) (.str (Str.ofString "around") t) (.bool b)) m σ R X := w_dset hd stD_len fun o' q => h o' (DicAt.new q)
theorem ds_stage {a : Nat} {u : Tok} (hd : DicAt c.g σ d (stD s ld lp k)) (h : ∀ o', DicAt c.g (upd σ d o') d (stD { s with stage := a } ld lp (setT k 1 u)) → R () m (upd σ d o')) : W c (setItem (.ref d) (.str (Str.ofString "stage") t) (.int (a : Int) u)) m σ R X := w_dset hd stD_len fun o' q => h o' (DicAt.new q)
theorem ds_came {a : Nat} {u : Tok} (hd : DicAt c.g σ d (stD s ld lp k)) (h : ∀ o', DicAt c.g (upd σ d o') d (stD { s with came := a } ld lp (setT k 2 u)) → R () m (upd σ d o')) : W c (setItem (.ref d) (.str (Str.ofString "came") t) (.int (a : Int) u)) m σ R X := w_dset hd stD_len fun o' q => h o' (DicAt.new q)
theorem ds_most {a : Int} {u : Tok} (hd : DicAt c.g σ d (stD s ld lp k)) (h : ∀ o', DicAt c.g (upd σ d o') d (stD { s with most := a } ld lp (setT k 4 u)) → R () m (upd σ d o')) : W c (setItem (.ref d) (.str (Str.ofString "most") t) (.int a u)) m σ R X := w_dset hd stD_len fun o' q => h o' (DicAt.new q)
theorem ds_seen {a : Int} {u : Tok} (hd : DicAt c.g σ d (stD s ld lp k)) (h : ∀ o', DicAt c.g (upd σ d o') d (stD { s with seen := a } ld lp (setT k 5 u)) → R () m (upd σ d o')) : W c (setItem (.ref d) (.str (Str.ofString "seen") t) (.int a u)) m σ R X := w_dset hd stD_len fun o' q => h o' (DicAt.new q)
theorem ds_known {a : Int} {u : Tok} (hd : DicAt c.g σ d (stD s ld lp k)) (h : ∀ o', DicAt c.g (upd σ d o') d (stD { s with known := some a } ld lp (setT k 3 u)) → R () m (upd σ d o')) : W c (setItem (.ref d) (.str (Str.ofString "known") t) (.int a u)) m σ R X := w_dset hd stD_len fun o' q => h o' (DicAt.new q)
theorem ds_due {a : Addr} (hd : DicAt c.g σ d (stD s ld lp k)) (h : ∀ o', DicAt c.g (upd σ d o') d (stD s a lp k) → R () m (upd σ d o')) : W c (setItem (.ref d) (.str (Str.ofString "due") t) (.ref a)) m σ R X := w_dset hd stD_len fun o' q => h o' (DicAt.new q)
theorem ds_passed {a : Addr} (hd : DicAt c.g σ d (stD s ld lp k)) (h : ∀ o', DicAt c.g (upd σ d o') d (stD s ld a k) → R () m (upd σ d o')) : W c (setItem (.ref d) (.str (Str.ofString "passed") t) (.ref a)) m σ R X := w_dset hd stD_len fun o' q => h o' (DicAt.new q)
theorem ne_opt {a : Int} {x : Option Int} {t u : Tok} (h : Q (.bool (decide (x ≠ some a))) m σ) : W c (compareOp .NotEq (.int a t) (optI x u)) m σ Q X := by
  cases x with
  | none => exact fun _ F S => PySem.EqNone.ne_int_none (After.here F S (by simpa using h))
  | some b =>
    refine i_ne ?_
    rw [show (a != b) = decide (some b ≠ some a) by
      by_cases q : a = b
      · subst q; simp
      · have z : some b ≠ some a := fun z => q (Option.some.inj z).symm
        rw [bne_iff_ne.mpr q, decide_eq_true z]]
    exact h
end
end Mine

open PySem PySem.W PySem.Calls PyProof.Rows
namespace Mine
section
variable {n : Nat} {c : Cx} {m : Loc} {σ : Store} {X : Value → Loc → Store → Prop} {Q : Value → Loc → Store → Prop}
theorem eqAt_ltr {A : Around} {s : Shared} {a b : Addr} {p : Ltr} (hu : A.units < cLine) (h1 : LtrAt σ a p) (h2 : LtrAt σ b p) (S : Sto c s.heap σ) : PySem.SeqAt.EqAt A s (.ref a) (.ref b) true := by
  by_cases e : a = b
  · subst e; exact PySem.SeqAt.EqAt.same _
  · obtain ⟨k, e1⟩ := h1
    obtain ⟨j, e2⟩ := h2
    refine PySem.SeqAt.EqAt.of_refs e ?_
    have := PySem.SeqAt.RcAt.tuples (A := A) (e := fun _ => true) (isTuple_of S e1) (isTuple_of S e2) hu (fun i h1 h2 => ?_)
    · exact this
    · match i, h1, h2 with
      | 0, _, _ => exact eqAt_int _ _ _
      | 1, _, _ => exact eqAt_str _ _ _
      | 2, _, _ => exact eqAt_int _ _ _
      | 3, _, _ => exact eqAt_int _ _ _
      | 4, _, _ => exact eqAt_int _ _ _
theorem eq_ltrs {l₁ l₂ : Addr} {as bs : List Addr} {ps : List Ltr} {k₁ k₂ : Nat} (g : Gnd n c) (h1 : σ l₁ = some (lstO (as.map .ref) k₁)) (h2 : σ l₂ = some (lstO (bs.map .ref) k₂)) (a1 : All2 (LtrAt σ) as ps) (a2 : All2 (LtrAt σ) bs ps)
    (h : Q (.bool true) m σ) : W c (compareOp .Eq (.ref l₁) (.ref l₂)) m σ Q X := fun s F S => by
  have hu : c.A.units + 1 < cLine := by have := g.un; omega
  refine PySem.SeqAt.eq_listAt (e := fun _ => true) (isList_of S h1) (isList_of S h2) ?_ (by omega) (fun j q1 q2 => ?_) (After.here F S ?_)
  · rw [List.size_toArray, List.size_toArray, List.length_map, List.length_map, a1.len, a2.len]
  · rw [List.getElem_toArray, List.getElem_toArray, List.getElem_map, List.getElem_map]
    have l1 : j < as.length := by simpa using q1
    have l2 : j < bs.length := by simpa using q2
    obtain ⟨p, hp, r1⟩ := a1.get' (List.getElem?_eq_getElem l1)
    obtain ⟨p', hp', r2⟩ := a2.get' (List.getElem?_eq_getElem l2)
    rw [hp] at hp'; cases hp'
    exact eqAt_ltr (by show c.A.units + 1 < cLine; exact hu) r1 r2 S
  · rw [show (List.range (as.map Value.ref).toArray.size).all (fun _ => true) = true from List.all_eq_true.mpr fun _ _ => rfl]
    exact h
end
theorem part_kindL {p : Ltr} {k : Nat → Tok} {j : Nat} {v : Value} (h : (ltrV p k)[j]? = some v) : (∃ a t, v = .int a t) ∨ ∃ x t, v = .str x t := by
  match j, h with
  | 0, h => cases h; exact .inl ⟨_, _, rfl⟩
  | 1, h => cases h; exact .inr ⟨_, _, rfl⟩
  | 2, h => cases h; exact .inl ⟨_, _, rfl⟩
  | 3, h => cases h; exact .inl ⟨_, _, rfl⟩
  | 4, h => cases h; exact .inl ⟨_, _, rfl⟩
  | j + 5, h => cases h
/-- the first seven pairs of the picture -/
def st7 (s : LSt) (k : Nat → Tok) : List (Str × Value) :=
  [((Str.ofString "number"), .int s.num (k 0)), ((Str.ofString "awake"), .bool s.awake), ((Str.ofString "beaten"), .bool s.beaten), ((Str.ofString "first"), .bool s.first), ((Str.ofString "stage"), .int (s.stage : Int) (k 1)), ((Str.ofString "came"), .int (s.came : Int) (k 2)), ((Str.ofString "known"), optI s.known (k 3))]
end Mine

open PySem PySem.W PySem.Calls PyProof.Rows
namespace Mine
/-! ## what the classes give -/
theorem fo_h_number {g : Pg} (hK : g.K = heap g.w.params) : FieldOk g.K 101 (Str.ofString "number") := ⟨by rw [hK]; k_is, by rw [hK]; k_is, by rw [hK]; k_is, by rw [hK]; k_is, by rw [hK]; k_is⟩
theorem fo_h_at_stage {g : Pg} (hK : g.K = heap g.w.params) : FieldOk g.K 101 (Str.ofString "at_stage") := ⟨by rw [hK]; k_is, by rw [hK]; k_is, by rw [hK]; k_is, by rw [hK]; k_is, by rw [hK]; k_is⟩
theorem fo_h_far {g : Pg} (hK : g.K = heap g.w.params) : FieldOk g.K 101 (Str.ofString "far") := ⟨by rw [hK]; k_is, by rw [hK]; k_is, by rw [hK]; k_is, by rw [hK]; k_is, by rw [hK]; k_is⟩
theorem fo_h_had {g : Pg} (hK : g.K = heap g.w.params) : FieldOk g.K 101 (Str.ofString "had") := ⟨by rw [hK]; k_is, by rw [hK]; k_is, by rw [hK]; k_is, by rw [hK]; k_is, by rw [hK]; k_is⟩
theorem fo_h_lost {g : Pg} (hK : g.K = heap g.w.params) : FieldOk g.K 101 (Str.ofString "lost") := ⟨by rw [hK]; k_is, by rw [hK]; k_is, by rw [hK]; k_is, by rw [hK]; k_is, by rw [hK]; k_is⟩
theorem fo_h_won {g : Pg} (hK : g.K = heap g.w.params) : FieldOk g.K 101 (Str.ofString "won") := ⟨by rw [hK]; k_is, by rw [hK]; k_is, by rw [hK]; k_is, by rw [hK]; k_is, by rw [hK]; k_is⟩
theorem fo_h_greatest {g : Pg} (hK : g.K = heap g.w.params) : FieldOk g.K 101 (Str.ofString "greatest") := ⟨by rw [hK]; k_is, by rw [hK]; k_is, by rw [hK]; k_is, by rw [hK]; k_is, by rw [hK]; k_is⟩
theorem mo_h_two_asks {g : Pg} (hK : g.K = heap g.w.params) : MethOk g.K 101 (Str.ofString "two_asks") 35 := ⟨by rw [hK]; k_is, by rw [hK]; k_is, by rw [hK]; k_is, by rw [hK]; k_is⟩
theorem mo_h_wake {g : Pg} (hK : g.K = heap g.w.params) : MethOk g.K 101 (Str.ofString "wake") 42 := ⟨by rw [hK]; k_is, by rw [hK]; k_is, by rw [hK]; k_is, by rw [hK]; k_is⟩
theorem mo_h_take {g : Pg} (hK : g.K = heap g.w.params) : MethOk g.K 101 (Str.ofString "take") 49 := ⟨by rw [hK]; k_is, by rw [hK]; k_is, by rw [hK]; k_is, by rw [hK]; k_is⟩
theorem mo_h_ask_came {g : Pg} (hK : g.K = heap g.w.params) : MethOk g.K 101 (Str.ofString "ask_came") 56 := ⟨by rw [hK]; k_is, by rw [hK]; k_is, by rw [hK]; k_is, by rw [hK]; k_is⟩
theorem mo_h_answer_came {g : Pg} (hK : g.K = heap g.w.params) : MethOk g.K 101 (Str.ofString "answer_came") 63 := ⟨by rw [hK]; k_is, by rw [hK]; k_is, by rw [hK]; k_is, by rw [hK]; k_is⟩
theorem mo_h_crown_came {g : Pg} (hK : g.K = heap g.w.params) : MethOk g.K 101 (Str.ofString "crown_came") 70 := ⟨by rw [hK]; k_is, by rw [hK]; k_is, by rw [hK]; k_is, by rw [hK]; k_is⟩
theorem mo_h_is_awake {g : Pg} (hK : g.K = heap g.w.params) : MethOk g.K 101 (Str.ofString "is_awake") 77 := ⟨by rw [hK]; k_is, by rw [hK]; k_is, by rw [hK]; k_is, by rw [hK]; k_is⟩
theorem mo_h_is_first {g : Pg} (hK : g.K = heap g.w.params) : MethOk g.K 101 (Str.ofString "is_first") 84 := ⟨by rw [hK]; k_is, by rw [hK]; k_is, by rw [hK]; k_is, by rw [hK]; k_is⟩
theorem mo_h_stage {g : Pg} (hK : g.K = heap g.w.params) : MethOk g.K 101 (Str.ofString "stage") 91 := ⟨by rw [hK]; k_is, by rw [hK]; k_is, by rw [hK]; k_is, by rw [hK]; k_is⟩
theorem mo_h_knows {g : Pg} (hK : g.K = heap g.w.params) : MethOk g.K 101 (Str.ofString "knows") 98 := ⟨by rw [hK]; k_is, by rw [hK]; k_is, by rw [hK]; k_is, by rw [hK]; k_is⟩
local macro_rules | `(tactic| walk_at "FO") => `(tactic| first | with_reducible exact fo_h_number (by assumption) | with_reducible exact fo_h_at_stage (by assumption) | with_reducible exact fo_h_far (by assumption) | with_reducible exact fo_h_had (by assumption) | with_reducible exact fo_h_lost (by assumption) | with_reducible exact fo_h_won (by assumption) | with_reducible exact fo_h_greatest (by assumption))
local macro_rules | `(tactic| walk_at "MO") => `(tactic| first | with_reducible exact mo_h_two_asks (by assumption) | with_reducible exact mo_h_wake (by assumption) | with_reducible exact mo_h_take (by assumption) | with_reducible exact mo_h_ask_came (by assumption) | with_reducible exact mo_h_answer_came (by assumption) | with_reducible exact mo_h_crown_came (by assumption) | with_reducible exact mo_h_is_awake (by assumption) | with_reducible exact mo_h_is_first (by assumption) | with_reducible exact mo_h_stage (by assumption) | with_reducible exact mo_h_knows (by assumption))
theorem g_eval {c : Cx} {a0 : Expr} {a1 : Env} {m : Loc} {σ : Store} {Q : _ → Loc → Store → Prop} {X : Value → Loc → Store → Prop} (h : W c (@PySem.eval a0 a1) m σ Q X) : W c (@PySem.eval a0 a1) m σ Q X := h
theorem g_call {c : Cx} {a0 : Value} {a1 : List Value} {a2 : _} {m : Loc} {σ : Store} {Q : _ → Loc → Store → Prop} {X : Value → Loc → Store → Prop} (h : W c (@PySem.call a0 a1 a2) m σ Q X) : W c (@PySem.call a0 a1 a2) m σ Q X := h
theorem g_compareOp {c : Cx} {a0 : CmpOp} {a1 : Value} {a2 : Value} {m : Loc} {σ : Store} {Q : _ → Loc → Store → Prop} {X : Value → Loc → Store → Prop} (h : W c (@PySem.compareOp a0 a1 a2) m σ Q X) : W c (@PySem.compareOp a0 a1 a2) m σ Q X := h
theorem g_binaryOp {c : Cx} {a0 : Operator} {a1 : Value} {a2 : Value} {m : Loc} {σ : Store} {Q : _ → Loc → Store → Prop} {X : Value → Loc → Store → Prop} (h : W c (@PySem.binaryOp a0 a1 a2) m σ Q X) : W c (@PySem.binaryOp a0 a1 a2) m σ Q X := h
theorem g_subscriptTail {c : Cx} {a0 : Expr} {a1 : Expr} {a2 : Value} {a3 : Value} {m : Loc} {σ : Store} {Q : _ → Loc → Store → Prop} {X : Value → Loc → Store → Prop} (h : W c (@PyProof.Rows.subscriptTail a0 a1 a2 a3) m σ Q X) : W c (@PyProof.Rows.subscriptTail a0 a1 a2 a3) m σ Q X := h
theorem g_getAttr {c : Cx} {a0 : _} {a1 : _} {a2 : _} {m : Loc} {σ : Store} {Q : _ → Loc → Store → Prop} {X : Value → Loc → Store → Prop} (h : W c (@PySem.getAttr a0 a1 a2) m σ Q X) : W c (@PySem.getAttr a0 a1 a2) m σ Q X := h
theorem g_setItem {c : Cx} {a0 : Value} {a1 : Value} {a2 : Value} {m : Loc} {σ : Store} {Q : _ → Loc → Store → Prop} {X : Value → Loc → Store → Prop} (h : W c (@PySem.setItem a0 a1 a2) m σ Q X) : W c (@PySem.setItem a0 a1 a2) m σ Q X := h
theorem g_callWith {c : Cx} {a0 : _} {a1 : _} {a2 : _} {a3 : _} {a4 : _} {m : Loc} {σ : Store} {Q : _ → Loc → Store → Prop} {X : Value → Loc → Store → Prop} (h : W c (@PySem.callWith a0 a1 a2 a3 a4) m σ Q X) : W c (@PySem.callWith a0 a1 a2 a3 a4) m σ Q X := h
theorem g_getMethod {c : Cx} {a0 : _} {a1 : _} {a2 : _} {m : Loc} {σ : Store} {Q : _ → Loc → Store → Prop} {X : Value → Loc → Store → Prop} (h : W c (@PySem.getMethod a0 a1 a2) m σ Q X) : W c (@PySem.getMethod a0 a1 a2) m σ Q X := h
theorem g_setAttr {c : Cx} {a0 : _} {a1 : _} {a2 : _} {m : Loc} {σ : Store} {Q : _ → Loc → Store → Prop} {X : Value → Loc → Store → Prop} (h : W c (@PySem.setAttr a0 a1 a2) m σ Q X) : W c (@PySem.setAttr a0 a1 a2) m σ Q X := h
theorem g_execs {c : Cx} {a0 : List Stmt} {a1 : Env} {m : Loc} {σ : Store} {Q : _ → Loc → Store → Prop} {X : Value → Loc → Store → Prop} (h : W c (@PySem.execs a0 a1) m σ Q X) : W c (@PySem.execs a0 a1) m σ Q X := h
theorem g_isTrue {c : Cx} {a0 : _} {a1 : _} {a2 : _} {m : Loc} {σ : Store} {Q : _ → Loc → Store → Prop} {X : Value → Loc → Store → Prop} (h : W c (@PySem.isTrue a0 a1 a2) m σ Q X) : W c (@PySem.isTrue a0 a1 a2) m σ Q X := h
theorem g_name {c : Cx} {x : Str} {p : Pos} {env : Env} {m : Loc} {σ : Store} {Q : Value → Loc → Store → Prop} {X : Value → Loc → Store → Prop} (h : W c (eval (.Name x p) env) m σ Q X) : W c (eval (.Name x p) env) m σ Q X := h
/-! ## the walk's own steps -/
set_option hygiene false in
local macro_rules | `(tactic| walk_at "m") => `(tactic| first | with_reducible assumption | with_reducible exact setM_same | ((with_reducible refine setM_ne (by decide +kernel) ?_); walk_at "m"))
set_option hygiene false in
local macro_rules | `(tactic| walk_at "D") => `(tactic| first | with_reducible assumption | ((with_reducible refine DicAt.newer (by assumption) ?_); walk_at "D") | ((with_reducible refine DicAt.off ?_ (by assumption)); walk_at "D"))
set_option hygiene false in
local macro_rules | `(tactic| walk_at "K") => `(tactic| (rw [hK]; k_is))
set_option hygiene false in
local macro_rules | `(tactic| walk_at "o") => `(tactic| first | with_reducible assumption | with_reducible exact upd_same | ((with_reducible refine look_new (by assumption) ?_); walk_at "o") | ((with_reducible refine look_off (by assumption) ?_); walk_at "o"))
set_option hygiene false in
local macro_rules | `(tactic| walk_at "enter") => `(tactic| ((case k6 => walk_at "K"); (case k7 => walk_at "K"); (case k9 => exact rfl); (case kB => exact locs rfl); (case c5 => decide +kernel); (case c2 => exact rfl); (case c3 => exact rfl); (case c4 => exact rfl)))
set_option hygiene false in
local macro_rules | `(tactic| walk_at "stmt") => `(tactic| first
  | with_reducible refine app_nil ?_
  | with_reducible refine app_cons ?_
  | ((with_reducible refine x_assign ?hs ?_); (case hs => exact rfl))
  | with_reducible refine x_ret ?_
  | ((with_reducible refine x_attr ?hs ?_); (case hs => exact rfl))
  | ((with_reducible refine x_expr (by assumption) ?hs ?_); (case hs => exact rfl))
  | ((with_reducible refine x_sub ?hs ?_); (case hs => exact rfl))
  | with_reducible refine x_nil ?_
  | ((with_reducible refine x_for ?_ rfl ?hs); rotate_left; (case hs => intro _; exact rfl))
  | ((with_reducible refine' x_raise ?k0 ?k1 ?k2 ?k3 ?k4 ?k5 (fun _ _ _ _ _ _ => ?_)); (case k0 => assumption); (case k1 => assumption); (case k2 => decide +kernel); (case k3 => decide +kernel); (case k4 => walk_at "K"); (case k5 => rw [hK]; kernel_rfl)))
set_option hygiene false in
local macro_rules | `(tactic| walk_at "name") => `(tactic| first
  | with_reducible refine n_local (by assumption) (by assumption) (by assumption) (by decide +kernel) (by decide +kernel) (by walk_at "m") ?_
  | with_reducible refine n_cell (by assumption) (by assumption) (by assumption) (by decide +kernel) (by decide +kernel) (by walk_at "m") ?_
  | with_reducible refine n_localC (by assumption) (by assumption) (by assumption) (by assumption) (by decide +kernel) (by decide +kernel) (by walk_at "m") ?_
  | ((with_reducible refine' n_glob ?k1 ?k2 ?k3 ?k4 ?k5 ?_); (case k1 => assumption); (case k2 => assumption); (case k3 => decide +kernel); (case k4 => decide +kernel); (case k5 => walk_at "K"))
  | ((with_reducible refine' n_built ?k1 ?k2 ?k3 ?k4 ?k5 ?k6 ?k7 ?_); (case k1 => assumption); (case k2 => assumption); (case k3 => decide +kernel); (case k4 => decide +kernel); (case k5 => walk_at "K"); (case k6 => decide +kernel); (case k7 => boot_fast))
  | with_reducible refine cn_cellC (by assumption) (by assumption) (by assumption) (by decide +kernel) (by decide +kernel) (by decide +kernel) (by walk_at "m") ?_
  | with_reducible refine cn_local (by assumption) (by decide +kernel) (by decide +kernel) (by walk_at "o") (by assumption) (by assumption) ?_
  | ((with_reducible refine' cn_glob ?k0 ?k1 ?k2 ?k3 ?k4 ?_); (case k0 => assumption); (case k1 => assumption); (case k2 => decide +kernel); (case k3 => decide +kernel); (case k4 => walk_at "K"))
  | ((with_reducible refine' cn_built ?k0 ?k1 ?k2 ?k3 ?k5 ?k6 ?k7 ?_); (case k0 => assumption); (case k1 => assumption); (case k2 => decide +kernel); (case k3 => decide +kernel); (case k5 => walk_at "K"); (case k6 => decide +kernel); (case k7 => boot_fast))
  | ((with_reducible refine' n_builtS ?k1 ?k2 ?k3 ?k4 ?k5 ?k6 ?k7 ?_); (case k1 => assumption); (case k2 => assumption); (case k3 => decide +kernel); (case k4 => decide +kernel); (case k5 => walk_at "K"); (case k6 => decide +kernel); (case k7 => boot_fast)))
set_option hygiene false in
local macro_rules | `(tactic| walk_at "expr") => `(tactic| first
  | with_reducible refine w_int fun _ => ?_
  | with_reducible refine w_none ?_
  | with_reducible refine w_bool ?_
  | with_reducible refine w_str fun _ => ?_
  | with_reducible refine w_binop ?_
  | ((with_reducible refine w_attr ?_ ?he); rotate_left; (case he => with_unfolding_all exact rfl))
  | ((with_reducible refine w_cmp ?_ ?he); rotate_left; (case he => with_unfolding_all exact rfl))
  | with_reducible refine w_tuple ?_
  | with_reducible refine w_list ?_
  | walk_at "sl"
  | with_reducible refine w_sub ?_
  | ((with_reducible refine' w_meth ?_ ?he); (case he => exact rfl))
  | ((with_reducible refine' w_call ?_ ?he); (case he => exact rfl))
  | with_reducible refine w_unop ?_
  | with_reducible refine e_and ?_
  | with_reducible refine w_one ?_
  | with_reducible refine e_if ?_
  | with_reducible refine w_dict1 (fun _ _ _ _ => ?_))
set_option hygiene false in
local macro_rules | `(tactic| walk_at "test") => `(tactic| first
  | with_reducible refine t_not ?_
  | with_reducible refine b_and ?_
  | with_reducible refine t_and_nil ?_
  | with_reducible refine b_or ?_
  | with_reducible refine t_or_nil ?_
  | ((with_reducible refine t_cmp ?_ ?he); rotate_left; (case he => with_unfolding_all exact rfl))
  | ((with_reducible refine t_plain ?_ ?he); rotate_left; (case he => exact rfl)))
set_option hygiene false in
local macro_rules | `(tactic| walk_at "p_call") => `(tactic| first
  | with_reducible refine call_nil ?_
  | with_reducible refine call_one ?_
  | ((with_reducible refine' i_min2 ?k0 (fun _ => ?_)); (case k0 => assumption))
  | with_reducible refine isi_int_int ?_
  | with_reducible refine isi_int_bool ?_
  | with_reducible refine isi_bool_bool ?_
  | ((with_reducible refine' isi_list ?k1 ?_); (case k1 => walk_at "o"))
  | ((with_reducible refine' w_len ?k1 ?k2 (fun _ => ?_)); (case k1 => walk_at "o"); (case k2 => walk_at "z"))
  | ((with_reducible refine' w_len_base ?k1 ?k2 (fun _ => ?_)); (case k1 => exact Gnd.base (by assumption)); (case k2 => walk_at "z"))
  | ((with_reducible refine' w_range1 (fun _ _ _ _ _ => ?_)))
  | ((with_reducible refine' w_range2 (fun _ _ _ _ _ => ?_)))
  | ((with_reducible refine' w_copy ?k1 ?k2 (fun _ _ _ => ?_)); (case k1 => walk_at "o"); (case k2 => walk_at "z")))
set_option hygiene false in
local macro_rules | `(tactic| walk_at "p_compareOp") => `(tactic| first
  | ((with_reducible refine' eq_nil ?k0 ?k1 ?k2 ?_); (case k0 => assumption); (case k1 => walk_at "o"); (case k2 => walk_at "o"))
  | ((with_reducible refine' ne_nil ?k0 ?k1 ?k2 ?_); (case k0 => assumption); (case k1 => walk_at "o"); (case k2 => walk_at "o"))
  | with_reducible refine eq_bools ?_
  | with_reducible refine i_eq ?_
  | with_reducible refine i_ne ?_
  | with_reducible refine i_lt ?_
  | with_reducible refine i_gt ?_
  | with_reducible refine s_eq ?_
  | with_reducible refine s_ne ?_
  | with_reducible refine ne_opt ?_
  | with_reducible refine is_no ?_
  | with_reducible refine isnot_no ?_
  | with_reducible refine is_no_int ?_
  | with_reducible refine isnot_no_int ?_
  | with_reducible refine isnot_no_ref ?_)
set_option hygiene false in
local macro_rules | `(tactic| walk_at "p_binaryOp") => `(tactic| first
  | ((with_reducible refine' i_pow ?k1 ?k2 ?k3 (fun _ => ?_)); (case k1 => decide); (case k2 => decide); (case k3 => decide))
  | ((with_reducible refine' i_mod ?k1 (fun _ => ?_)); (case k1 => walk_at "z"))
  | ((with_reducible refine' i_div ?k1 ?k2 (fun _ => ?_)); (case k1 => walk_at "z"); (case k2 => walk_at "z"))
  | ((with_reducible refine' i_mul (fun _ => ?_) ?k1); (case k1 => walk_at "mul"))
  | with_reducible refine i_add fun _ => ?_
  | with_reducible refine i_sub fun _ => ?_)
set_option hygiene false in
local macro_rules | `(tactic| walk_at "p_subscriptTail") => `(tactic| first
  | ((with_reducible refine' part_way ?k1 ?_ ?k6); rotate_right; (case k6 => with_unfolding_all exact rfl); (case k1 => walk_at "o"))
  | ((with_reducible refine' part_word ?k1 ?_ ?k6); rotate_right; (case k6 => with_unfolding_all exact rfl); (case k1 => walk_at "o"))
  | ((with_reducible refine' part_num ?k1 ?_ ?k6); rotate_right; (case k6 => with_unfolding_all exact rfl); (case k1 => walk_at "o"))
  | ((with_reducible refine' part_lstage ?k1 ?_ ?k6); rotate_right; (case k6 => with_unfolding_all exact rfl); (case k1 => walk_at "o"))
  | ((with_reducible refine' part_steps ?k1 ?_ ?k6); rotate_right; (case k6 => with_unfolding_all exact rfl); (case k1 => walk_at "o"))
  | ((with_reducible refine' d_number ?k1 ?_ ?k6); rotate_right; (case k6 => with_unfolding_all exact rfl); (case k1 => walk_at "D"))
  | ((with_reducible refine' d_awake ?k1 ?_ ?k6); rotate_right; (case k6 => with_unfolding_all exact rfl); (case k1 => walk_at "D"))
  | ((with_reducible refine' d_beaten ?k1 ?_ ?k6); rotate_right; (case k6 => with_unfolding_all exact rfl); (case k1 => walk_at "D"))
  | ((with_reducible refine' d_first ?k1 ?_ ?k6); rotate_right; (case k6 => with_unfolding_all exact rfl); (case k1 => walk_at "D"))
  | ((with_reducible refine' d_stage ?k1 ?_ ?k6); rotate_right; (case k6 => with_unfolding_all exact rfl); (case k1 => walk_at "D"))
  | ((with_reducible refine' d_came ?k1 ?_ ?k6); rotate_right; (case k6 => with_unfolding_all exact rfl); (case k1 => walk_at "D"))
  | ((with_reducible refine' d_known ?k1 ?_ ?k6); rotate_right; (case k6 => with_unfolding_all exact rfl); (case k1 => walk_at "D"))
  | ((with_reducible refine' d_due ?k1 ?_ ?k6); rotate_right; (case k6 => with_unfolding_all exact rfl); (case k1 => walk_at "D"))
  | ((with_reducible refine' d_passed ?k1 ?_ ?k6); rotate_right; (case k6 => with_unfolding_all exact rfl); (case k1 => walk_at "D"))
  | ((with_reducible refine' d_most ?k1 ?_ ?k6); rotate_right; (case k6 => with_unfolding_all exact rfl); (case k1 => walk_at "D"))
  | ((with_reducible refine' d_seen ?k1 ?_ ?k6); rotate_right; (case k6 => with_unfolding_all exact rfl); (case k1 => walk_at "D"))
  | ((with_reducible refine' d_around ?k1 ?_ ?k6); rotate_right; (case k6 => with_unfolding_all exact rfl); (case k1 => walk_at "D"))
  | ((with_reducible refine' d_eager ?k1 ?_ ?k6); rotate_right; (case k6 => with_unfolding_all exact rfl); (case k1 => walk_at "D")))
set_option hygiene false in
local macro_rules | `(tactic| walk_at "p_getAttr") => `(tactic| first
  | ((with_reducible refine' get_number ?k1 ?k2 ?k3 ?k4 ?_); (case k1 => assumption); (case k3 => walk_at "o"); (case k4 => walk_at "o"); (case k2 => walk_at "FO"))
  | ((with_reducible refine' get_far ?k1 ?k2 ?k3 ?k4 ?_); (case k1 => assumption); (case k3 => walk_at "o"); (case k4 => walk_at "o"); (case k2 => walk_at "FO"))
  | ((with_reducible refine' get_had ?k1 ?k2 ?k3 ?k4 ?_); (case k1 => assumption); (case k3 => walk_at "o"); (case k4 => walk_at "o"); (case k2 => walk_at "FO"))
  | ((with_reducible refine' get_lost ?k1 ?k2 ?k3 ?k4 ?_); (case k1 => assumption); (case k3 => walk_at "o"); (case k4 => walk_at "o"); (case k2 => walk_at "FO"))
  | ((with_reducible refine' get_won ?k1 ?k2 ?k3 ?k4 ?_); (case k1 => assumption); (case k3 => walk_at "o"); (case k4 => walk_at "o"); (case k2 => walk_at "FO"))
  | ((with_reducible refine' get_stage ?k1 ?k2 ?k3 ?k4 ?k5 ?_); (case k1 => assumption); (case k3 => walk_at "o"); (case k4 => walk_at "o"); (case k2 => walk_at "FO"); (case k5 => first | assumption | exact rfl))
  | ((with_reducible refine' get_stage0 ?k1 ?k2 ?k3 ?k4 ?k5 ?_); (case k1 => assumption); (case k3 => walk_at "o"); (case k4 => walk_at "o"); (case k2 => walk_at "FO"); (case k5 => first | assumption | exact rfl))
  | ((with_reducible refine' get_top ?k1 ?k2 ?k3 ?k4 ?k5 ?_); (case k1 => assumption); (case k3 => walk_at "o"); (case k4 => walk_at "o"); (case k2 => walk_at "FO"); (case k5 => first | assumption | exact rfl))
  | ((with_reducible refine' get_top0 ?k1 ?k2 ?k3 ?k4 ?k5 ?_); (case k1 => assumption); (case k3 => walk_at "o"); (case k4 => walk_at "o"); (case k2 => walk_at "FO"); (case k5 => first | assumption | exact rfl)))
set_option hygiene false in
local macro_rules | `(tactic| walk_at "p_setItem") => `(tactic| first
  | ((with_reducible refine' ds_awake ?k1 (fun _ _ => ?_)); (case k1 => walk_at "D"))
  | ((with_reducible refine' ds_beaten ?k1 (fun _ _ => ?_)); (case k1 => walk_at "D"))
  | ((with_reducible refine' ds_first ?k1 (fun _ _ => ?_)); (case k1 => walk_at "D"))
  | ((with_reducible refine' ds_around ?k1 (fun _ _ => ?_)); (case k1 => walk_at "D"))
  | ((with_reducible refine' ds_stage ?k1 (fun _ _ => ?_)); (case k1 => walk_at "D"))
  | ((with_reducible refine' ds_came ?k1 (fun _ _ => ?_)); (case k1 => walk_at "D"))
  | ((with_reducible refine' ds_most ?k1 (fun _ _ => ?_)); (case k1 => walk_at "D"))
  | ((with_reducible refine' ds_seen ?k1 (fun _ _ => ?_)); (case k1 => walk_at "D"))
  | ((with_reducible refine' ds_known ?k1 (fun _ _ => ?_)); (case k1 => walk_at "D"))
  | ((with_reducible refine' ds_due ?k1 (fun _ _ => ?_)); (case k1 => walk_at "D"))
  | ((with_reducible refine' ds_passed ?k1 (fun _ _ => ?_)); (case k1 => walk_at "D")))
set_option hygiene false in
local macro_rules | `(tactic| walk_at "p_callWith") => `(tactic| first
  | ((with_reducible refine' w_with ?k1 ?k2 ?_ ?k3 ?k4); (case k1 => assumption); (case k2 => walk_at "K"); rotate_left; (case k3 => exact rfl); (case k4 => exact rfl))
  | ((with_reducible refine' w_with0 ?k1 ?k2 ?_); (case k1 => assumption); (case k2 => walk_at "K"))
  | ((with_reducible refine' w_bwith ?k2 ?_ ?k3 ?k4); (case k2 => exact rfl); rotate_left; (case k3 => exact rfl); (case k4 => exact rfl))
  | ((with_reducible refine' w_bwith0 ?k2 ?_); (case k2 => exact rfl)))
set_option hygiene false in
local macro_rules | `(tactic| walk_at "p_getMethod") => `(tactic| first
  | ((with_reducible refine' w_getappend ?k1 ?_); (case k1 => walk_at "o"))
  | ((with_reducible refine' w_getpop ?k1 ?_); (case k1 => walk_at "o"))
  | ((with_reducible refine' meth_hand ?k1 ?k2 ?k3 ?k4 ?k5 ?_); (case k1 => assumption); (case k3 => walk_at "o"); (case k4 => walk_at "o"); (case k2 => walk_at "MO"); (case k5 => exact rfl))
  | ((with_reducible refine' meth_ring ?k1 ?k2 ?k3 ?k4 ?k5 ?_); (case k1 => assumption); (case k3 => walk_at "o"); (case k4 => walk_at "o"); (case k2 => walk_at "MO"); (case k5 => exact rfl)))
set_option hygiene false in
local macro_rules | `(tactic| walk_at "p_setAttr") => `(tactic| first
  | ((with_reducible refine' set_lost ?k1 ?k2 ?k3 ?k4 ?_); (case k1 => assumption); (case k3 => walk_at "o"); (case k4 => walk_at "o"); (case k2 => walk_at "FO"))
  | ((with_reducible refine' set_won ?k1 ?k2 ?k3 ?k4 ?_); (case k1 => assumption); (case k3 => walk_at "o"); (case k4 => walk_at "o"); (case k2 => walk_at "FO"))
  | ((with_reducible refine' set_top ?k1 ?k2 ?k3 ?k4 (fun _ => ?_)); (case k1 => assumption); (case k3 => walk_at "o"); (case k4 => walk_at "o"); (case k2 => walk_at "FO"))
  | ((with_reducible refine' set_new ?k1 ?k2 ?k3 ?k4 ?k5 ?k6 (fun _ => ?_)); (case k1 => assumption); (case k3 => walk_at "o"); (case k4 => walk_at "o"); (case k2 => walk_at "FO"); (case k5 => exact rfl); (case k6 => exact Nat.lt_of_succ_le (Nat.le_of_ble_eq_true rfl))))
set_option hygiene false in
local macro_rules | `(tactic| walk_at "p_rest") => `(tactic| first
  | with_reducible refine n_storeC (by assumption) (by assumption) (by assumption) (by assumption) (by decide +kernel) ?_
  | with_reducible refine n_store (by assumption) (by assumption) (by assumption) (by decide +kernel) ?_
  | ((with_reducible refine w_spliced ?_ ?he); rotate_left; (case he => exact rfl))
  | with_reducible refine w_spliced_nil ?_
  | ((with_reducible refine w_newTuple (fun _ _ => ?_) ?hz); rotate_left; (case hz => exact Nat.le_of_ble_eq_true rfl))
  | ((with_reducible refine w_newList (fun _ _ => ?_) ?hz); rotate_left; (case hz => exact Nat.le_of_ble_eq_true rfl))
  | with_reducible refine v_bool ?_
  | with_reducible refine u_not ?_
  | with_reducible refine i_neg fun _ => ?_)
set_option hygiene false in
local macro_rules | `(tactic| walk_at "br") => `(tactic| first
  | with_reducible refine br_true ?_
  | with_reducible refine br_false ?_
  | with_reducible refine br_not ?_)
set_option hygiene false in
local macro_rules | `(tactic| walk_at "s") => `(tactic| first
  | ((with_reducible refine g_name ?_); walk_at "name")
  | ((with_reducible refine g_eval ?_); walk_at "expr")
  | ((with_reducible refine g_call ?_); walk_at "p_call")
  | ((with_reducible refine g_compareOp ?_); walk_at "p_compareOp")
  | ((with_reducible refine g_binaryOp ?_); walk_at "p_binaryOp")
  | ((with_reducible refine g_subscriptTail ?_); walk_at "p_subscriptTail")
  | ((with_reducible refine g_getAttr ?_); walk_at "p_getAttr")
  | walk_at "p_rest"
  | ((with_reducible refine g_execs ?_); first | walk_at "stmt" | with_reducible refine x_if ?_)
  | ((with_reducible refine g_setItem ?_); walk_at "p_setItem")
  | ((with_reducible refine g_callWith ?_); walk_at "p_callWith")
  | ((with_reducible refine g_getMethod ?_); walk_at "p_getMethod")
  | ((with_reducible refine g_setAttr ?_); walk_at "p_setAttr")
  | ((with_reducible refine g_isTrue ?_); walk_at "test")
  | walk_at "br")
set_option hygiene false in
local macro_rules | `(tactic| walk_at "u") => `(tactic| first
  | ((with_reducible refine g_name ?_); walk_at "name")
  | ((with_reducible refine g_eval ?_); walk_at "expr")
  | ((with_reducible refine g_call ?_); walk_at "p_call")
  | ((with_reducible refine g_compareOp ?_); walk_at "p_compareOp")
  | ((with_reducible refine g_binaryOp ?_); walk_at "p_binaryOp")
  | ((with_reducible refine g_subscriptTail ?_); walk_at "p_subscriptTail")
  | ((with_reducible refine g_getAttr ?_); walk_at "p_getAttr")
  | walk_at "p_rest"
  | ((with_reducible refine g_execs ?_); first | walk_at "stmt")
  | ((with_reducible refine g_setItem ?_); walk_at "p_setItem")
  | ((with_reducible refine g_callWith ?_); walk_at "p_callWith")
  | ((with_reducible refine g_getMethod ?_); walk_at "p_getMethod")
  | ((with_reducible refine g_setAttr ?_); walk_at "p_setAttr")
  | ((with_reducible refine g_isTrue ?_); walk_at "test")
  | walk_at "br")
set_option hygiene false in
local macro_rules | `(tactic| walk_at "fr") => `(tactic| first | assumption | exact upd_none (by assumption) | exact upd_none (upd_none (by assumption)) | exact upd_none (upd_none (upd_none (by assumption))) | exact upd_none (upd_none (upd_none (upd_none (by assumption)))))
set_option hygiene false in
local macro_rules | `(tactic| walk_at "keep") => `(tactic| first | assumption | exact Keep.refl | ((refine Keep.upd ?_ (.inl rfl)); walk_at "keep") | ((refine Keep.upd ?_ (.inr (by assumption))); walk_at "keep"))
set_option hygiene false in
local macro_rules | `(tactic| walk_at "l") => `(tactic| ((refine' ltr_of ?kh ?ka ?kb ?kc ?kd ?ke); (case kh => walk_at "o"); (case ka => exact rfl); (case kb => exact rfl); (case kc => exact rfl); (case kd => exact rfl); (case ke => first | exact rfl | (dsimp only; omega))))
set_option hygiene false in
local macro_rules | `(tactic| walk_at "z") => `(tactic| first | assumption | omega | (rw [sizeLine_eq]; omega) | (rw [sizeLine_eq, List.length_map]; omega) | decide +kernel)
set_option hygiene false in
local macro_rules | `(tactic| walk_at "mul") => `(tactic| first | exact PySem.IntMulOk.of_right (by decide) | exact PySem.IntMulOk.of_left (by decide) | exact PySem.IntMulOk.of_right (PySem.intBits_le_64 (by omega) (by omega)) | exact PySem.IntMulOk.of_left (PySem.intBits_le_64 (by omega) (by omega)))
set_option hygiene false in
local macro_rules | `(tactic| walk_at "sl") => `(tactic| ((with_reducible refine w_tail ?_ ?ht); rotate_left; (case ht => intro _ _; with_unfolding_all exact rfl)))
set_option hygiene false in
local macro_rules | `(tactic| walk_at "enterC") => `(tactic| ((case k6 => walk_at "K"); (case k7 => walk_at "K"); (case k9 => exact rfl); (case kB => exact rfl); (case c5 => decide +kernel); (case c2 => exact rfl); (case c3 => exact rfl); (case c4 => exact rfl)))
section
variable {g : Pg} {σ : Store} {x dx : Addr} {h : Hnd}
theorem m_asks (hK : g.K = heap g.w.params) (H : HandAt g.w.params 101 σ x dx h) {s : Nat} (hs : h.stage = some s) :
    Fn g 1 (.ref 35) [.ref x] σ (Gives g.w.params 101 σ x dx h (h.asks s)) NoE := by
  obtain ⟨k, hx, hd⟩ := H
  have hne := inst_ne hx hd
  refine' fn_body [(Str.ofString "self", .ref x)] ?k6 ?k7 ?k9 ?kB ?c5 ?c2 ?c3 ?c4 ?_
  walk_at "enter"
  intro c m hg G hsc hcl hin hm
  have m1 : m (Str.ofString "self") = some (.ref x) := by rw [hm]; rfl
  clear hm
  subst hg
  show W c (execs (_ :: _) c.env) _ _ _ _
  repeat walk_at "s"
  exact Gives.mk [_, _] (by walk_at "fr") upd_same (.cons (by walk_at "l") (.cons (by walk_at "l") .nil)) ⟨k, by walk_at "o", by walk_at "o"⟩ (by walk_at "keep")
theorem m_wake (hK : g.K = heap g.w.params) (H : HandAt g.w.params 101 σ x dx h) :
    Fn g 2 (.ref 42) [.ref x] σ (Gives g.w.params 101 σ x dx h.wake.1 h.wake.2) NoE := by
  obtain ⟨k, hx, hd⟩ := H
  have hne := inst_ne hx hd
  refine' fn_body [(Str.ofString "self", .ref x)] ?k6 ?k7 ?k9 ?kB ?c5 ?c2 ?c3 ?c4 ?_
  walk_at "enter"
  intro c m hg G hsc hcl hin hm
  have m1 : m (Str.ofString "self") = some (.ref x) := by rw [hm]; rfl
  clear hm
  subst hg
  show W c (execs (_ :: _) c.env) _ _ _ _
  cases hs : h.stage with
  | some s =>
    rw [wake_awake (by rw [hs]; exact fun q => nomatch q)]
    repeat walk_at "s"
    exact Gives.mk [] (by walk_at "fr") upd_same .nil ⟨k, by walk_at "o", by walk_at "o"⟩ (by walk_at "keep")
  | none =>
    rw [wake_asleep hs]
    repeat walk_at "s"
    refine set_stage 0 G (by walk_at "FO") (by walk_at "o") (by walk_at "o") rfl fun k' => ?_
    repeat walk_at "s"
    refine w_fn G (Nat.le_refl _) (m_asks (h := { h with stage := some 0 }) hK ⟨k', by walk_at "o", by walk_at "o"⟩ rfl) (fun v σ' q => ?_) fun _ _ q => q.elim
    obtain ⟨la, as, kk, rfl, h1, h2, h3, h4, h5⟩ := q
    exact ⟨la, as, kk, rfl, by walk_at "fr", h2, h3, h4, fun a o e n => h5 a o (by rw [upd_ne n]; exact e) n⟩

theorem m_ask (hK : g.K = heap g.w.params) (H : HandAt g.w.params 101 σ x dx h) {a : Addr} {l : Ltr} (T : LtrAt σ a l) :
    Fn g 2 (.ref 56) [.ref x, .ref a] σ (Gives g.w.params 101 σ x dx (h.askCame l).1 (h.askCame l).2) NoE := by
  obtain ⟨k, hx, hd⟩ := H
  obtain ⟨kl, hl⟩ := T
  have hne := inst_ne hx hd
  have hla := tup_ne hl hd
  refine' fn_body [(Str.ofString "self", .ref x), (Str.ofString "letter", .ref a)] ?k6 ?k7 ?k9 ?kB ?c5 ?c2 ?c3 ?c4 ?_
  walk_at "enter"
  intro c m hg G hsc hcl hin hm
  have m1 : m (Str.ofString "self") = some (.ref x) := by rw [hm]; rfl
  have m2 : m (Str.ofString "letter") = some (.ref a) := by rw [hm]; rfl
  clear hm
  subst hg
  show W c (execs (_ :: _) c.env) _ _ _ _
  repeat walk_at "s"
  refine br_dec (fun q1 => ?_) fun q1 => ?_
  · rw [show h.askCame l = (h, []) by unfold Hnd.askCame; rw [if_pos q1]]
    repeat walk_at "s"
    exact Gives.mk [] (by walk_at "fr") upd_same .nil ⟨k, by walk_at "o", by walk_at "o"⟩ (by walk_at "keep")
  · repeat walk_at "s"
    refine br_dec (fun q2 => ?_) fun q2 => ?_
    · repeat walk_at "s"
      refine br_dec (fun q3 => ?_) fun q3 => ?_
      · have q3' : 1 < l.steps := by omega
        rw [show h.askCame l = ({ h with lost := true }, [⟨l.way, .ask, l.num, l.stage, l.steps - 1⟩]) by unfold Hnd.askCame; rw [if_neg q1, if_pos q2, if_pos q3']]
        repeat walk_at "s"
        exact Gives.mk [_] (by walk_at "fr") upd_same (.cons (by walk_at "l") .nil) ⟨k, by walk_at "o", by walk_at "o"⟩ (by walk_at "keep")
      · have q3' : ¬ 1 < l.steps := by omega
        rw [show h.askCame l = ({ h with lost := true }, [⟨-l.way, .answer, l.num, l.stage, 0⟩]) by unfold Hnd.askCame; rw [if_neg q1, if_pos q2, if_neg q3']]
        repeat walk_at "s"
        exact Gives.mk [_] (by walk_at "fr") upd_same (.cons (by walk_at "l") .nil) ⟨k, by walk_at "o", by walk_at "o"⟩ (by walk_at "keep")
    · repeat walk_at "s"
      refine br_any (fun q3 => ?_) fun q3 => ?_
      · rw [show h.askCame l = (h, []) by unfold Hnd.askCame; rw [if_neg q1, if_neg q2, if_pos q3]]
        repeat walk_at "s"
        exact Gives.mk [] (by walk_at "fr") upd_same .nil ⟨k, by walk_at "o", by walk_at "o"⟩ (by walk_at "keep")
      · rw [show h.askCame l = ({ h with won := true, top := some h.num }, [⟨1, .crown, h.num, 0, 0⟩]) by unfold Hnd.askCame; rw [if_neg q1, if_neg q2, if_neg (by rw [q3]; exact Bool.false_ne_true)]]
        repeat walk_at "s"
        exact Gives.mk [_] (by walk_at "fr") upd_same (.cons (by walk_at "l") .nil) ⟨_, by walk_at "o", by walk_at "o"⟩ (by walk_at "keep")
theorem m_crown (hK : g.K = heap g.w.params) (H : HandAt g.w.params 101 σ x dx h) {a : Addr} {l : Ltr} (T : LtrAt σ a l) :
    Fn g 2 (.ref 70) [.ref x, .ref a] σ (Gives g.w.params 101 σ x dx (h.crownCame l).1 (h.crownCame l).2) NoE := by
  obtain ⟨k, hx, hd⟩ := H
  obtain ⟨kl, hl⟩ := T
  have hne := inst_ne hx hd
  have hla := tup_ne hl hd
  refine' fn_body [(Str.ofString "self", .ref x), (Str.ofString "letter", .ref a)] ?k6 ?k7 ?k9 ?kB ?c5 ?c2 ?c3 ?c4 ?_
  walk_at "enter"
  intro c m hg G hsc hcl hin hm
  have m1 : m (Str.ofString "self") = some (.ref x) := by rw [hm]; rfl
  have m2 : m (Str.ofString "letter") = some (.ref a) := by rw [hm]; rfl
  clear hm
  subst hg
  show W c (execs (_ :: _) c.env) _ _ _ _
  repeat walk_at "s"
  refine br_beq (fun q1 => ?_) fun q1 => ?_
  · rw [show h.crownCame l = (h, []) by unfold Hnd.crownCame; rw [if_pos q1]]
    repeat walk_at "s"
    exact Gives.mk [] (by walk_at "fr") upd_same .nil ⟨k, by walk_at "o", by walk_at "o"⟩ (by walk_at "keep")
  · rw [show h.crownCame l = ({ h with top := some l.num }, [l]) by unfold Hnd.crownCame; rw [if_neg q1]]
    repeat walk_at "s"
    exact Gives.mk [_] (by walk_at "fr") upd_same (.cons ⟨kl, by walk_at "o"⟩ .nil) ⟨_, by walk_at "o", by walk_at "o"⟩ (by walk_at "keep")
theorem m_answer (hK : g.K = heap g.w.params) (H : HandAt g.w.params 101 σ x dx h) {a : Addr} {l : Ltr} (T : LtrAt σ a l) (aw : h.stage ≠ none) :
    Fn g 2 (.ref 63) [.ref x, .ref a] σ (Gives g.w.params 101 σ x dx (h.answerCame l).1 (h.answerCame l).2) NoE := by
  obtain ⟨k, hx, hd⟩ := H
  obtain ⟨kl, hl⟩ := T
  have hne := inst_ne hx hd
  have hla := tup_ne hl hd
  refine' fn_body [(Str.ofString "self", .ref x), (Str.ofString "letter", .ref a)] ?k6 ?k7 ?k9 ?kB ?c5 ?c2 ?c3 ?c4 ?_
  walk_at "enter"
  intro c m hg G hsc hcl hin hm
  have m1 : m (Str.ofString "self") = some (.ref x) := by rw [hm]; rfl
  have m2 : m (Str.ofString "letter") = some (.ref a) := by rw [hm]; rfl
  clear hm
  subst hg
  show W c (execs (_ :: _) c.env) _ _ _ _
  repeat walk_at "s"
  refine br_bne (fun q1 => ?_) fun q1 => ?_
  · rw [show h.answerCame l = (h, [l]) by unfold Hnd.answerCame; rw [if_pos q1]]
    repeat walk_at "s"
    exact Gives.mk [_] (by walk_at "fr") upd_same (.cons ⟨kl, by walk_at "o"⟩ .nil) ⟨k, by walk_at "o", by walk_at "o"⟩ (by walk_at "keep")
  · cases hs : h.stage with
    | none => exact absurd hs aw
    | some s =>
      repeat walk_at "s"
      refine br_bne (fun q2 => ?_) fun q2 => ?_
      · rw [show h.answerCame l = (h, []) by unfold Hnd.answerCame; rw [if_neg (fun z => z q1), hs]; exact if_pos (fun e => q2 (by rw [e]))]
        repeat walk_at "s"
        exact Gives.mk [] (by walk_at "fr") upd_same .nil ⟨k, by walk_at "o", by walk_at "o"⟩ (by walk_at "keep")
      · have q2' : l.stage = s := by omega
        repeat walk_at "s"
        refine set_had (h.had + 1) G (by walk_at "FO") (by walk_at "o") (by walk_at "o") rfl fun k' => ?_
        repeat walk_at "s"
        refine br_bne (fun q3 => ?_) fun q3 => ?_
        · rw [show h.answerCame l = ({ h with had := h.had + 1 }, []) by unfold Hnd.answerCame; rw [if_neg (fun z => z q1), hs]; exact (if_neg (fun z => z q2')).trans (if_pos (.inl (by dsimp only at q3; omega)))]
          repeat walk_at "s"
          exact Gives.mk [] (by walk_at "fr") upd_same .nil ⟨_, by walk_at "o", by walk_at "o"⟩ (by walk_at "keep")
        · repeat walk_at "s"
          refine br_any (fun q4 => ?_) fun q4 => ?_
          · rw [show h.answerCame l = ({ h with had := h.had + 1 }, []) by unfold Hnd.answerCame; rw [if_neg (fun z => z q1), hs]; exact (if_neg (fun z => z q2')).trans (if_pos (.inr q4))]
            repeat walk_at "s"
            exact Gives.mk [] (by walk_at "fr") upd_same .nil ⟨_, by walk_at "o", by walk_at "o"⟩ (by walk_at "keep")
          · have q5 : ¬ (h.had + 1 ≠ 2 ∨ h.lost = true) := by
              rintro (z | z)
              · dsimp only at q3; omega
              · dsimp only at q4; rw [q4] at z; cases z
            rw [show h.answerCame l = ({ h with stage := some (s + 1), far := h.far + h.far, had := 0 }, [⟨1, .ask, h.num, s + 1, h.far + h.far⟩, ⟨-1, .ask, h.num, s + 1, h.far + h.far⟩]) by unfold Hnd.answerCame; rw [if_neg (fun z => z q1), hs]; exact (if_neg (fun z => z q2')).trans (if_neg q5)]
            repeat walk_at "s"
            refine set_stage (s + 1) G (by walk_at "FO") (by walk_at "o") (by walk_at "o") rfl fun k1 => ?_
            repeat walk_at "s"
            refine set_far (h.far + h.far) G (by walk_at "FO") (by walk_at "o") (by walk_at "o") rfl fun k2 => ?_
            repeat walk_at "s"
            refine set_had 0 G (by walk_at "FO") (by walk_at "o") (by walk_at "o") rfl fun k3 => ?_
            repeat walk_at "s"
            refine w_fn G (Nat.le_refl _) (m_asks (h := { h with stage := some (s + 1), far := h.far + h.far, had := 0 }) hK ⟨k3, by walk_at "o", by walk_at "o"⟩ rfl) (fun v σ' q => ?_) fun _ _ q => q.elim
            obtain ⟨la, as, kk, rfl, h1, h2, h3, h4, h5⟩ := q
            exact ⟨la, as, kk, rfl, by walk_at "fr", h2, h3, h4, fun a o e n => h5 a o (by rw [upd_ne n, upd_ne n, upd_ne n, upd_ne n]; exact e) n⟩
end
section
variable {g : Pg} {σ : Store} {x dx : Addr} {h : Hnd}
theorem m_take (hK : g.K = heap g.w.params) (H : HandAt g.w.params 101 σ x dx h) {a : Addr} {l : Ltr} (T : LtrAt σ a l) :
    Fn g 3 (.ref 49) [.ref x, .ref a] σ (Gives g.w.params 101 σ x dx (h.take l).1 (h.take l).2) NoE := by
  have H0 := H
  obtain ⟨k, hx, hd⟩ := H
  obtain ⟨kl, hl⟩ := T
  have hne := inst_ne hx hd
  have hla := tup_ne hl hd
  refine' fn_body [(Str.ofString "self", .ref x), (Str.ofString "letter", .ref a)] ?k6 ?k7 ?k9 ?kB ?c5 ?c2 ?c3 ?c4 ?_
  walk_at "enter"
  intro c m hg G hsc hcl hin hm
  have m1 : m (Str.ofString "self") = some (.ref x) := by rw [hm]; rfl
  have m2 : m (Str.ofString "letter") = some (.ref a) := by rw [hm]; rfl
  clear hm
  subst hg
  show W c (execs (_ :: _) c.env) _ _ _ _
  repeat walk_at "s"
  refine w_fn G (Nat.le_refl _) (m_wake hK H0) (fun v σ1 q => ?_) fun _ _ q => q.elim
  have G1 := q
  obtain ⟨la, as, kk, rfl, h1, h2, h3, h4, h5⟩ := q
  have hl1 : σ1 a = some (tupO (ltrV l kl)) := h5 _ _ hl hla
  obtain ⟨k1, hx1, hd1⟩ := h4
  have hz : h.wake.2.length + (h.wake.1.came l).2.length ≤ 100 := by have := wake_len h; have := came_len h.wake.1 l; omega
  unfold Hnd.take
  repeat walk_at "s"
  unfold Hnd.came at hz ⊢
  cases hw : l.word with
  | ask =>
    rw [hw] at hz
    refine br_isT rfl ?_
    repeat walk_at "s"
    refine w_fn G (Nat.le_refl _) (m_ask hK ⟨k1, hx1, hd1⟩ ⟨kl, hl1⟩) (fun v σ2 q => ?_) fun _ _ q => q.elim
    have G2 := q
    obtain ⟨la2, _, _, rfl, _⟩ := q
    exact give_add G1 G2 hz fun _ _ q => q
  | answer =>
    rw [hw] at hz
    refine br_isF rfl ?_
    repeat walk_at "s"
    refine br_isT (by rw [hw]; rfl) ?_
    repeat walk_at "s"
    refine w_fn G (Nat.le_refl _) (m_answer hK ⟨k1, hx1, hd1⟩ ⟨kl, hl1⟩ (wake_stage h)) (fun v σ2 q => ?_) fun _ _ q => q.elim
    have G2 := q
    obtain ⟨la2, _, _, rfl, _⟩ := q
    exact give_add G1 G2 hz fun _ _ q => q
  | crown =>
    rw [hw] at hz
    refine br_isF rfl ?_
    repeat walk_at "s"
    refine br_isF (by rw [hw]; rfl) ?_
    repeat walk_at "s"
    refine w_fn G (Nat.le_refl _) (m_crown hK ⟨k1, hx1, hd1⟩ ⟨kl, hl1⟩) (fun v σ2 q => ?_) fun _ _ q => q.elim
    have G2 := q
    obtain ⟨la2, _, _, rfl, _⟩ := q
    exact give_add G1 G2 hz fun _ _ q => q
end
section
variable {g : Pg} {σ : Store} {x dx : Addr} {h : Hnd}
theorem m_is_awake (hK : g.K = heap g.w.params) (H : HandAt g.w.params 101 σ x dx h) : Fn g 1 (.ref 77) [.ref x] σ (fun v σ' => v = .bool h.stage.isSome ∧ σ' = σ) NoE := by
  obtain ⟨k, hx, hd⟩ := H
  have hne := inst_ne hx hd
  refine' fn_body [(Str.ofString "self", .ref x)] ?k6 ?k7 ?k9 ?kB ?c5 ?c2 ?c3 ?c4 ?_
  walk_at "enter"
  intro c m hg G hsc hcl hin hm
  have m1 : m (Str.ofString "self") = some (.ref x) := by rw [hm]; rfl
  clear hm
  subst hg
  show W c (execs (_ :: _) c.env) _ _ _ _
  cases hs : h.stage with
  | none =>
    repeat walk_at "s"
    exact ⟨rfl, rfl⟩
  | some s =>
    repeat walk_at "s"
    exact ⟨rfl, rfl⟩
end
section
variable {g : Pg} {σ : Store} {x dx : Addr} {h : Hnd}
theorem m_is_first (hK : g.K = heap g.w.params) (H : HandAt g.w.params 101 σ x dx h) : Fn g 1 (.ref 84) [.ref x] σ (fun v σ' => v = .bool h.won ∧ σ' = σ) NoE := by
  obtain ⟨k, hx, hd⟩ := H
  have hne := inst_ne hx hd
  refine' fn_body [(Str.ofString "self", .ref x)] ?k6 ?k7 ?k9 ?kB ?c5 ?c2 ?c3 ?c4 ?_
  walk_at "enter"
  intro c m hg G hsc hcl hin hm
  have m1 : m (Str.ofString "self") = some (.ref x) := by rw [hm]; rfl
  clear hm
  subst hg
  show W c (execs (_ :: _) c.env) _ _ _ _
  repeat walk_at "s"
  exact ⟨rfl, rfl⟩
end
section
variable {g : Pg} {σ : Store} {x dx : Addr} {h : Hnd}
theorem m_stage (hK : g.K = heap g.w.params) (H : HandAt g.w.params 101 σ x dx h) : Fn g 1 (.ref 91) [.ref x] σ (fun v σ' => (∃ t, v = optV h.stage t) ∧ σ' = σ) NoE := by
  obtain ⟨k, hx, hd⟩ := H
  have hne := inst_ne hx hd
  refine' fn_body [(Str.ofString "self", .ref x)] ?k6 ?k7 ?k9 ?kB ?c5 ?c2 ?c3 ?c4 ?_
  walk_at "enter"
  intro c m hg G hsc hcl hin hm
  have m1 : m (Str.ofString "self") = some (.ref x) := by rw [hm]; rfl
  clear hm
  subst hg
  show W c (execs (_ :: _) c.env) _ _ _ _
  cases hs : h.stage with
  | none =>
    repeat walk_at "s"
    exact ⟨⟨0, rfl⟩, rfl⟩
  | some s =>
    repeat walk_at "s"
    exact ⟨⟨_, rfl⟩, rfl⟩
end
section
variable {g : Pg} {σ : Store} {x dx : Addr} {h : Hnd}
theorem m_knows (hK : g.K = heap g.w.params) (H : HandAt g.w.params 101 σ x dx h) : Fn g 1 (.ref 98) [.ref x] σ (fun v σ' => (∃ t, v = optI h.top t) ∧ σ' = σ) NoE := by
  obtain ⟨k, hx, hd⟩ := H
  have hne := inst_ne hx hd
  refine' fn_body [(Str.ofString "self", .ref x)] ?k6 ?k7 ?k9 ?kB ?c5 ?c2 ?c3 ?c4 ?_
  walk_at "enter"
  intro c m hg G hsc hcl hin hm
  have m1 : m (Str.ofString "self") = some (.ref x) := by rw [hm]; rfl
  clear hm
  subst hg
  show W c (execs (_ :: _) c.env) _ _ _ _
  cases hs : h.top with
  | none =>
    repeat walk_at "s"
    exact ⟨⟨0, rfl⟩, rfl⟩
  | some s =>
    repeat walk_at "s"
    exact ⟨⟨_, rfl⟩, rfl⟩
end
section
variable {g : Pg} {σ : Store}
theorem hand_init (hK : g.K = heap g.w.params) {x dx : Addr} {a : Int} {t : Tok} (hx : σ x = some (instObj 101 dx)) (hd : σ dx = some (dictOf [] 0)) :
    Fn g 1 (.ref 28) [.ref x, .int a t] σ (fun v σ' => v = .none ∧ HandAt g.w.params 101 σ' x dx { num := a } ∧ Keep (· = dx) σ σ') NoE := by
  have hne := inst_ne hx hd
  refine' fn_body [(Str.ofString "self", .ref x), (Str.ofString "number", .int a t)] ?k6 ?k7 ?k9 ?kB ?c5 ?c2 ?c3 ?c4 ?_
  walk_at "enter"
  intro c m hg G hsc hcl hin hm
  have m1 : m (Str.ofString "self") = some (.ref x) := by rw [hm]; rfl
  have m2 : m (Str.ofString "number") = some (.int a t) := by rw [hm]; rfl
  clear hm
  subst hg
  show W c (execs (_ :: _) c.env) _ _ _ _
  repeat walk_at "s"
  rename_i t0 t1 ta t2 tb t3 t4 t5 t6
  exact ⟨rfl, ⟨fun i => [t0, t1, t2, t3, t4, t5, t6, t, 0, ta, tb, 0].getD i 0, by walk_at "o", upd_same⟩, by walk_at "keep"⟩
theorem mk_hand (hK : g.K = heap g.w.params) {a : Int} {t : Tok} :
    Fn g 2 (.ref 101) [.int a t] σ (fun v σ' => ∃ x dx, v = .ref x ∧ σ x = none ∧ σ dx = none ∧ HandAt g.w.params 101 σ' x dx { num := a } ∧ Sub σ σ') NoE := by
  refine fn_make (C := 101) (fI := 28) (by rw [hK]; k_is) (by rw [hK]; k_is) (by rw [hK]; k_is) fun x dx hx hdx hne => ?_
  refine (hand_init hK upd_same (look_off (Ne.symm hne) upd_same)).mono (fun v σ' q => ?_) fun _ _ q => q
  obtain ⟨rfl, H, K⟩ := q
  refine ⟨rfl, x, dx, rfl, hx, hdx, H, fun b o e => K b o ?_ ?_⟩
  · rw [upd_ne (new_ne e hx), upd_ne (new_ne e hdx)]; exact e
  · exact new_ne e hdx
end
section
variable {g : Pg} {σ : Store} {s : LSt} {d ld lp : Addr} {k : Nat → Tok}
/-- letters, in a list that was made -/
def Lets (D : Addr → Prop) (σ : Store) (ls : List Ltr) (v : Value) (σ' : Store) : Prop := ∃ la as kk, v = .ref la ∧ σ la = none ∧ σ' la = some (lstO (as.map .ref) kk) ∧ All2 (LtrAt σ') as ls ∧ Keep D σ σ'
theorem Sub.no {σ τ : Store} (s : Sub σ τ) {a : Addr} (h : τ a = none) : σ a = none := by
  cases e : σ a with
  | none => rfl
  | some o => rw [s _ _ e] at h; cases h
theorem asks_ok (hK : g.K = heap g.w.params) (hd : DicAt g σ d (stD s ld lp k)) (hs : s.stage ≤ 100) : Fn g 1 (.ref 147) [.ref d] σ (fun v σ' => ∃ la as kk, v = .ref la ∧ σ la = none ∧ σ' la = some (lstO (as.map .ref) kk) ∧ All2 (LtrAt σ') as s.asks ∧ Sub σ σ') NoE := by
  refine' fn_body [(Str.ofString "_law_state", .ref d)] ?k6 ?k7 ?k9 ?kB ?c5 ?c2 ?c3 ?c4 ?_
  walk_at "enter"
  intro c m hg G hsc hcl hin hm
  have m1 : m (Str.ofString "_law_state") = some (.ref d) := by rw [hm]; rfl
  clear hm
  subst hg
  show W c (execs (_ :: _) c.env) _ _ _ _
  repeat walk_at "s"
  rename_i rg r1 r2 r3 hrg
  have hd1 : DicAt c.g (upd σ rg (rngO 0 (s.stage : Int) r1 r2 r3)) d (stD s ld lp k) := DicAt.newer hrg hd
  have s1 := sub_upd (o := rngO 0 (s.stage : Int) r1 r2 r3) hrg
  refine turns_range G (kind_is hsc (by decide +kernel)) (nocell hcl) (fun j m' σ' => σ' = upd σ rg (rngO 0 (s.stage : Int) r1 r2 r3) ∧ m' (Str.ofString "_law_state") = some (.ref d) ∧ ∃ x t, m' (Str.ofString "_law_steps") = some (.int x t) ∧ x = ((2 ^ j : Nat) : Int)) upd_same (by decide) (by decide) (by omega) (by omega) ?_ ?_ ?_
  · exact ⟨rfl, by walk_at "m", 1, _, by walk_at "m", rfl⟩
  · rintro j tj m' σ' hj ⟨rfl, n1, x1, t1, n2, e1⟩
    repeat walk_at "s"
    exact ⟨rfl, by walk_at "m", _, _, by walk_at "m", by rw [e1, Nat.pow_succ, Int.natCast_mul]; rfl⟩
  · rintro m' σ' ⟨rfl, n1, x1, t1, n2, e1⟩
    rw [Int.sub_zero, Int.toNat_natCast] at e1
    subst e1
    generalize upd σ rg (rngO 0 (s.stage : Int) r1 r2 r3) = σ1 at hd1 s1
    repeat walk_at "s"
    rename_i v14 v13 v12 v11 b1 hb1 v8 v7 v6 v5 v4 b2 hb2 la hla
    exact ⟨la, [b1, b2], 0, rfl, s1.no (by walk_at "fr"), upd_same, .cons (by walk_at "l") (.cons (by walk_at "l") .nil), ((s1.trans (sub_upd hb1)).trans (sub_upd hb2)).trans (sub_upd hla)⟩
theorem woken_ok (hK : g.K = heap g.w.params) (hd : DicAt g σ d (stD s ld lp k)) (hs : s.stage ≤ 100) : Fn g 2 (.ref 154) [.ref d] σ (fun v σ' => (∃ k', DicAt g σ' d (stD s.woken.1 ld lp k')) ∧ Lets (· = d) σ s.woken.2 v σ') NoE := by
  refine' fn_body [(Str.ofString "_law_state", .ref d)] ?k6 ?k7 ?k9 ?kB ?c5 ?c2 ?c3 ?c4 ?_
  walk_at "enter"
  intro c m hg G hsc hcl hin hm
  have m1 : m (Str.ofString "_law_state") = some (.ref d) := by rw [hm]; rfl
  clear hm
  subst hg
  show W c (execs (_ :: _) c.env) _ _ _ _
  repeat walk_at "s"
  refine br_any (fun q1 => ?_) fun q1 => ?_
  · repeat walk_at "s"
    rename_i a ha
    have e : s.woken = (s, []) := by unfold LSt.woken; rw [q1]; rfl
    rw [e]
    exact ⟨⟨k, DicAt.newer ha hd⟩, a, [], 0, rfl, ha, upd_same, .nil, Keep.of_sub (sub_upd ha)⟩
  · repeat walk_at "s"
    rename_i o' hd'
    have e : s.woken = ({ s with awake := true }, s.asks) := by unfold LSt.woken; rw [q1]; rfl
    rw [e]
    refine w_fn G (by decide) (asks_ok hK hd' hs) (fun v σ1 q => ?_) fun _ _ q => q.elim
    obtain ⟨la, as, kk, rfl, hn, hl, al, sb⟩ := q
    exact ⟨⟨_, hd'.sub sb⟩, la, as, kk, rfl, upd_none hn, hl, al, (show Keep (· = d) σ (upd σ d o') from Keep.refl.upd (.inl rfl)).trans (Keep.of_sub sb)⟩
end
section
variable {g : Pg} {σ σ₁ σ₂ : Store} {s : LSt} {d ld lp : Addr} {k : Nat → Tok}
theorem dic_tup {kvs : List (Str × Value)} {t : Addr} {vs : List Value} (hd : DicAt g σ d kvs) (h : σ t = some (tupO vs)) : t ≠ d := fun q => by
  obtain ⟨o, e, _, _, ex, _⟩ := hd
  rw [q, e] at h; cases h
  have := ex.1; injection this with this; exact absurd this (by decide)
theorem dic_lst {kvs : List (Str × Value)} {t : Addr} {vs : List Value} {n : Nat} (hd : DicAt g σ d kvs) (h : σ t = some (lstO vs n)) : t ≠ d := fun q => by
  obtain ⟨o, e, _, _, ex, _⟩ := hd
  rw [q, e] at h; cases h
  have := ex.1; injection this with this; exact absurd this (by decide)
theorem woken_len (s : LSt) : s.woken.2.length ≤ 2 := by
  unfold LSt.woken
  split
  · exact Nat.zero_le _
  · exact Nat.le_refl _
abbrev DP (d lp : Addr) : Addr → Prop := fun b => b = d ∨ b = lp
theorem ltrs_keep {kvs : List (Str × Value)} {vs : List Value} {n : Nat} {as : List Addr} {ls : List Ltr} (hd : DicAt g σ₁ d kvs) (hp : σ₁ lp = some (lstO vs n)) (K : Keep (DP d lp) σ₁ σ₂) (h : All2 (LtrAt σ₁) as ls) : All2 (LtrAt σ₂) as ls :=
  h.mono fun _ _ r => (let ⟨kk, e⟩ := r; r.keep K fun q => q.elim (dic_tup hd e) (tup_lst e hp))
theorem lets_add {D : Addr → Prop} {c : Cx} {m : Loc} {X Q : Value → Loc → Store → Prop} {la lb : Addr} {as bs : List Addr} {k1 k2 : Nat} {f ls : List Ltr} (K : Keep D σ σ₂) (hD : ∀ a, D a → σ₂ a ≠ none) (h1 : σ₂ la = some (lstO (as.map .ref) k1)) (a1 : All2 (LtrAt σ₂) as f) (h2 : σ₂ lb = some (lstO (bs.map .ref) k2)) (a2 : All2 (LtrAt σ₂) bs ls)
    (hz : f.length + ls.length ≤ 100) (q : ∀ v σ3, Sub σ₂ σ3 → Lets D σ (f ++ ls) v σ3 → Q v m σ3) : W c (binaryOp .Add (.ref la) (.ref lb)) m σ₂ Q X := by
  refine add_lists h1 h2 ?_ fun a ha => q _ _ (sub_upd ha) ⟨a, as ++ bs, 0, rfl, K.none ha (fun z => hD a z ha), by rw [List.map_append]; exact upd_same, ((a1.append a2).mono fun _ _ r => r.sub (sub_upd ha)), K.upd (.inr ha)⟩
  rw [List.length_map, List.length_map, a1.len, a2.len, sizeLine_eq]; omega
theorem fin {c : Cx} {m : Loc} {X Q : Value → Loc → Store → Prop} {σ σ1 σ3 : Store} {kvs : List (Str × Value)} {pvs : List Value} {np kk kb kp' : Nat} {la lb : Addr} {as bs ps' : List Addr} {f ls pl' : List Ltr} {s2 : LSt} {k2 : Nat → Tok} (K1 : Keep (DP d lp) σ σ1) (hd1 : DicAt g σ1 d kvs) (hp1 : σ1 lp = some (lstO pvs np)) (hla1 : σ1 la = some (lstO (as.map .ref) kk)) (nla : la ≠ d) (nlp : la ≠ lp) (al : All2 (LtrAt σ1) as f) (hz1 : f.length ≤ 2)
    (Kd : Keep (DP d lp) σ1 σ3) (hp3 : σ3 lp = some (lstO (ps'.map .ref) kp')) (ap3 : All2 (LtrAt σ3) ps' pl') (e3 : DicAt g σ3 d (stD s2 ld lp k2)) (hb : σ3 lb = some (lstO (bs.map .ref) kb)) (ab : All2 (LtrAt σ3) bs ls) (hz2 : ls.length ≤ 2)
    (q : ∀ v σ4, (∃ k', DicAt g σ4 d (stD s2 ld lp k')) → (∃ ps' kp', σ4 lp = some (lstO (ps'.map .ref) kp') ∧ All2 (LtrAt σ4) ps' pl') → Lets (DP d lp) σ (f ++ ls) v σ4 → Q v m σ4) : W c (binaryOp .Add (.ref la) (.ref lb)) m σ3 Q X := by
  refine lets_add (D := DP d lp) (K1.trans Kd) (fun a ha => ?_) (Kd _ _ hla1 fun z => z.elim nla nlp) (ltrs_keep hd1 hp1 Kd al) hb ab (by omega) fun v σ4 sb L => q v σ4 ⟨_, e3.sub sb⟩ ⟨ps', kp', sb _ _ hp3, ap3.mono fun _ _ r => r.sub sb⟩ L
  rcases ha with rfl | rfl
  · obtain ⟨o, e, _⟩ := e3; rw [e]; exact fun z => nomatch z
  · rw [hp3]; exact fun z => nomatch z
set_option hygiene false in
local macro_rules | `(tactic| walk_at "kd") => `(tactic| first | exact Keep.refl | ((refine Keep.upd ?_ (.inl (.inl rfl))); walk_at "kd") | ((refine Keep.upd ?_ (.inl (.inr rfl))); walk_at "kd") | ((refine Keep.upd ?_ (.inr (by assumption))); walk_at "kd"))
theorem taken_ok (hK : g.K = heap g.w.params) (hd : DicAt g σ d (stD s ld lp k)) (hs : s.stage ≤ 100) {a : Addr} {l : Ltr} (hl : LtrAt σ a l) (hls : l.stage ≤ 99) (h1 : l.word = .ask → 1 ≤ l.steps) {ps : List Addr} {pl : List Ltr} {kp : Nat} (hp : σ lp = some (lstO (ps.map .ref) kp)) (ap : All2 (LtrAt σ) ps pl) (hpz : pl.length ≤ 1000) :
    Fn g 3 (.ref 161) [.ref d, .ref a] σ (fun v σ' => (∃ k', DicAt g σ' d (stD (s.taken l).1 ld lp k')) ∧ (∃ ps' kp', σ' lp = some (lstO (ps'.map .ref) kp') ∧ All2 (LtrAt σ') ps' (pl ++ (s.taken l).2.1)) ∧ Lets (fun b => b = d ∨ b = lp) σ (s.taken l).2.2 v σ') NoE := by
  refine' fn_body [(Str.ofString "_law_state", .ref d), (Str.ofString "_law_letter_here", .ref a)] ?k6 ?k7 ?k9 ?kB ?c5 ?c2 ?c3 ?c4 ?_
  walk_at "enter"
  intro c m hg G hsc hcl hin hm
  have m1 : m (Str.ofString "_law_state") = some (.ref d) := by rw [hm]; rfl
  have m2 : m (Str.ofString "_law_letter_here") = some (.ref a) := by rw [hm]; rfl
  clear hm
  subst hg
  show W c (execs (_ :: _) c.env) _ _ _ _
  repeat walk_at "s"
  refine w_fn G (by decide) (woken_ok hK hd hs) (fun v σ1 q => ?_) fun _ _ q => q.elim
  obtain ⟨⟨k1, hd1⟩, la, as, kk, rfl, hla, hla1, al, K1⟩ := q
  obtain ⟨kl, el⟩ := id hl
  have nad := dic_tup hd el
  have npd := dic_lst hd hp
  have el1 := K1 _ _ el nad
  have hp1 := K1 _ _ hp npd
  have ap1 : All2 (LtrAt σ1) ps pl := ap.mono fun _ _ r => (let ⟨kk, e⟩ := r; r.keep K1 (dic_tup hd e))
  have K1' : Keep (DP d lp) σ σ1 := K1.wide fun _ q => .inl q
  have nlp : la ≠ lp := (new_ne hp hla).symm
  have nla := dic_lst hd1 hla1
  have hz1 : s.woken.2.length ≤ 2 := woken_len s
  show W c _ _ _ (fun v m' σ' => _) _
  unfold LSt.taken
  generalize hs1 : s.woken.1 = s1 at hd1
  have hst1 : s1.stage ≤ 100 := by rw [← hs1, (woken_facts s).2]; exact hs
  generalize s.woken.2 = f at al hz1
  clear hs1
  repeat walk_at "u"
  refine x_unpack G rfl rfl ?_
  repeat walk_at "u"
  refine ⟨a, _, rfl, el1, rfl, rfl, ?_⟩
  show W c (assignInOrder (_ :: _ :: _ :: _ :: _ :: []) (_ :: _ :: _ :: _ :: _ :: [])) _ _ _ _
  refine w_asn (w_asn_name ?_)
  repeat walk_at "u"
  refine w_asn (w_asn_name ?_)
  repeat walk_at "u"
  refine w_asn (w_asn_name ?_)
  repeat walk_at "u"
  refine w_asn (w_asn_name ?_)
  repeat walk_at "u"
  refine w_asn (w_asn_name ?_)
  repeat walk_at "u"
  refine w_asn_nil ?_
  repeat walk_at "u"
  unfold LSt.got
  cases hw : l.word with
  | ask =>
    dsimp only
    by_cases q1 : l.num = s1.num ∧ s1.first = false
    · rw [if_pos q1]
      walk_at "s"
      repeat walk_at "u"
      refine br_isT rfl ?_
      repeat walk_at "u"
      refine br_isT (beq_iff_eq.mpr q1.1) ?_
      repeat walk_at "u"
      refine br_isF q1.2 ?_
      repeat walk_at "u"
      rename_i o1 e1 t13 o2 e2 t10 o3 e3 t7 t6 t5 t4 b hb lb hlb
      have Kd : Keep (DP d lp) σ1 (upd (upd (upd (upd (upd σ1 d o1) d o2) d o3) b (tupO [Value.int 1 t7, Value.str (Str.ofString "crown") t6, Value.int l.num (kl 2), Value.int 0 t5, Value.int 0 t4])) lb (lstO [Value.ref b] 0)) := by walk_at "kd"
      exact fin (bs := [b]) (ps' := ps) K1' hd1 hp1 hla1 nla nlp al hz1 Kd (by walk_at "o") (by rw [List.append_nil]; exact ltrs_keep hd1 hp1 Kd ap1) (DicAt.newer hlb (DicAt.newer hb e3)) upd_same (.cons (by walk_at "l") .nil) (Nat.le_of_ble_eq_true rfl) fun v σ4 a b c => ⟨a, b, c⟩
    · rw [if_neg q1]
      walk_at "s"
      repeat walk_at "u"
      refine br_isT rfl ?_
      repeat walk_at "u"
      by_cases q0 : l.num = s1.num
      · have qf : s1.first = true := by
          cases hf : s1.first with
          | true => rfl
          | false => exact absurd ⟨q0, hf⟩ q1
        have q2 : ¬ s1.num < l.num := by omega
        rw [if_neg q2]
        refine br_isT (beq_iff_eq.mpr q0) ?_
        repeat walk_at "u"
        refine br_isT qf ?_
        repeat walk_at "u"
        walk_at "s"
        repeat walk_at "u"
        refine br_isT rfl ?_
        repeat walk_at "u"
        refine br_isF (decide_eq_false q2) ?_
        repeat walk_at "u"
        walk_at "s"
        repeat walk_at "u"
        refine br_isF rfl ?_
        repeat walk_at "u"
        walk_at "s"
        repeat walk_at "u"
        refine br_isF rfl ?_
        repeat walk_at "u"
        exact ⟨⟨k1, hd1⟩, ⟨ps, kp, hp1, by rw [List.append_nil]; exact ap1⟩, la, as, kk, rfl, hla, hla1, by rw [List.append_nil]; exact al, K1'⟩
      · refine br_isF (beq_eq_false_iff_ne.mpr q0) ?_
        repeat walk_at "u"
        walk_at "s"
        repeat walk_at "u"
        refine br_isT rfl ?_
        repeat walk_at "u"
        by_cases q2 : s1.num < l.num
        · rw [if_pos q2]
          refine br_isT (decide_eq_true q2) ?_
          repeat walk_at "u"
          refine i_max2 G fun tmx => ?_
          repeat walk_at "u"
          have h1' := h1 hw
          by_cases q3 : l.steps = 1
          · rw [if_pos q3]
            walk_at "s"
            repeat walk_at "u"
            refine br_isT (beq_iff_eq.mpr (by omega)) ?_
            repeat walk_at "u"
            rename_i o1 e1 t12 t11 o2 e2 t8 t7 t6 t5 t4 b hb lb hlb
            have Kd : Keep (DP d lp) σ1 (upd (upd (upd (upd σ1 d o1) d o2) b (tupO [Value.int (0 - l.way) t6, Value.str (Str.ofString "answer") t5, Value.int l.num (kl 2), Value.int (l.stage : Int) (kl 3), Value.int 0 t4])) lb (lstO [Value.ref b] 0)) := by walk_at "kd"
            exact fin (ls := [⟨-l.way, .answer, l.num, l.stage, 0⟩]) (bs := [b]) (ps' := ps) K1' hd1 hp1 hla1 nla nlp al hz1 Kd (by walk_at "o") (by rw [List.append_nil]; exact ltrs_keep hd1 hp1 Kd ap1) (DicAt.newer hlb (DicAt.newer hb e2)) upd_same (.cons (ltr_of (look_new hlb upd_same) (by show 0 - l.way = -l.way; omega) rfl rfl rfl rfl) .nil) (Nat.le_of_ble_eq_true rfl) fun v σ4 a b c => ⟨a, b, c⟩
          · rw [if_neg q3]
            walk_at "s"
            repeat walk_at "u"
            refine br_isF (beq_eq_false_iff_ne.mpr (by omega)) ?_
            repeat walk_at "u"
            refine i_max2 G fun tmy => ?_
            repeat walk_at "u"
            rename_i o1 e1 t9 t8 o2 e2 t5 t4 t3 o3 e3
            have Kd2 : Keep (DP d lp) σ1 (upd (upd (upd σ1 d o1) d o2) d o3) := by walk_at "kd"
            have hp2 : upd (upd (upd σ1 d o1) d o2) d o3 lp = some (lstO (ps.map .ref) kp) := by walk_at "o"
            have ap2 := ltrs_keep hd1 hp1 Kd2 ap1
            generalize upd (upd (upd σ1 d o1) d o2) d o3 = σ2 at e3 Kd2 hp2 ap2
            clear e1 e2
            have hpz2 : (ps.map Value.ref).length ≤ 1000 := by rw [List.length_map, ap.len]; exact hpz
            by_cases q5 : l.steps < 64 ∧ s1.known ≠ some l.num
            · rw [if_pos q5]
              walk_at "s"
              repeat walk_at "u"
              refine br_isT (decide_eq_true (by omega)) ?_
              repeat walk_at "u"
              refine br_isT (decide_eq_true q5.2) ?_
              repeat walk_at "u"
              rename_i t4 t3 t2 b hb
              have npb := new_ne hp2 hb
              refine w_append (look_new hb hp2) (by rw [sizeLine_eq]; omega) ?_
              have Kd3 : Keep (DP d lp) σ1 (upd (upd σ2 b (tupO [Value.int (0 - l.way) t4, Value.str (Str.ofString "answer") t3, Value.int l.num (kl 2), Value.int (l.stage : Int) (kl 3), Value.int 0 t2])) lp (lstO (ps.map Value.ref ++ [Value.ref b]) (kp + 1))) := (Kd2.upd (.inr hb)).upd (.inl (.inr rfl))
              have e4 : DicAt c.g (upd (upd σ2 b (tupO [Value.int (0 - l.way) t4, Value.str (Str.ofString "answer") t3, Value.int l.num (kl 2), Value.int (l.stage : Int) (kl 3), Value.int 0 t2])) lp (lstO (ps.map Value.ref ++ [Value.ref b]) (kp + 1))) d _ := (DicAt.newer hb e3).off npd.symm
              have hp4 : upd (upd σ2 b (tupO [Value.int (0 - l.way) t4, Value.str (Str.ofString "answer") t3, Value.int l.num (kl 2), Value.int (l.stage : Int) (kl 3), Value.int 0 t2])) lp (lstO (ps.map Value.ref ++ [Value.ref b]) (kp + 1)) lp = some (lstO ((ps ++ [b]).map .ref) (kp + 1)) := by rw [List.map_append]; exact upd_same
              have ap4 : All2 (LtrAt (upd (upd σ2 b (tupO [Value.int (0 - l.way) t4, Value.str (Str.ofString "answer") t3, Value.int l.num (kl 2), Value.int (l.stage : Int) (kl 3), Value.int 0 t2])) lp (lstO (ps.map Value.ref ++ [Value.ref b]) (kp + 1)))) (ps ++ [b]) (pl ++ [⟨-l.way, .answer, l.num, l.stage, 0⟩]) :=
                (ltrs_keep hd1 hp1 Kd3 ap1).append (.cons (ltr_of (look_off npb.symm upd_same) (by show 0 - l.way = -l.way; omega) rfl rfl rfl rfl) .nil)
              generalize upd (upd σ2 b (tupO [Value.int (0 - l.way) t4, Value.str (Str.ofString "answer") t3, Value.int l.num (kl 2), Value.int (l.stage : Int) (kl 3), Value.int 0 t2])) lp (lstO (ps.map Value.ref ++ [Value.ref b]) (kp + 1)) = σ4 at Kd3 e4 hp4 ap4
              repeat walk_at "u"
              rename_i t16 t15 t14 b' hb' lb hlb
              have Kd : Keep (DP d lp) σ1 (upd (upd σ4 b' (tupO [Value.int l.way (kl 0), Value.str (Str.ofString "ask") t16, Value.int l.num (kl 2), Value.int (l.stage : Int) (kl 3), Value.int ((l.steps : Int) - 1) t14])) lb (lstO [Value.ref b'] 0)) := (Kd3.upd (.inr hb')).upd (.inr hlb)
              exact fin (ls := [⟨l.way, .ask, l.num, l.stage, l.steps - 1⟩]) (bs := [b']) (ps' := ps ++ [b]) K1' hd1 hp1 hla1 nla nlp al hz1 Kd (look_new hlb (look_new hb' hp4)) (ap4.mono fun _ _ r => r.sub ((sub_upd hb').trans (sub_upd hlb))) (DicAt.newer hlb (DicAt.newer hb' e4)) upd_same (.cons (ltr_of (look_new hlb upd_same) rfl rfl rfl rfl (by show (l.steps : Int) - 1 = ((l.steps - 1 : Nat) : Int); omega)) .nil) (Nat.le_of_ble_eq_true rfl) fun v σ4 a b c => ⟨a, b, c⟩
            · rw [if_neg q5]
              refine x_if_cut (fun m' σ' => σ' = σ2 ∧ m' (Str.ofString "_law_found") = some (.ref la) ∧ m' (Str.ofString "_law_way") = some (.int l.way (kl 0)) ∧ m' (Str.ofString "_law_number_here") = some (.int l.num (kl 2)) ∧ m' (Str.ofString "_law_stage") = some (.int (l.stage : Int) (kl 3)) ∧ m' (Str.ofString "_law_steps") = some (.int (l.steps : Int) (kl 4))) ?_ ?_
              · repeat walk_at "u"
                refine br_any (fun q6 => ?_) fun q6 => ?_
                · repeat walk_at "u"
                  refine br_isF (decide_eq_false fun z => q5 ⟨by have := of_decide_eq_true q6; omega, z⟩) ?_
                  repeat walk_at "u"
                  exact ⟨rfl, by walk_at "m", by walk_at "m", by walk_at "m", by walk_at "m", by walk_at "m"⟩
                · repeat walk_at "u"
                  exact ⟨rfl, by walk_at "m", by walk_at "m", by walk_at "m", by walk_at "m", by walk_at "m"⟩
              · rintro m' σ' ⟨rfl, n1, n2, n3, n4, n5⟩
                repeat walk_at "u"
                rename_i t6 t5 t4 b hb lb hlb
                have Kd : Keep (DP d lp) σ1 (upd (upd σ' b (tupO [Value.int l.way (kl 0), Value.str (Str.ofString "ask") t6, Value.int l.num (kl 2), Value.int (l.stage : Int) (kl 3), Value.int ((l.steps : Int) - 1) t4])) lb (lstO [Value.ref b] 0)) := (Kd2.upd (.inr hb)).upd (.inr hlb)
                exact fin (ls := [⟨l.way, .ask, l.num, l.stage, l.steps - 1⟩]) (bs := [b]) (ps' := ps) K1' hd1 hp1 hla1 nla nlp al hz1 Kd (look_new hlb (look_new hb hp2)) (by rw [List.append_nil]; exact ltrs_keep hd1 hp1 Kd ap1) (DicAt.newer hlb (DicAt.newer hb e3)) upd_same (.cons (ltr_of (look_new hlb upd_same) rfl rfl rfl rfl (by show (l.steps : Int) - 1 = ((l.steps - 1 : Nat) : Int); omega)) .nil) (Nat.le_of_ble_eq_true rfl) fun v σ4 a b c => ⟨a, b, c⟩
        · rw [if_neg q2]
          refine br_isF (decide_eq_false q2) ?_
          repeat walk_at "u"
          walk_at "s"
          repeat walk_at "u"
          refine br_isF rfl ?_
          repeat walk_at "u"
          walk_at "s"
          repeat walk_at "u"
          refine br_isF rfl ?_
          repeat walk_at "u"
          exact ⟨⟨k1, hd1⟩, ⟨ps, kp, hp1, by rw [List.append_nil]; exact ap1⟩, la, as, kk, rfl, hla, hla1, by rw [List.append_nil]; exact al, K1'⟩
  | answer =>
    dsimp only
    walk_at "s"
    repeat walk_at "u"
    refine br_isF rfl ?_
    repeat walk_at "u"
    walk_at "s"
    repeat walk_at "u"
    refine br_isF rfl ?_
    repeat walk_at "u"
    walk_at "s"
    repeat walk_at "u"
    refine br_isT rfl ?_
    repeat walk_at "u"
    by_cases q1 : l.num = s1.num
    · rw [if_pos q1]
      refine br_isT (beq_iff_eq.mpr q1) ?_
      repeat walk_at "u"
      refine ds_came (a := s1.came + 1) hd1 fun o1 e1 => ?_
      repeat walk_at "u"
      walk_at "s"
      repeat walk_at "u"
      by_cases q2 : s1.came + 1 = 2 ∧ s1.beaten = false
      · rw [if_pos q2]
        refine br_isT (beq_iff_eq.mpr (by show ((s1.came + 1 : Nat) : Int) = 2; omega)) ?_
        repeat walk_at "u"
        refine br_isF q2.2 ?_
        repeat walk_at "u"
        refine ds_came (a := 0) e1 fun o2 e2 => ?_
        repeat walk_at "u"
        refine ds_stage (a := l.stage + 1) e2 fun o3 e3 => ?_
        repeat walk_at "u"
        refine w_fn G (by decide) (asks_ok hK e3 (by show l.stage + 1 ≤ 100; omega)) (fun v σ5 q => ?_) fun _ _ q => q.elim
        obtain ⟨lb, bs, kb, rfl, hlbn, hlb, ab, sb5⟩ := q
        have Kd : Keep (DP d lp) σ1 (upd (upd (upd σ1 d o1) d o2) d o3) := by walk_at "kd"
        have Kd5 : Keep (DP d lp) σ1 σ5 := Kd.trans (Keep.of_sub sb5)
        have hp3 : upd (upd (upd σ1 d o1) d o2) d o3 lp = some (lstO (ps.map .ref) kp) := by walk_at "o"
        repeat walk_at "u"
        exact fin (ps' := ps) K1' hd1 hp1 hla1 nla nlp al hz1 Kd5 (sb5 _ _ hp3) (by rw [List.append_nil]; exact ltrs_keep hd1 hp1 Kd5 ap1) (e3.sub sb5) hlb ab (Nat.le_of_ble_eq_true rfl) fun v σ4 a b c => ⟨a, b, c⟩
      · rw [if_neg q2]
        have Kd : Keep (DP d lp) σ1 (upd σ1 d o1) := by walk_at "kd"
        have hp3 : upd σ1 d o1 lp = some (lstO (ps.map .ref) kp) := by walk_at "o"
        refine br_any (fun q3 => ?_) fun q3 => ?_
        · repeat walk_at "u"
          have q4 : s1.beaten = true := by
            cases hb : s1.beaten with
            | true => rfl
            | false =>
              have q5 : ((s1.came + 1 : Nat) : Int) = 2 := beq_iff_eq.mp q3
              exact absurd ⟨by omega, hb⟩ q2
          refine br_isT q4 ?_
          repeat walk_at "u"
          exact ⟨⟨_, e1⟩, ⟨ps, kp, hp3, by rw [List.append_nil]; exact ltrs_keep hd1 hp1 Kd ap1⟩, la, as, kk, rfl, hla, look_off nla hla1, by rw [List.append_nil]; exact ltrs_keep hd1 hp1 Kd al, K1'.trans Kd⟩
        · repeat walk_at "u"
          exact ⟨⟨_, e1⟩, ⟨ps, kp, hp3, by rw [List.append_nil]; exact ltrs_keep hd1 hp1 Kd ap1⟩, la, as, kk, rfl, hla, look_off nla hla1, by rw [List.append_nil]; exact ltrs_keep hd1 hp1 Kd al, K1'.trans Kd⟩
    · rw [if_neg q1]
      refine br_isF (beq_eq_false_iff_ne.mpr q1) ?_
      repeat walk_at "u"
      walk_at "s"
      repeat walk_at "u"
      refine br_isT rfl ?_
      repeat walk_at "u"
      refine br_isF (beq_eq_false_iff_ne.mpr q1) ?_
      repeat walk_at "u"
      walk_at "s"
      repeat walk_at "u"
      refine br_isF rfl ?_
      repeat walk_at "u"
      rename_i lb hlb
      have Kd : Keep (DP d lp) σ1 (upd σ1 lb (lstO [Value.ref a] 0)) := by walk_at "kd"
      exact fin (bs := [a]) (ps' := ps) K1' hd1 hp1 hla1 nla nlp al hz1 Kd (by walk_at "o") (by rw [List.append_nil]; exact ltrs_keep hd1 hp1 Kd ap1) (DicAt.newer hlb hd1) upd_same (.cons ⟨kl, look_new hlb el1⟩ .nil) (Nat.le_of_ble_eq_true rfl) fun v σ4 a b c => ⟨a, b, c⟩
  | crown =>
    dsimp only
    walk_at "s"
    repeat walk_at "u"
    refine br_isF rfl ?_
    repeat walk_at "u"
    walk_at "s"
    repeat walk_at "u"
    refine br_isF rfl ?_
    repeat walk_at "u"
    walk_at "s"
    repeat walk_at "u"
    refine br_isF rfl ?_
    repeat walk_at "u"
    walk_at "s"
    repeat walk_at "u"
    refine br_isT rfl ?_
    repeat walk_at "u"
    by_cases q1 : l.num = s1.num
    · rw [if_pos q1]
      refine br_isT (beq_iff_eq.mpr q1) ?_
      repeat walk_at "u"
      exact ⟨⟨k1, hd1⟩, ⟨ps, kp, hp1, by rw [List.append_nil]; exact ap1⟩, la, as, kk, rfl, hla, hla1, by rw [List.append_nil]; exact al, K1'⟩
    · rw [if_neg q1]
      refine br_isF (beq_eq_false_iff_ne.mpr q1) ?_
      repeat walk_at "u"
      walk_at "s"
      repeat walk_at "u"
      refine br_isT rfl ?_
      repeat walk_at "u"
      rename_i o1 e1 lb hlb
      have Kd : Keep (DP d lp) σ1 (upd (upd σ1 d o1) lb (lstO [Value.ref a] 0)) := by walk_at "kd"
      exact fin (ls := [l]) (bs := [a]) (ps' := ps) K1' hd1 hp1 hla1 nla nlp al hz1 Kd (by walk_at "o") (by rw [List.append_nil]; exact ltrs_keep hd1 hp1 Kd ap1) (DicAt.newer hlb e1) upd_same (.cons ⟨kl, look_new hlb (look_off nad el1)⟩ .nil) (Nat.le_of_ble_eq_true rfl) fun v σ4 a b c => ⟨a, b, c⟩
end
section
variable {g : Pg} {σ : Store} {s : LSt} {d ld lp : Addr} {k : Nat → Tok}
theorem number_ok (hK : g.K = heap g.w.params) (hd : DicAt g σ d (stD s ld lp k)) (h0 : 0 ≤ s.num) {a : Int} {t : Tok} : Fn g 1 (.ref 168) [.int a t, .ref d] σ (fun v σ' => (∃ x u, v = .int x u) ∧ σ' = σ) NoE := by
  refine' fn_body [(Str.ofString "_law_cell", .int a t), (Str.ofString "_law_state", .ref d)] ?k6 ?k7 ?k9 ?kB ?c5 ?c2 ?c3 ?c4 ?_
  walk_at "enter"
  intro c m hg G hsc hcl hin hm
  have m1 : m (Str.ofString "_law_cell") = some (.int a t) := by rw [hm]; rfl
  have m2 : m (Str.ofString "_law_state") = some (.ref d) := by rw [hm]; rfl
  clear hm
  subst hg
  show W c (execs (_ :: _) c.env) _ _ _ _
  repeat walk_at "u"
  refine x_if_cut (fun m' σ' => σ' = σ ∧ m' (Str.ofString "_law_cell") = some (.int a t) ∧ m' (Str.ofString "_law_state") = some (.ref d) ∧ m' (Str.ofString "_law_own") = some (.int s.num (k 0)) ∧ ∃ x u, m' (Str.ofString "_law_more") = some (.int x u)) ?_ ?_
  · repeat walk_at "u"
    cases hk : s.known with
    | none =>
      dsimp only [optI]
      repeat walk_at "u"
      exact ⟨rfl, by walk_at "m", by walk_at "m", by walk_at "m", _, _, by walk_at "m"⟩
    | some x =>
      dsimp only [optI]
      repeat walk_at "u"
      rw [hk]
      dsimp only [optI]
      refine i_min2 G fun tk => ?_
      repeat walk_at "u"
      exact ⟨rfl, by walk_at "m", by walk_at "m", by walk_at "m", _, _, by walk_at "m"⟩
  · rintro m' σ' ⟨rfl, n1, n2, n3, x, u, n4⟩
    refine x_if_cut (fun m'' σ'' => σ'' = σ' ∧ m'' = m') ?_ ?_
    · repeat walk_at "u"
      repeat' (first | exact ⟨⟨_, _, rfl⟩, rfl⟩ | exact ⟨rfl, rfl⟩ | (refine br_any (fun _ => ?_) (fun _ => ?_)) | walk_at "u")
    · rintro m'' σ'' ⟨rfl, rfl⟩
      refine x_if_cut (fun m₂ σ₂ => σ₂ = σ'' ∧ m₂ = m'') ?_ ?_
      · repeat walk_at "u"
        refine br_dec (fun q1 => ?_) fun q1 => ?_
        · repeat' (first | exact ⟨⟨_, _, rfl⟩, rfl⟩ | exact ⟨rfl, rfl⟩ | (refine br_any (fun _ => ?_) (fun _ => ?_)) | walk_at "u")
        · repeat walk_at "u"
          exact ⟨rfl, rfl⟩
      · rintro m₂ σ₂ ⟨rfl, rfl⟩
        repeat walk_at "u"
        exact ⟨⟨_, _, rfl⟩, rfl⟩
theorem is_due_ok (hK : g.K = heap g.w.params) (hd : DicAt g σ d (stD s ld lp k)) {dvs : List Value} {kd : Nat} (hl : σ ld = some (lstO dvs kd)) (hz : dvs.length ≤ 10) : Fn g 1 (.ref 175) [.ref d] σ (fun v σ' => (∃ b, v = .bool b ∧ (b = true → s.awake = true ∧ s.stage < 6 ∧ dvs ≠ [])) ∧ Sub σ σ') NoE := by
  refine' fn_body [(Str.ofString "_law_state", .ref d)] ?k6 ?k7 ?k9 ?kB ?c5 ?c2 ?c3 ?c4 ?_
  walk_at "enter"
  intro c m hg G hsc hcl hin hm
  have m2 : m (Str.ofString "_law_state") = some (.ref d) := by rw [hm]; rfl
  clear hm
  subst hg
  show W c (execs (_ :: _) c.env) _ _ _ _
  walk_at "s"
  repeat walk_at "u"
  refine br_any (fun q1 => ?_) fun q1 => ?_
  · repeat walk_at "u"
    refine br_any (fun q2 => ?_) fun q2 => ?_
    · repeat walk_at "u"
      exact ⟨⟨_, rfl, fun q => by cases q⟩, Sub.refl _⟩
    · repeat walk_at "u"
      refine br_any (fun q3 => ?_) fun q3 => ?_
      · repeat walk_at "u"
        exact ⟨⟨_, rfl, fun q => by cases q⟩, Sub.refl _⟩
      · repeat walk_at "u"
        rename_i z hz0
        have s1 := sub_upd (o := lstO [] 0) hz0
        refine br_dec (fun q4 => ?_) fun q4 => ?_
        · repeat walk_at "u"
          exact ⟨⟨_, rfl, fun q => by cases q⟩, s1⟩
        · repeat walk_at "u"
          refine br_dec (fun q5 => ?_) fun q5 => ?_
          · repeat walk_at "u"
            refine i_shr (by omega) fun tk => ?_
            repeat walk_at "u"
            exact ⟨⟨_, rfl, fun _ => ⟨q1, by omega, fun q => q4 (by rw [q]; rfl)⟩⟩, s1⟩
          · repeat walk_at "u"
            exact ⟨⟨_, rfl, fun q => absurd (of_decide_eq_true q) q5⟩, s1⟩
  · repeat walk_at "u"
    exact ⟨⟨_, rfl, fun q => by cases q⟩, Sub.refl _⟩
end
section
variable {g : Pg} {σ : Store} {ns : List Int}
theorem cell_ok (hK : g.K = heap g.w.params) (hB : IntsAre g.bv ns) (h63 : ns.length ≤ 63) {k : Int} (h0 : 0 ≤ k) {t : Tok} : Fn g 1 (.ref 112) [.ref g.bl, .int k t] σ (fun v σ' => (∃ t, v = .int (ns.getD k.toNat 0) t) ∧ σ' = σ) NoE := by
  have hlen := hB.length
  refine' fn_body [(Str.ofString "_law_script", .ref g.bl), (Str.ofString "_law_k", .int k t)] ?k6 ?k7 ?k9 ?kB ?c5 ?c2 ?c3 ?c4 ?_
  walk_at "enter"
  intro c m hg G hsc hcl hin hm
  have m1 : m (Str.ofString "_law_script") = some (.ref g.bl) := by rw [hm]; rfl
  have m2 : m (Str.ofString "_law_k") = some (.int k t) := by rw [hm]; rfl
  clear hm
  subst hg
  show W c (execs (_ :: _) c.env) _ _ _ _
  repeat walk_at "s"
  refine br_dec (fun q1 => ?_) fun q1 => ?_
  · repeat walk_at "s"
    have hlt : k.toNat < ns.length := by omega
    have hv : c.g.bv[k.toNat]? = some c.g.bv[k.toNat] := List.getElem?_eq_getElem (by omega)
    obtain ⟨a, t', ha, e⟩ := ints_get hB hv
    refine w_item_base (v := .int a t') G.base (by omega) (by omega) (by rw [hv, e]) ?_ (by with_unfolding_all rfl)
    refine ⟨⟨t', ?_⟩, rfl⟩
    rw [List.getD_eq_getElem?_getD, ha]; rfl
  · repeat walk_at "s"
    rw [List.getD_eq_getElem?_getD, List.getElem?_eq_none (by omega)]
    exact ⟨⟨_, rfl⟩, rfl⟩
theorem whole_ok (hK : g.K = heap g.w.params) {k : Int} {t : Tok} : Fn g 1 (.ref 119) [.int k t] σ (fun v σ' => v = .bool true ∧ σ' = σ) NoE := by
  refine' fn_body [(Str.ofString "_law_found", .int k t)] ?k6 ?k7 ?k9 ?kB ?c5 ?c2 ?c3 ?c4 ?_
  walk_at "enter"
  intro c m hg G hsc hcl hin hm
  have m1 : m (Str.ofString "_law_found") = some (.int k t) := by rw [hm]; rfl
  clear hm
  subst hg
  show W c (execs (_ :: _) c.env) _ _ _ _
  repeat walk_at "s"
  exact ⟨rfl, rfl⟩
end
section
variable {g : Pg} {σ : Store}
theorem truth_ok (hK : g.K = heap g.w.params) {a b : Bool} : Fn g 1 (.ref 133) [.bool a, .bool b] σ (fun v σ' => v = .bool (a == b) ∧ σ' = σ) NoE := by
  refine' fn_body [(Str.ofString "_law_found", .bool a), (Str.ofString "_law_due", .bool b)] ?k6 ?k7 ?k9 ?kB ?c5 ?c2 ?c3 ?c4 ?_
  walk_at "enter"
  intro c m hg G hsc hcl hin hm
  have m1 : m (Str.ofString "_law_found") = some (.bool a) := by rw [hm]; rfl
  have m2 : m (Str.ofString "_law_due") = some (.bool b) := by rw [hm]; rfl
  clear hm
  subst hg
  show W c (execs (_ :: _) c.env) _ _ _ _
  repeat walk_at "s"
  exact ⟨rfl, rfl⟩
theorem whole_str (hK : g.K = heap g.w.params) {x : Str} {t : Tok} : Fn g 1 (.ref 119) [.str x t] σ (fun v σ' => v = .bool false ∧ σ' = σ) NoE := by
  refine' fn_body [(Str.ofString "_law_found", .str x t)] ?k6 ?k7 ?k9 ?kB ?c5 ?c2 ?c3 ?c4 ?_
  walk_at "enter"
  intro c m hg G hsc hcl hin hm
  have m1 : m (Str.ofString "_law_found") = some (.str x t) := by rw [hm]; rfl
  clear hm
  subst hg
  show W c (execs (_ :: _) c.env) _ _ _ _
  repeat walk_at "s"
  refine isi_str_int ?_
  repeat walk_at "s"
  exact ⟨rfl, rfl⟩
theorem letters_ok (hK : g.K = heap g.w.params) {l₁ l₂ : Addr} {as bs : List Addr} {ps : List Ltr} {k₁ k₂ : Nat} (h1 : σ l₁ = some (lstO (as.map .ref) k₁)) (h2 : σ l₂ = some (lstO (bs.map .ref) k₂)) (a1 : All2 (LtrAt σ) as ps) (a2 : All2 (LtrAt σ) bs ps) (hz : ps.length ≤ 1000) :
    Fn g 2 (.ref 126) [.ref l₁, .ref l₂] σ (fun v σ' => v = .bool true ∧ σ' = σ) NoE := by
  have n1 := a1.len
  have n2 := a2.len
  have z1 : (as.map Value.ref).length ≤ 1000 := by rw [List.length_map]; omega
  have z2 : (bs.map Value.ref).length ≤ 1000 := by rw [List.length_map]; omega
  refine' fn_body [(Str.ofString "_law_found", .ref l₁), (Str.ofString "_law_due", .ref l₂)] ?k6 ?k7 ?k9 ?kB ?c5 ?c2 ?c3 ?c4 ?_
  walk_at "enter"
  intro c m hg G hsc hcl hin hm
  have m1 : m (Str.ofString "_law_found") = some (.ref l₁) := by rw [hm]; rfl
  have m2 : m (Str.ofString "_law_due") = some (.ref l₂) := by rw [hm]; rfl
  clear hm
  subst hg
  show W c (execs (_ :: _) c.env) _ _ _ _
  repeat walk_at "s"
  refine br_isF (by rw [List.length_map, List.length_map, n1, n2]; exact bne_self_eq_false _) ?_
  repeat walk_at "s"
  refine turns_list (vs := as.map .ref) (k := k₁) G (kind_is hsc (by decide +kernel)) (nocell hcl) (fun j m' σ' => σ' = σ ∧ m' (Str.ofString "_law_found") = some (.ref l₁) ∧ m' (Str.ofString "_law_due") = some (.ref l₂)) ?_ ?_ ?_ ?_
  · rintro i m' σ' ⟨rfl, _⟩; exact h1
  · exact ⟨rfl, by walk_at "m", by walk_at "m"⟩
  · rintro j v m' σ' hv ⟨rfl, q1, q2⟩
    rw [List.getElem?_map, Option.map_eq_some_iff] at hv
    obtain ⟨a, ha, rfl⟩ := hv
    obtain ⟨p, _, k, ea⟩ := a1.get' ha
    repeat walk_at "s"
    refine isi_tup ea ?_
    repeat walk_at "s"
    refine turns_tup (vs := ltrV p k) G (kind_is hsc (by decide +kernel)) (nocell hcl) (fun j m' σ'' => σ'' = σ' ∧ m' (Str.ofString "_law_found") = some (.ref l₁) ∧ m' (Str.ofString "_law_due") = some (.ref l₂)) ?_ ?_ ?_ ?_
    · rintro i m' σ' ⟨rfl, _⟩; exact ea
    · exact ⟨rfl, by walk_at "m", by walk_at "m"⟩
    · rintro i v m' σ'' hv ⟨rfl, q1, q2⟩
      rcases part_kindL hv with ⟨b, u, rfl⟩ | ⟨x, u, rfl⟩
      · repeat walk_at "s"
        refine w_fn G (by decide) (whole_ok hK) (fun v σ7 q => ?_) fun _ _ q => q.elim
        obtain ⟨rfl, rfl⟩ := q
        repeat walk_at "s"
        exact ⟨rfl, by walk_at "m", by walk_at "m"⟩
      · repeat walk_at "s"
        refine w_fn G (by decide) (whole_str hK) (fun v σ7 q => ?_) fun _ _ q => q.elim
        obtain ⟨rfl, rfl⟩ := q
        repeat walk_at "s"
        refine isi_str_str ?_
        repeat walk_at "s"
        exact ⟨rfl, by walk_at "m", by walk_at "m"⟩
    · rintro m' σ'' ⟨rfl, q1, q2⟩
      repeat walk_at "s"
      exact ⟨rfl, by walk_at "m", by walk_at "m"⟩
  · rintro m' σ' ⟨rfl, q1, q2⟩
    repeat walk_at "s"
    refine eq_ltrs G h1 h2 a1 a2 ?_
    exact ⟨rfl, rfl⟩
end
section
variable {g : Pg} {σ : Store} {s : LSt} {d ld lp x dx : Addr} {k : Nat → Tok} {h : Hnd}
theorem told_ok (hK : g.K = heap g.w.params) (hd : DicAt g σ d (stD s ld lp k)) (H : HandAt g.w.params 101 σ x dx h) (S : Sim h s) {a : Int} {t : Tok} : Fn g 2 (.ref 187) [.ref x, .ref d, .int a t] σ (fun v σ' => v = .bool true ∧ σ' = σ) NoE := by
  obtain ⟨kh, hx, hdx⟩ := id H
  refine' fn_body [(Str.ofString "_law_hand", .ref x), (Str.ofString "_law_state", .ref d), (Str.ofString "_law_which", .int a t)] ?k6 ?k7 ?k9 ?kB ?c5 ?c2 ?c3 ?c4 ?_
  walk_at "enter"
  intro c m hg G hsc hcl hin hm
  have m1 : m (Str.ofString "_law_hand") = some (.ref x) := by rw [hm]; rfl
  have m2 : m (Str.ofString "_law_state") = some (.ref d) := by rw [hm]; rfl
  have m3 : m (Str.ofString "_law_which") = some (.int a t) := by rw [hm]; rfl
  clear hm
  subst hg
  show W c (execs (_ :: _) c.env) _ _ _ _
  walk_at "s"
  repeat walk_at "u"
  refine br_any (fun q1 => ?_) fun q1 => ?_
  · repeat walk_at "u"
    refine w_fn G (by decide) (m_is_awake hK H) (fun v σ' q => ?_) fun _ _ q => q.elim
    obtain ⟨rfl, rfl⟩ := q
    repeat walk_at "u"
    refine (w_fn G (by decide) (truth_ok hK) (fun v σ' q => ?_) fun _ _ q => q.elim)
    obtain ⟨rfl, rfl⟩ := q
    refine ⟨?_, rfl⟩
    show Value.bool (h.stage.isSome == s.awake) = _
    rw [S.stage]
    cases s.awake <;> rfl
  · repeat walk_at "u"
    walk_at "s"
    repeat walk_at "u"
    refine br_any (fun q2 => ?_) fun q2 => ?_
    · repeat walk_at "u"
      refine w_fn G (by decide) (m_is_first hK H) (fun v σ' q => ?_) fun _ _ q => q.elim
      obtain ⟨rfl, rfl⟩ := q
      repeat walk_at "u"
      refine (w_fn G (by decide) (truth_ok hK) (fun v σ' q => ?_) fun _ _ q => q.elim)
      obtain ⟨rfl, rfl⟩ := q
      refine ⟨?_, rfl⟩
      show Value.bool (h.won == s.first) = _
      rw [S.won, beq_self_eq_true]
    · repeat walk_at "u"
      refine x_if_cut (fun m' σ' => σ' = σ ∧ m' (Str.ofString "_law_hand") = some (.ref x) ∧ m' (Str.ofString "_law_state") = some (.ref d) ∧ ∃ (o : Option Int) (t u : Tok), m' (Str.ofString "_law_found") = some (optI o t) ∧ m' (Str.ofString "_law_due") = some (optI o u)) ?_ ?_
      · repeat walk_at "u"
        refine br_any (fun q3 => ?_) fun q3 => ?_
        · repeat walk_at "u"
          refine w_fn G (by decide) (m_stage hK H) (fun v σ' q => ?_) fun _ _ q => q.elim
          obtain ⟨⟨tk, rfl⟩, rfl⟩ := q
          rw [S.stage]
          repeat walk_at "u"
          cases ha : s.awake with
          | true =>
            repeat walk_at "u"
            exact ⟨rfl, by walk_at "m", by walk_at "m", some (s.stage : Int), tk, k 1, (show _ = some (optV (if true = true then some s.stage else none) tk) by walk_at "m"), (show _ = some (Value.int (s.stage : Int) (k 1)) by walk_at "m")⟩
          | false =>
            repeat walk_at "u"
            exact ⟨rfl, by walk_at "m", by walk_at "m", none, tk, tk, (show _ = some (optV (if false = true then some s.stage else none) tk) by walk_at "m"), (show _ = some Value.none by walk_at "m")⟩
        · repeat walk_at "u"
          refine w_fn G (by decide) (m_knows hK H) (fun v σ' q => ?_) fun _ _ q => q.elim
          obtain ⟨⟨tk, rfl⟩, rfl⟩ := q
          rw [S.top]
          repeat walk_at "u"
          exact ⟨rfl, by walk_at "m", by walk_at "m", s.known, tk, _, by walk_at "m", by walk_at "m"⟩
      · rintro m' σ' ⟨rfl, n1, n2, o, t1, u1, n3, n4⟩
        cases o with
        | none =>
          dsimp only [optI] at n3 n4
          walk_at "s"
          repeat walk_at "u"
          exact ⟨rfl, rfl⟩
        | some z =>
          dsimp only [optI] at n3 n4
          walk_at "s"
          repeat walk_at "u"
          refine w_fn G (by decide) (whole_ok hK) (fun v σ7 q => ?_) fun _ _ q => q.elim
          obtain ⟨rfl, rfl⟩ := q
          repeat walk_at "u"
          refine br_isT (beq_self_eq_true _) ?_
          repeat walk_at "u"
          refine w_fn G (by decide) (whole_ok hK) (fun v σ7 q => ?_) fun _ _ q => q.elim
          obtain ⟨rfl, rfl⟩ := q
          repeat walk_at "u"
          refine ⟨?_, rfl⟩
          show Value.bool (h.num == s.num) = _
          rw [S.num, beq_self_eq_true]
end
section
variable {g : Pg} {σ τ : Store} {s : LSt} {d ld lp : Addr} {k : Nat → Tok}
/-- the law's dict with its two lists -/
structure Ltd (g : Pg) (σ : Store) (d : Addr) (s : LSt) (ld lp : Addr) (dvs : List Value) (ps : List Addr) (pl : List Ltr) : Prop where
  dic : ∃ k, DicAt g σ d (stD s ld lp k)
  due : ∃ kd, σ ld = some (lstO dvs kd)
  isI : ∀ v ∈ dvs, ∃ x t, v = .int x t
  few : dvs.length ≤ 2
  lst : ∃ kp, σ lp = some (lstO (ps.map .ref) kp)
  all : All2 (LtrAt σ) ps pl
  ne : ld ≠ lp
  ans : ∀ l ∈ pl, l.word = .answer ∧ s.num < l.num ∧ l.stage ≤ 99
theorem Ltd.sub {dvs : List Value} {ps : List Addr} {pl : List Ltr} (L : Ltd g σ d s ld lp dvs ps pl) (h : Sub σ τ) : Ltd g τ d s ld lp dvs ps pl :=
  ⟨let ⟨k, q⟩ := L.dic; ⟨k, q.sub h⟩, let ⟨k, q⟩ := L.due; ⟨k, h _ _ q⟩, L.isI, L.few, let ⟨k, q⟩ := L.lst; ⟨k, h _ _ q⟩, L.all.mono fun _ _ r => r.sub h, L.ne, L.ans⟩
theorem Ltd.woke {σ' : Store} {dvs : List Value} {ps : List Addr} {pl : List Ltr} (L : Ltd g σ d s ld lp dvs ps pl) {s' : LSt} {k : Nat → Tok} (K : Keep (· = d) σ σ') (hd : DicAt g σ' d (stD s' ld lp k)) (hn : s'.num = s.num) : Ltd g σ' d s' ld lp dvs ps pl := by
  obtain ⟨k0, hd0⟩ := L.dic
  exact ⟨⟨k, hd⟩, let ⟨k, q⟩ := L.due; ⟨k, K _ _ q (dic_lst hd0 q)⟩, L.isI, L.few, let ⟨k, q⟩ := L.lst; ⟨k, K _ _ q (dic_lst hd0 q)⟩, L.all.mono fun _ _ r => (let ⟨kk, e⟩ := r; ⟨kk, K _ _ e (dic_tup hd0 e)⟩), L.ne, by rw [hn]; exact L.ans⟩
theorem Ltd.dueTo {dvs dvs' : List Value} {ps : List Addr} {pl : List Ltr} (L : Ltd g σ d s ld lp dvs ps pl) {kd k' : Nat} (e : σ ld = some (lstO dvs kd)) (h1 : ∀ v ∈ dvs', v ∈ dvs) (h2 : dvs'.length ≤ 2) : Ltd g (upd σ ld (lstO dvs' k')) d s ld lp dvs' ps pl :=
  ⟨let ⟨k, q⟩ := L.dic; ⟨k, q.off (Ne.symm (dic_lst q e))⟩, ⟨k', upd_same⟩, fun v hv => L.isI v (h1 v hv), h2, let ⟨k, q⟩ := L.lst; ⟨k, look_off (Ne.symm L.ne) q⟩, L.all.mono fun _ _ r => (let ⟨kk, e'⟩ := r; ⟨kk, look_off (tup_lst e' e) e'⟩), L.ne, L.ans⟩
theorem Ltd.passTo {dvs : List Value} {ps : List Addr} {pl : List Ltr} (L : Ltd g σ d s ld lp dvs ps pl) {kp k' : Nat} (e : σ lp = some (lstO (ps.map .ref) kp)) (j : Nat) : Ltd g (upd σ lp (lstO ((ps.map .ref).eraseIdx j) k')) d s ld lp dvs (ps.eraseIdx j) (pl.eraseIdx j) :=
  ⟨let ⟨k, q⟩ := L.dic; ⟨k, q.off (Ne.symm (dic_lst q e))⟩, let ⟨k, q⟩ := L.due; ⟨k, look_off L.ne q⟩, L.isI, L.few, ⟨k', by rw [← map_eraseIdx]; exact upd_same⟩, (L.all.erase j).mono fun _ _ r => (let ⟨kk, e'⟩ := r; ⟨kk, look_off (tup_lst e' e) e'⟩), L.ne, fun l hl => L.ans l (List.mem_of_mem_eraseIdx hl)⟩
abbrev DLP (d ld lp : Addr) : Addr → Prop := fun b => b = d ∨ b = ld ∨ b = lp
def LetterOut (g : Pg) (σ : Store) (d : Addr) (s : LSt) (ld lp : Addr) (n : Nat) (v : Value) (σ' : Store) : Prop :=
  ∃ a l s' lp' dvs' ps' pl', v = .ref a ∧ LtrAt σ' a l ∧ Fair s' l ∧ l.stage ≤ 99 ∧ Ltd g σ' d s' ld lp' dvs' ps' pl' ∧ pl'.length ≤ n ∧ (s' = s ∨ s' = { s with around := false }) ∧ (lp' = lp ∨ σ lp' = none) ∧ Keep (DLP d ld lp) σ σ'
theorem letter_ok (hK : g.K = heap g.w.params) {dvs : List Value} {ps : List Addr} {pl : List Ltr} (L : Ltd g σ d s ld lp dvs ps pl) (h0 : 0 ≤ s.num) (hpz : pl.length ≤ 1000) {a b : Int} {t u : Tok} :
    Fn g 2 (.ref 180) [.ref d, .int a t, .int b u] σ (LetterOut g σ d s ld lp pl.length) NoE := by
  have few := L.few
  refine' fn_bodyC [(Str.ofString "_law_state", .ref d), (Str.ofString "_law_cell", .int a t), (Str.ofString "_law_more", .int b u)] ?k6 ?k7 ?k9 ?kB ?c5 ?c2 ?c3 ?c4 ?_
  walk_at "enterC"
  intro c m hg G hsc hcl hnd hin hm
  have m1 : m (Str.ofString "_law_state") = some (.ref d) := by rw [hm]; rfl
  have m2 : m (Str.ofString "_law_cell") = some (.int a t) := by rw [hm]; rfl
  have m3 : m (Str.ofString "_law_more") = some (.int b u) := by rw [hm]; rfl
  clear hm
  subst hg
  show W c (execs (_ :: _) c.env) _ _ _ _
  obtain ⟨k, hd⟩ := L.dic
  repeat walk_at "u"
  refine x_if_cut (fun m' σ' => σ' = σ ∧ m' (Str.ofString "_law_state") = some (.ref d) ∧ m' (Str.ofString "_law_cell") = some (.int a t) ∧ m' (Str.ofString "_law_more") = some (.int b u) ∧ (∃ w tw, m' (Str.ofString "_law_way") = some (.int w tw)) ∧ ∃ kd tk, m' (Str.ofString "_law_kind") = some (.int kd tk)) ?_ ?_
  · repeat walk_at "u"
    refine br_any (fun q1 => ?_) fun q1 => ?_
    · repeat walk_at "u"
      refine br_any (fun q2 => ?_) fun q2 => ?_
      · repeat walk_at "u"
        exact ⟨rfl, by walk_at "m", by walk_at "m", by walk_at "m", ⟨_, _, by walk_at "m"⟩, _, _, by walk_at "m"⟩
      · repeat walk_at "u"
        exact ⟨rfl, by walk_at "m", by walk_at "m", by walk_at "m", ⟨_, _, by walk_at "m"⟩, _, _, by walk_at "m"⟩
    · repeat walk_at "u"
      exact ⟨rfl, by walk_at "m", by walk_at "m", by walk_at "m", ⟨_, _, by walk_at "m"⟩, _, _, by walk_at "m"⟩
  rintro m1' σ' ⟨rfl, n1, n2, n3, ⟨w, tw, n4⟩, kd, tk, n5⟩
  obtain ⟨kdu, hdu⟩ := L.due
  obtain ⟨kp, hp⟩ := L.lst
  refine x_if_cut (fun m'' τ => Sub σ' τ ∧ m'' = m1') ?_ ?_
  · repeat walk_at "u"
    refine br_any (fun q1 => ?_) fun q1 => ?_
    · repeat walk_at "u"
      refine w_fn G (by decide) (is_due_ok hK hd hdu (by omega)) (fun v τ q => ?_) fun _ _ q => q.elim
      obtain ⟨⟨bb, rfl, hbb⟩, sb⟩ := q
      repeat walk_at "u"
      refine br_any (fun q2 => ?_) fun q2 => ?_
      · obtain ⟨g1, g2, g3⟩ := hbb q2
        have hd1 := hd.sub sb
        have hdu1 := sb _ _ hdu
        have L1 := L.sub sb
        clear hd hdu
        have hz : 0 < dvs.length := List.length_pos_iff.mpr g3
        repeat walk_at "u"
        obtain ⟨j, ej, hj⟩ := fmod_nat (n := dvs.length) hz b
        rw [ej]
        have ev : dvs[j]? = some dvs[j] := List.getElem?_eq_getElem hj
        obtain ⟨xv, tv, exv⟩ := L1.isI _ (List.getElem_mem hj)
        rw [exv] at ev
        refine w_pop (j := j) (v := .int xv tv) hdu1 (by rw [sizeLine_eq]; omega) rfl ev ?_
        have L2 := L1.dueTo (k' := kdu + 1) hdu1 (dvs' := dvs.eraseIdx j) (fun v hv => List.mem_of_mem_eraseIdx hv) (Nat.le_trans (List.length_eraseIdx_le ..) few)
        have K2 : Keep (DLP d ld lp) σ' (upd τ ld (lstO (dvs.eraseIdx j) (kdu + 1))) := (Keep.of_sub sb).upd (.inl (.inr (.inl rfl)))
        obtain ⟨k2, hd2⟩ := L2.dic
        generalize upd τ ld (lstO (dvs.eraseIdx j) (kdu + 1)) = τ2 at L2 K2 hd2
        repeat walk_at "u"
        rename_i b2 hb2
        exact ⟨b2, ⟨xv, .answer, s.num, s.stage, 0⟩, s, lp, dvs.eraseIdx j, ps, pl, rfl, by walk_at "l", ⟨(fun q => nomatch q), fun _ _ => rfl⟩, by show s.stage ≤ 99; omega, L2.sub (sub_upd hb2), Nat.le_refl _, .inl rfl, .inl rfl, K2.upd (.inr hb2)⟩
      · repeat walk_at "u"
        exact ⟨sb, rfl⟩
    · repeat walk_at "u"
      exact ⟨Sub.refl _, rfl⟩
  rintro m'' τ ⟨sb, rfl⟩
  have L1 := L.sub sb
  have hd1 := hd.sub sb
  have hp1 := sb _ _ hp
  have K0 : Keep (DLP d ld lp) σ' τ := Keep.of_sub sb
  have hpl := L.all.len
  have hpz2 : (ps.map Value.ref).length ≤ 1000 := by rw [List.length_map]; omega
  refine x_if_cut (fun m3 τ' => τ' = τ ∧ m3 = m'') ?_ ?_
  · repeat walk_at "u"
    refine br_any (fun q4 => ?_) fun q4 => ?_
    · repeat walk_at "u"
      refine br_any (fun q5 => ?_) fun q5 => ?_
      · repeat walk_at "u"
        rename_i o1 e1 b0 b1 b2 b3 b4 b5 hb5
        have L2 := L1.woke (s' := { s with around := false }) (Keep.refl.upd (.inl rfl)) e1 rfl
        exact ⟨b5, ⟨1, .crown, s.num, 0, 0⟩, { s with around := false }, lp, dvs, ps, pl, rfl, by walk_at "l", ⟨(fun q => nomatch q), (fun q => nomatch q)⟩, Nat.zero_le _, L2.sub (sub_upd hb5), Nat.le_refl _, .inr rfl, .inl rfl, (K0.upd (.inl (.inl rfl))).upd (.inr hb5)⟩
      · repeat walk_at "u"
        exact ⟨rfl, rfl⟩
    · repeat walk_at "u"
      exact ⟨rfl, rfl⟩
  rintro m3 τ' ⟨rfl, rfl⟩
  refine x_if_cut (fun m4 τ2 => τ2 = τ' ∧ m4 = m3) ?_ ?_
  · repeat walk_at "u"
    refine br_any (fun q4 => ?_) fun q4 => ?_
    · repeat walk_at "u"
      cases hk : s.known with
      | some z =>
        dsimp only [optI]
        repeat walk_at "u"
        exact ⟨rfl, rfl⟩
      | none =>
        dsimp only [optI]
        repeat walk_at "u"
        refine br_any (fun q5 => ?_) fun q5 => ?_
        · repeat walk_at "u"
          refine br_any (fun q6 => ?_) fun q6 => ?_
          · repeat walk_at "u"
            refine w_compT (allfree hsc hcl rfl) rfl (by decide +kernel) (fun _ => rfl) ?_
            repeat walk_at "u"
            refine comp_listT G (by decide +kernel) rfl (by decide +kernel) (fun i ys τ => ∃ qs ql, ys = qs.map .ref ∧ All2 (LtrAt τ) qs ql ∧ (∀ l ∈ ql, l ∈ pl) ∧ ql.length ≤ i) (by rintro i ys τ τ2 sb ⟨qs, ql, e, al, h1, h2⟩; exact ⟨qs, ql, e, al.mono fun _ _ r => r.sub sb, h1, h2⟩) hp1 (by rw [sizeLine_eq]; omega) ⟨[], [], rfl, .nil, fun l hl => absurd hl (by simp), Nat.le_refl _⟩ ?_ ?_
            · intro j v hv e C oC mm τ2 ys CE sub τC hP hn hmm
              rw [List.getElem?_map, Option.map_eq_some_iff] at hv
              obtain ⟨pa, hpa, rfl⟩ := hv
              obtain ⟨pl0, hpl0, kl, el⟩ := L1.all.get' hpa
              have el2 := look_new (o' := oC) τC (sub _ _ el)
              have hd2 : DicAt c.g (upd τ2 C oC) d (stD s ld lp k) := DicAt.newer τC (hd1.sub sub)
              obtain ⟨qs, ql, rfl, al, g1, g2⟩ := hP
              have sb2 : Sub τ2 (drop C (upd τ2 C oC)) := sub_drop (sub_upd τC) τC
              repeat walk_at "u"
              refine br_any (fun q7 => ?_) fun q7 => ?_
              · repeat walk_at "u"
                refine ⟨rfl, Sub.refl _, qs ++ [pa], ql ++ [pl0], by rw [List.map_append]; rfl, (al.mono fun _ _ r => r.sub sb2).append (.cons ⟨kl, sb2 _ _ (sub _ _ el)⟩ .nil), fun l hl => ?_, by rw [List.length_append]; show _ + 1 ≤ _; omega⟩
                rcases List.mem_append.mp hl with hl | hl
                · exact g1 l hl
                · rw [List.mem_singleton.mp hl]; exact List.mem_of_getElem? hpl0
              · repeat walk_at "u"
                exact ⟨rfl, Sub.refl _, qs, ql, rfl, al.mono fun _ _ r => r.sub sb2, g1, by omega⟩
            · intro D τ2 ys kk hD1 hD2 s2 hP
              obtain ⟨qs, ql, rfl, al, g1, g2⟩ := hP
              have s3 := s2.trans (sub_upd (o := lstO (qs.map .ref) kk) hD2)
              have hd3 := hd1.sub s3
              repeat walk_at "u"
              rename_i o1 e1 t6 t5 t4 t3 t2 b2 hb2
              obtain ⟨kd2, hdu2⟩ := L1.due
              have hDD : upd τ2 D (lstO (qs.map .ref) kk) D = some (lstO (qs.map .ref) kk) := upd_same
              have hdu3 := s3 _ _ hdu2
              have al3 : All2 (LtrAt (upd τ2 D (lstO (qs.map .ref) kk))) qs ql := al.mono fun _ _ r => r.sub (sub_upd hD2)
              rw [List.length_map] at g2
              exact ⟨b2, ⟨1, .crown, s.most, 0, 0⟩, s, D, dvs, qs, ql, rfl, by walk_at "l", ⟨(fun q => nomatch q), (fun q => nomatch q)⟩, Nat.zero_le _, ⟨⟨_, DicAt.newer hb2 e1⟩, ⟨kd2, look_new hb2 (look_off (dic_lst hd3 hdu3) hdu3)⟩, L1.isI, L1.few, ⟨kk, look_new hb2 (look_off (dic_lst hd3 hDD) hDD)⟩, al3.mono fun _ _ r => (let ⟨kk, e⟩ := r; ⟨kk, look_new hb2 (look_off (dic_tup hd3 e) e)⟩), new_ne hdu2 hD1, fun l hl => L1.ans l (g1 l hl)⟩, by omega, .inl rfl, .inr (sb.no hD1), ((K0.trans (Keep.of_sub s3)).upd (.inl (.inl rfl))).upd (.inr hb2)⟩
          · repeat walk_at "u"
            exact ⟨rfl, rfl⟩
        · repeat walk_at "u"
          exact ⟨rfl, rfl⟩
    · repeat walk_at "u"
      exact ⟨rfl, rfl⟩
  rintro m4 τ2 ⟨rfl, rfl⟩
  refine x_if_cut (fun m5 τ3 => Sub τ2 τ3 ∧ m5 = m4) ?_ ?_
  · repeat walk_at "u"
    refine br_any (fun q4 => ?_) fun q4 => ?_
    · repeat walk_at "u"
      rename_i z hz0
      have s1 := sub_upd (o := lstO [] 0) hz0
      have hp3 := s1 _ _ hp1
      have hd3 := hd1.sub s1
      have L3 := L1.sub s1
      have K3 := K0.trans (Keep.of_sub (D := DLP d ld lp) s1)
      generalize upd τ2 z (lstO [] 0) = τ3 at s1 hp3 hd3 L3 K3
      refine br_any (fun q5 => ?_) fun q5 => ?_
      · repeat walk_at "u"
        exact ⟨s1, rfl⟩
      · have hpos : 0 < (ps.map Value.ref).length := by
          rw [decide_eq_false_iff_not] at q5; omega
        repeat walk_at "u"
        obtain ⟨j, ej, hj⟩ := fmod_nat (n := (ps.map Value.ref).length) hpos b
        rw [ej]
        rw [List.length_map] at hj
        obtain ⟨l, hl, hla⟩ := L3.all.get' (List.getElem?_eq_getElem hj)
        refine w_pop (j := j) (v := .ref ps[j]) hp3 (by rw [sizeLine_eq]; omega) rfl (by rw [List.getElem?_map, List.getElem?_eq_getElem hj]; rfl) ?_
        have L4 := L3.passTo (k' := kp + 1) hp3 j
        obtain ⟨kl, el⟩ := hla
        have lm := L3.ans l (List.mem_of_getElem? hl)
        exact ⟨ps[j], l, s, lp, dvs, ps.eraseIdx j, pl.eraseIdx j, rfl, ⟨kl, look_off (tup_lst el hp3) el⟩, ⟨fun q => (by rw [lm.1] at q; cases q), fun _ q => (by have := lm.2.1; omega)⟩, lm.2.2, L4, List.length_eraseIdx_le .., .inl rfl, .inl rfl, K3.upd (.inl (.inr (.inr rfl)))⟩
    · repeat walk_at "u"
      exact ⟨Sub.refl _, rfl⟩
  rintro m5 τ3 ⟨sb3, rfl⟩
  have L3 := L1.sub sb3
  have hd3 := hd1.sub sb3
  have K3 := K0.trans (Keep.of_sub (D := DLP d ld lp) sb3)
  have a1 : 0 ≤ (b.fdiv 40).fmod 9 := Int.fmod_nonneg_of_pos _ (by decide)
  have a2 : 0 ≤ (b.fdiv 40).fmod (10 ^ (Int.toNat 9)) := Int.fmod_nonneg_of_pos _ (by decide +kernel)
  have a3 : 0 ≤ (b.fdiv 4).fmod 10 := Int.fmod_nonneg_of_pos _ (by decide)
  have a4 : (b.fdiv 4).fmod 10 < 10 := Int.fmod_lt_of_pos _ (by decide)
  repeat walk_at "u"
  refine x_if_cut (fun m6 τ4 => τ4 = τ3 ∧ m6 (Str.ofString "_law_state") = some (.ref d) ∧ m6 (Str.ofString "_law_more") = some (.int b u) ∧ m6 (Str.ofString "_law_way") = some (.int w tw) ∧ ∃ (sp : Nat) (ts : Tok), m6 (Str.ofString "_law_steps") = some (.int (sp : Int) ts) ∧ 1 ≤ sp) ?_ ?_
  · repeat walk_at "u"
    refine br_any (fun q4 => ?_) fun q4 => ?_
    · repeat walk_at "u"
      exact ⟨rfl, by walk_at "m", by walk_at "m", by walk_at "m", (1 + (b.fdiv 40).fmod (10 ^ (Int.toNat 9))).toNat, _, (by rw [Int.toNat_of_nonneg (by omega)]; walk_at "m"), by omega⟩
    · repeat walk_at "u"
      exact ⟨rfl, by walk_at "m", by walk_at "m", by walk_at "m", (1 + (b.fdiv 40).fmod 9).toNat, _, (by rw [Int.toNat_of_nonneg (by omega)]; walk_at "m"), by omega⟩
  rintro m6 τ4 ⟨rfl, p1, p2, p3, sp, ts, p4, hsp⟩
  repeat walk_at "u"
  refine w_fn G (by decide) (number_ok hK hd3 h0) (fun v τ5 q => ?_) fun _ _ q => q.elim
  obtain ⟨⟨nx, nt, rfl⟩, rfl⟩ := q
  repeat walk_at "u"
  rename_i b2 hb2
  exact ⟨b2, ⟨w, .ask, nx, ((b.fdiv 4).fmod 10).toNat, sp⟩, s, lp, dvs, ps, pl, rfl, ltr_of upd_same rfl rfl rfl (Int.toNat_of_nonneg a3).symm rfl, ⟨fun _ => hsp, (fun q => nomatch q)⟩, by show ((b.fdiv 4).fmod 10).toNat ≤ 99; omega, L3.sub (sub_upd hb2), Nat.le_refl _, .inl rfl, .inl rfl, K3.upd (.inr hb2)⟩
end
theorem w_cut {c : Cx} {α : Type} {x : Sem α} {m : Loc} {τ : Store} {Q : α → Loc → Store → Prop} {X : Value → Loc → Store → Prop} (Φ : Store → Prop) (h : Φ τ) (k : ∀ τ', Φ τ' → W c x m τ' Q X) : W c x m τ Q X := k τ h
def isIntV : Value → Bool
  | .int _ _ => true
  | _ => false
theorem intsL {vs : List Value} (h : vs.all isIntV = true) : ∀ v ∈ vs, ∃ x t, v = .int x t := fun v hv => by
  have := List.all_eq_true.mp h v hv
  cases v with
  | int x t => exact ⟨x, t, rfl⟩
  | _ => cases this
section
variable {g : Pg} {σ : Store} {s : LSt} {d ld lp x dx : Addr} {k : Nat → Tok} {h : Hnd}
theorem stands_ok (hK : g.K = heap g.w.params) (hd : DicAt g σ d (stD s ld lp k)) (H : HandAt g.w.params 101 σ x dx h) (S : Sim h s) {a : Int} {t : Tok} : Fn g 3 (.ref 192) [.ref x, .ref d, .int a t] σ (fun v σ' => v = .bool true ∧ Sub σ σ') NoE := by
  refine' fn_bodyC [(Str.ofString "_law_hand", .ref x), (Str.ofString "_law_state", .ref d), (Str.ofString "_law_turn", .int a t)] ?k6 ?k7 ?k9 ?kB ?c5 ?c2 ?c3 ?c4 ?_
  walk_at "enterC"
  intro c m hg G hsc hcl hnd hin hm
  have m1 : m (Str.ofString "_law_hand") = some (.ref x) := by rw [hm]; rfl
  have m2 : m (Str.ofString "_law_state") = some (.ref d) := by rw [hm]; rfl
  have m3 : m (Str.ofString "_law_turn") = some (.int a t) := by rw [hm]; rfl
  clear hm
  subst hg
  show W c (execs (_ :: _) c.env) _ _ _ _
  repeat walk_at "u"
  rename_i t1 t2 t3 t4 a0 z0 t5 t6 t7 t8 a1 z1 t9 a2 z2 a3 z3 t10 t11 a4 z4 t12 a5 z5 t13 t14 t15 t16 a6 z6 t17 a7 z7 t18 a8 z8 t19 t20 a9 z9 lw zw
  refine w_cut (fun τ => Sub σ τ ∧ ∃ ws, τ lw = some (lstO ws 0) ∧ ∀ i : Nat, i < 10 → ∃ b vs, ws[i]? = some (.ref b) ∧ τ b = some (lstO vs 0) ∧ (∀ v ∈ vs, ∃ x t, v = .int x t) ∧ vs.length ≤ 4) ⟨((((((((((sub_upd z0).trans (sub_upd z1)).trans (sub_upd z2)).trans (sub_upd z3)).trans (sub_upd z4)).trans (sub_upd z5)).trans (sub_upd z6)).trans (sub_upd z7)).trans (sub_upd z8)).trans (sub_upd z9)).trans (sub_upd zw), _, upd_same, fun i hi => ?_⟩ ?_
  · exact match i, hi with
    | 0, _ => ⟨a0, [Value.int 0 t1, Value.int 1 t2, Value.int 2 t3, Value.int 3 t4], rfl, by walk_at "o", intsL rfl, Nat.le_of_ble_eq_true rfl⟩
    | 1, _ => ⟨a1, [Value.int 3 t5, Value.int 2 t6, Value.int 1 t7, Value.int 0 t8], rfl, by walk_at "o", intsL rfl, Nat.le_of_ble_eq_true rfl⟩
    | 2, _ => ⟨a2, [Value.int 2 t9], rfl, by walk_at "o", intsL rfl, Nat.le_of_ble_eq_true rfl⟩
    | 3, _ => ⟨a3, [], rfl, by walk_at "o", intsL rfl, Nat.le_of_ble_eq_true rfl⟩
    | 4, _ => ⟨a4, [Value.int 1 t10, Value.int 3 t11], rfl, by walk_at "o", intsL rfl, Nat.le_of_ble_eq_true rfl⟩
    | 5, _ => ⟨a5, [Value.int 0 t12], rfl, by walk_at "o", intsL rfl, Nat.le_of_ble_eq_true rfl⟩
    | 6, _ => ⟨a6, [Value.int 3 t13, Value.int 0 t14, Value.int 2 t15, Value.int 1 t16], rfl, by walk_at "o", intsL rfl, Nat.le_of_ble_eq_true rfl⟩
    | 7, _ => ⟨a7, [Value.int 1 t17], rfl, by walk_at "o", intsL rfl, Nat.le_of_ble_eq_true rfl⟩
    | 8, _ => ⟨a8, [Value.int 3 t18], rfl, by walk_at "o", intsL rfl, Nat.le_of_ble_eq_true rfl⟩
    | 9, _ => ⟨a9, [Value.int 2 t19, Value.int 0 t20], rfl, by walk_at "o", intsL rfl, Nat.le_of_ble_eq_true rfl⟩
    | i + 10, h => absurd h (by omega)
  · rintro τ ⟨sb, ws, hlw, hws⟩
    have q1 : 0 ≤ a.fmod 10 := Int.fmod_nonneg_of_pos _ (by decide)
    have q2 : a.fmod 10 < 10 := Int.fmod_lt_of_pos _ (by decide)
    have hd1 := hd.sub sb
    have H1 := H.sub sb
    refine w_comp (allfree hsc hcl rfl) rfl (by decide +kernel) (fun _ => rfl) ?_
    repeat walk_at "u"
    obtain ⟨b, vs, e1, e2, e3, e4⟩ := hws (a.fmod 10).toNat (by omega)
    refine w_item (v := .ref b) hlw q1 (by omega) e1 ?_ (by with_unfolding_all rfl)
    refine comp_list G (by decide +kernel) rfl (by decide +kernel) (fun i ys _ => LSm.BoolsAre ys (List.replicate i true)) (fun _ _ _ _ _ h => h) e2 (by rw [sizeLine_eq]; omega) .nil ?_ ?_
    · intro j v hv e C oC mm τ2 ys CE sub τC hP hn hmm
      obtain ⟨xv, tv, rfl⟩ := e3 v (List.mem_of_getElem? hv)
      have hd2 : DicAt c.g (upd τ2 C oC) d (stD s ld lp k) := DicAt.newer τC (hd1.sub sub)
      have H2 := (H1.sub sub).sub (sub_upd (o := oC) τC)
      repeat walk_at "u"
      refine w_fn G (by decide) (told_ok hK hd2 H2 S) (fun v τ3 q => ?_) fun _ _ q => q.elim
      obtain ⟨rfl, rfl⟩ := q
      refine ⟨rfl, Sub.refl _, ?_⟩
      show LSm.BoolsAre _ (List.replicate (j + 1) true)
      rw [List.replicate_succ']
      exact bools_snoc hP true
    · intro D σ5 ys kk hD1 hD2 s7 hys hP
      repeat walk_at "u"
      refine w_all G upd_same hP ?_
      rw [show (List.replicate vs.length true).all id = true from List.all_eq_true.mpr fun b hb => (List.mem_replicate.mp hb).2]
      exact ⟨rfl, (sb.trans s7).trans (sub_upd hD2)⟩
end
section
variable {g : Pg} {σ σ₀ σ' τ : Store} {s : LSt} {d ld lp ld' lp' x dx hl a b la lc tp C : Addr} {h : Hnd} {dvs : List Value} {ps as : List Addr} {pl : List Ltr} {n : Nat} {o : Obj}
theorem Ltd.off (L : Ltd g σ d s ld lp dvs ps pl) (n1 : a ≠ ld) (n2 : a ≠ lp) {vs : List Value} {k : Nat} (ha : σ a = some (lstO vs k)) : Ltd g (upd σ a o) d s ld lp dvs ps pl :=
  ⟨let ⟨k, q⟩ := L.dic; ⟨k, q.off (Ne.symm (dic_lst q ha))⟩, let ⟨k, q⟩ := L.due; ⟨k, look_off (Ne.symm n1) q⟩, L.isI, L.few, let ⟨k, q⟩ := L.lst; ⟨k, look_off (Ne.symm n2) q⟩, L.all.mono fun _ _ r => (let ⟨kk, e⟩ := r; ⟨kk, look_off (tup_lst e ha) e⟩), L.ne, L.ans⟩
theorem Ltd.hand (L : Ltd g σ d s ld lp dvs ps pl) {es : List DictEntry} {m : Nat} (hd : σ dx = some (dictOf es m)) (n1 : dx ≠ d) (K : Keep (· = dx) σ σ') : Ltd g σ' d s ld lp dvs ps pl :=
  ⟨let ⟨k, o, e, q⟩ := L.dic; ⟨k, o, K _ _ e (Ne.symm n1), q⟩, let ⟨k, q⟩ := L.due; ⟨k, K _ _ q (lst_ne q hd)⟩, L.isI, L.few, let ⟨k, q⟩ := L.lst; ⟨k, K _ _ q (lst_ne q hd)⟩, L.all.mono fun _ _ r => (let ⟨kk, e⟩ := r; ⟨kk, K _ _ e (tup_ne e hd)⟩), L.ne, L.ans⟩
def Own (x dx d ld lp hl : Addr) : Addr → Prop := fun b => b = x ∨ b = dx ∨ b = d ∨ b = ld ∨ b = lp ∨ b = hl
def HeldAt (σ : Store) (N : Addr → Prop) (a : Addr) : Prop := ∃ l1 l2 vs k1 k2, σ a = some (tupO [.ref l1, .ref l2]) ∧ σ l1 = some (lstO vs k1) ∧ σ l2 = some (lstO vs k2) ∧ ¬ N a ∧ ¬ N l1 ∧ ¬ N l2
theorem own_go (h : ¬ Own x dx d ld lp hl b) (e : σ b = some o) (q : lp' = lp ∨ σ lp' = none) (r : ld' = ld ∨ σ ld' = none) : ¬ Own x dx d ld' lp' hl b := by
  rintro (z | z | z | z | z | z)
  · exact h (.inl z)
  · exact h (.inr (.inl z))
  · exact h (.inr (.inr (.inl z)))
  · rcases r with q | q
    · exact h (.inr (.inr (.inr (.inl (z.trans q)))))
    · rw [z, q] at e; cases e
  · rcases q with q | q
    · exact h (.inr (.inr (.inr (.inr (.inl (z.trans q))))))
    · rw [z, q] at e; cases e
  · exact h (.inr (.inr (.inr (.inr (.inr z)))))
theorem HeldAt.go (h : HeldAt σ (Own x dx d ld lp hl) a) (K : Keep (Own x dx d ld lp hl) σ σ') (q : lp' = lp ∨ σ lp' = none) (r : ld' = ld ∨ σ ld' = none) : HeldAt σ' (Own x dx d ld' lp' hl) a :=
  let ⟨l1, l2, vs, k1, k2, e1, e2, e3, n1, n2, n3⟩ := h
  ⟨l1, l2, vs, k1, k2, K _ _ e1 n1, K _ _ e2 n2, K _ _ e3 n3, own_go n1 e1 q r, own_go n2 e2 q r, own_go n3 e3 q r⟩
theorem keep_later {D : Addr → Prop} (K : Keep D σ₀ σ) (h : σ₀ a = none) : Keep D σ₀ (upd σ a o) := fun b o' e n => by
  rw [upd_ne (fun q => by rw [q, h] at e; cases e)]
  exact K b o' e n
structure Ap (x dx d ld lp hl : Addr) : Prop where
  xd : x ≠ d
  xl : x ≠ ld
  xp : x ≠ lp
  xh : x ≠ hl
  yd : dx ≠ d
  yl : dx ≠ ld
  yp : dx ≠ lp
  yh : dx ≠ hl
  dh : d ≠ hl
  lh : ld ≠ hl
  ph : lp ≠ hl
structure S02 (g : Pg) (C : Addr) (x dx d hl : Addr) (σ : Store) (h : Hnd) (s : LSt) (ld lp : Addr) (n : Nat) : Prop where
  L : ∃ dvs ps pl, Ltd g σ d s ld lp dvs ps pl ∧ pl.length ≤ n
  H : HandAt g.w.params C σ x dx h
  S : Sim h s
  nn : 0 ≤ s.num
  low : s.stage ≤ n
  A : Ap x dx d ld lp hl
  held : ∃ (as : List Addr) (kh : Nat), σ hl = some (lstO (as.map .ref) kh) ∧ as.length ≤ n ∧ ∀ a ∈ as, HeldAt σ (Own x dx d ld lp hl) a
theorem S02.sub (I : S02 g C x dx d hl σ h s ld lp n) (q : Sub σ σ') : S02 g C x dx d hl σ' h s ld lp n :=
  ⟨let ⟨dvs, ps, pl, L, z⟩ := I.L; ⟨dvs, ps, pl, L.sub q, z⟩, I.H.sub q, I.S, I.nn, I.low, I.A, let ⟨as, kh, e, z, r⟩ := I.held; ⟨as, kh, q _ _ e, z, fun a ha => (r a ha).go (Keep.of_sub q) (.inl rfl) (.inl rfl)⟩⟩
theorem S02.fresh (I : S02 g C x dx d hl σ h s ld lp n) (h0 : σ a = none) : ¬ Own x dx d ld lp hl a := by
  obtain ⟨dvs, ps, pl, L, _⟩ := I.L
  obtain ⟨k, o, e, _⟩ := L.dic
  obtain ⟨_, e1⟩ := L.due
  obtain ⟨_, e2⟩ := L.lst
  obtain ⟨_, e3, e4⟩ := I.H
  obtain ⟨_, _, e5, _⟩ := I.held
  rintro (rfl | rfl | rfl | rfl | rfl | rfl)
  · rw [h0] at e3; cases e3
  · rw [h0] at e4; cases e4
  · rw [h0] at e; cases e
  · rw [h0] at e1; cases e1
  · rw [h0] at e2; cases e2
  · rw [h0] at e5; cases e5
/-- behind a letter made -/
theorem S02.letter (I : S02 g C x dx d hl σ h s ld lp n) {s' : LSt} {dvs' : List Value} {ps' : List Addr} {pl' : List Ltr} (L : Ltd g σ' d s' ld lp' dvs' ps' pl') (z : pl'.length ≤ n) (hs : s' = s ∨ s' = { s with around := false }) (q : lp' = lp ∨ σ lp' = none) (K : Keep (DLP d ld lp) σ σ') :
    S02 g C x dx d hl σ' h s' ld lp' n := by
  obtain ⟨k, ex, ey⟩ := I.H
  obtain ⟨as, kh, eh, zh, r⟩ := I.held
  have A := I.A
  have nx : ¬ DLP d ld lp x := fun q => q.elim A.xd fun q => q.elim A.xl A.xp
  have ny : ¬ DLP d ld lp dx := fun q => q.elim A.yd fun q => q.elim A.yl A.yp
  have nh : ¬ DLP d ld lp hl := fun q => q.elim (Ne.symm A.dh) fun q => q.elim (Ne.symm A.lh) (Ne.symm A.ph)
  have K' : Keep (Own x dx d ld lp hl) σ σ' := K.wide fun b z => z.elim (fun z => .inr (.inr (.inl z))) fun z => z.elim (fun z => .inr (.inr (.inr (.inl z)))) fun z => .inr (.inr (.inr (.inr (.inl z))))
  have ne : ∀ {b : Addr} {o : Obj}, b ≠ lp → σ b = some o → b ≠ lp' := fun n e => by
    rcases q with q | q
    · rw [q]; exact n
    · exact fun z => by rw [z, q] at e; cases e
  refine ⟨⟨dvs', ps', pl', L, z⟩, ⟨k, K _ _ ex nx, K _ _ ey ny⟩, ?_, ?_, ?_, ⟨A.xd, A.xl, ne A.xp ex, A.xh, A.yd, A.yl, ne A.yp ey, A.yh, A.dh, A.lh, Ne.symm (ne (Ne.symm A.ph) eh)⟩, as, kh, K _ _ eh nh, zh, fun a ha => (r a ha).go K' q (.inl rfl)⟩
  · rcases hs with rfl | rfl
    · exact I.S
    · exact I.S.off
  · rcases hs with rfl | rfl
    · exact I.nn
    · exact I.nn
  · rcases hs with rfl | rfl
    · exact I.low
    · exact I.low
/-- behind a new list of what is due -/
theorem S02.due (I : S02 g C x dx d hl σ h s ld lp n) (q : σ ld' = none) {o₁ o₂ : Obj} {t u : Tok} {k : Nat → Tok} {x₁ x₂ : Int} (e : o₁ = lstO [.int x₁ t, .int x₂ u] 0) (hd : DicAt g (upd (upd σ ld' o₁) d o₂) d (stD s ld' lp k)) : S02 g C x dx d hl (upd (upd σ ld' o₁) d o₂) h s ld' lp n := by
  obtain ⟨dvs, ps, pl, L, z⟩ := I.L
  obtain ⟨k, ex, ey⟩ := I.H
  obtain ⟨as, kh, eh, zh, r⟩ := I.held
  obtain ⟨kp, ep⟩ := L.lst
  obtain ⟨kd, od, ed, hod⟩ := L.dic
  have A := I.A
  have ne : ∀ {b : Addr} {o : Obj}, σ b = some o → b ≠ ld' := fun e z => by rw [z, q] at e; cases e
  have up : ∀ {b : Addr} {o : Obj}, σ b = some o → b ≠ d → upd (upd σ ld' o₁) d o₂ b = some o := fun e n => look_off n (look_new q e)
  have K' : Keep (Own x dx d ld lp hl) σ (upd (upd σ ld' o₁) d o₂) := (Keep.refl.upd (.inr q)).upd (.inl (.inr (.inr (.inl rfl))))
  have npd : lp ≠ d := dic_lst ⟨od, ed, hod⟩ ep
  refine ⟨⟨[.int x₁ t, .int x₂ u], ps, pl, ⟨⟨_, hd⟩, ⟨0, look_off (Ne.symm (ne ed)) (by rw [e]; exact upd_same)⟩, ?_, Nat.le_refl _, ⟨kp, up ep npd⟩, L.all.mono fun _ _ r => (let ⟨kk, e⟩ := r; ⟨kk, up e (dic_tup ⟨od, ed, hod⟩ e)⟩), Ne.symm (ne ep), L.ans⟩, z⟩, ⟨k, up ex A.xd, up ey A.yd⟩, I.S, I.nn, I.low, ⟨A.xd, ne ex, A.xp, A.xh, A.yd, ne ey, A.yp, A.yh, A.dh, Ne.symm (ne eh), A.ph⟩, as, kh, up eh (Ne.symm A.dh), zh, fun a ha => (r a ha).go K' (.inl rfl) (.inr q)⟩
  intro v hv
  rcases List.mem_cons.mp hv with rfl | hv
  · exact ⟨_, _, rfl⟩
  · rw [List.mem_singleton.mp hv]; exact ⟨_, _, rfl⟩
/-- a list was held, with its copy -/
theorem S02.hold (A : Ap x dx d ld lp hl) (L : Ltd g σ d s ld lp dvs ps pl) (hpl : pl.length ≤ n + 1) (H : HandAt g.w.params C σ x dx h) (S : Sim h s) (nn : 0 ≤ s.num) (low : s.stage ≤ n + 1) {kh : Nat} (hh : σ hl = some (lstO (as.map .ref) kh)) (hz : as.length ≤ n)
    (hs : ∀ a ∈ as, HeldAt σ₀ (Own x dx d ld lp hl) a) (K : Keep (Own x dx d ld lp hl) σ₀ σ) (h0 : σ₀ la = none) (nl : ¬ Own x dx d ld lp hl la) {vs ws : List Value} {k1 k2 k3 k4 : Nat} (hla : σ la = some (lstO vs k1))
    (hlc : upd σ la (lstO ws k2) lc = none) (htp : upd (upd σ la (lstO ws k2)) lc (lstO ws k3) tp = none) : S02 g C x dx d hl (upd (upd (upd (upd σ la (lstO ws k2)) lc (lstO ws k3)) tp (tupO [.ref la, .ref lc])) hl (lstO (as.map .ref ++ [.ref tp]) k4)) h s ld lp (n + 1) := by
  have n1 : la ≠ x := fun q => nl (.inl q)
  have n2 : la ≠ dx := fun q => nl (.inr (.inl q))
  have n3 : la ≠ d := fun q => nl (.inr (.inr (.inl q)))
  have n4 : la ≠ ld := fun q => nl (.inr (.inr (.inr (.inl q))))
  have n5 : la ≠ lp := fun q => nl (.inr (.inr (.inr (.inr (.inl q)))))
  have n6 : la ≠ hl := fun q => nl (.inr (.inr (.inr (.inr (.inr q)))))
  have L1 : Ltd g (upd σ la (lstO ws k2)) d s ld lp dvs ps pl := L.off n4 n5 hla
  have s2 := (sub_upd (o := lstO ws k3) hlc).trans (sub_upd (o := tupO [.ref la, .ref lc]) htp)
  have hh1 : upd σ la (lstO ws k2) hl = some (lstO (as.map .ref) kh) := look_off (Ne.symm n6) hh
  have hh2 := s2 _ _ hh1
  have la1 : upd σ la (lstO ws k2) la = some (lstO ws k2) := upd_same
  have lc2 : upd (upd σ la (lstO ws k2)) lc (lstO ws k3) lc = some (lstO ws k3) := upd_same
  have lc3 : upd (upd (upd σ la (lstO ws k2)) lc (lstO ws k3)) tp (tupO [.ref la, .ref lc]) lc = some (lstO ws k3) := look_new htp lc2
  have tp3 : upd (upd (upd σ la (lstO ws k2)) lc (lstO ws k3)) tp (tupO [.ref la, .ref lc]) tp = some (tupO [.ref la, .ref lc]) := upd_same
  have ncl : lc ≠ hl := fun q => by rw [q, hh1] at hlc; cases hlc
  have nth : tp ≠ hl := fun q => by rw [q, look_new hlc hh1] at htp; cases htp
  obtain ⟨kk, ex, ey⟩ := H
  have x1 := s2 _ _ (look_off (o' := lstO ws k2) (Ne.symm n1) ex)
  have y1 := s2 _ _ (look_off (o' := lstO ws k2) (Ne.symm n2) ey)
  have L3 := (L1.sub s2).off (o := lstO (as.map .ref ++ [.ref tp]) k4) (Ne.symm A.lh) (Ne.symm A.ph) hh2
  have K4 : Keep (Own x dx d ld lp hl) σ₀ (upd (upd (upd (upd σ la (lstO ws k2)) lc (lstO ws k3)) tp (tupO [.ref la, .ref lc])) hl (lstO (as.map .ref ++ [.ref tp]) k4)) :=
    (((keep_later K h0).upd (.inr hlc)).upd (.inr htp)).upd (.inl (.inr (.inr (.inr (.inr (.inr rfl))))))
  have own : ∀ {b : Addr}, upd σ la (lstO ws k2) b = none → ¬ Own x dx d ld lp hl b := by
    intro b hb
    obtain ⟨k, o, e, _⟩ := L1.dic
    obtain ⟨_, e1⟩ := L1.due
    obtain ⟨_, e2⟩ := L1.lst
    rintro (rfl | rfl | rfl | rfl | rfl | rfl)
    · rw [look_off (Ne.symm n1) ex] at hb; cases hb
    · rw [look_off (Ne.symm n2) ey] at hb; cases hb
    · rw [hb] at e; cases e
    · rw [hb] at e1; cases e1
    · rw [hb] at e2; cases e2
    · rw [hh1] at hb; cases hb
  refine ⟨⟨dvs, ps, pl, L3, hpl⟩, ⟨kk, look_off A.xh x1, look_off A.yh y1⟩, S, nn, low, A, as ++ [tp], k4, by rw [List.map_append]; exact upd_same, by rw [List.length_append]; show _ + 1 ≤ _; omega, fun a ha => ?_⟩
  rcases List.mem_append.mp ha with ha | ha
  · exact (hs a ha).go K4 (.inl rfl) (.inl rfl)
  · rw [List.mem_singleton.mp ha]
    exact ⟨la, lc, ws, k2, k3, look_off nth tp3, look_off n6 (s2 _ _ la1), look_off ncl lc3, own (upd_none htp), nl, own hlc⟩
end
section
variable {g : Pg} {σ : Store} {s : LSt} {d ld lp x dx hl : Addr} {h : Hnd} {n : Nat}
theorem step_ok (hK : g.K = heap g.w.params) (I : S02 g 101 x dx d hl σ h s ld lp n) (hn : n ≤ 90) {a b : Int} {t u : Tok} :
    Fn g 4 (.ref 199) [.ref x, .ref d, .int a t, .int b u, .ref hl] σ (fun v σ' => v = .bool true ∧ ∃ h' s' ld' lp', S02 g 101 x dx d hl σ' h' s' ld' lp' (n + 1)) NoE := by
  have low := I.low
  have A := I.A
  refine' fn_body [(Str.ofString "_law_hand", .ref x), (Str.ofString "_law_state", .ref d), (Str.ofString "_law_cell", .int a t), (Str.ofString "_law_more", .int b u), (Str.ofString "_law_held", .ref hl)] ?k6 ?k7 ?k9 ?kB ?c5 ?c2 ?c3 ?c4 ?_
  walk_at "enter"
  intro c m hg G hsc hcl hin hm
  have m1 : m (Str.ofString "_law_hand") = some (.ref x) := by rw [hm]; rfl
  have m2 : m (Str.ofString "_law_state") = some (.ref d) := by rw [hm]; rfl
  have m3 : m (Str.ofString "_law_cell") = some (.int a t) := by rw [hm]; rfl
  have m4 : m (Str.ofString "_law_more") = some (.int b u) := by rw [hm]; rfl
  have m5 : m (Str.ofString "_law_held") = some (.ref hl) := by rw [hm]; rfl
  clear hm
  subst hg
  show W c (execs (_ :: _) c.env) _ _ _ _
  obtain ⟨dvs, ps, pl, L, hpl⟩ := I.L
  obtain ⟨k, hd⟩ := L.dic
  obtain ⟨kh0, hx, hdx⟩ := id I.H
  obtain ⟨as0, kh, hh, hz, hs⟩ := I.held
  repeat walk_at "u"
  refine x_if_cut (fun m' σ' => (∃ h' s' lp', S02 c.g 101 x dx d hl σ' h' s' ld lp' (n + 1)) ∧ m' (Str.ofString "_law_state") = some (.ref d) ∧ (∃ b0 tb, m' (Str.ofString "_law_before") = some (.int b0 tb)) ∧ ∃ bs, m' (Str.ofString "_law_slept") = some (.bool bs)) ?_ ?_
  · repeat walk_at "u"
    refine br_any (fun q1 => ?_) fun q1 => ?_
    · repeat walk_at "u"
      refine w_fn G (by decide) (m_wake hK I.H) (fun v σ1 q => ?_) fun _ _ q => q.elim
      obtain ⟨la, as, kl, rfl, hla0, hla, al, H1, K1⟩ := q
      obtain ⟨S1, e1, a1⟩ := I.S.woken
      obtain ⟨w1, w2⟩ := woken_facts s
      have wl := woken_len s
      rw [e1] at al
      have L1 := L.hand hdx A.yd K1
      obtain ⟨k1, hd1⟩ := L1.dic
      repeat walk_at "u"
      walk_at "s"
      repeat walk_at "u"
      refine w_fn G (by decide) (woken_ok hK hd1 (by omega)) (fun v σ2 q => ?_) fun _ _ q => q.elim
      obtain ⟨⟨k2, hd2⟩, lb, bs, kb, rfl, hlb0, hlb, bl, K2⟩ := q
      have hla2 := K2 _ _ hla (dic_lst hd1 hla)
      have al2 : All2 (LtrAt σ2) as s.woken.2 := al.mono fun _ _ r => (let ⟨kk, e⟩ := r; ⟨kk, K2 _ _ e (dic_tup hd1 e)⟩)
      repeat walk_at "u"
      refine w_fn G (by decide) (letters_ok hK hla2 hlb al2 bl (by omega)) (fun v σ3 q => ?_) fun _ _ q => q.elim
      obtain ⟨rfl, rfl⟩ := q
      have L2 := L1.woke K2 hd2 w1
      have H2 : HandAt c.g.w.params 101 σ3 x dx h.wake.1 := let ⟨kk, e, f⟩ := H1; ⟨kk, K2 _ _ e A.xd, K2 _ _ f A.yd⟩
      have hh2 := K2 _ _ (K1 _ _ hh (Ne.symm A.yh)) (Ne.symm A.dh)
      have K3 : Keep (Own x dx d ld lp hl) σ σ3 := (K1.wide fun b q => .inr (.inl q)).trans (K2.wide fun b q => .inr (.inr (.inl q)))
      have nla := I.fresh hla0
      have alen := al.len
      repeat walk_at "u"
      rename_i y1 y2 y3 y4 y5 ta hta
      refine w_append (look_new hta hla2) (by rw [sizeLine_eq, List.length_map]; omega) ?_
      have zc : (as.map Value.ref ++ [Value.ref ta]).length ≤ sizeLine := by rw [sizeLine_eq, List.length_append, List.length_map]; show _ + 1 ≤ _; omega
      have hh4 := look_off (o' := lstO (as.map Value.ref ++ [Value.ref ta]) (kl + 1)) (fun q => nla (.inr (.inr (.inr (.inr (.inr q.symm)))))) (look_new (o' := tupO [Value.int 1 y1, Value.str (Str.ofString "ask") y2, Value.int 0 y3, Value.int 0 y4, Value.int 1 y5]) hta hh2)
      repeat walk_at "u"
      rename_i lc kc hlc tp htp
      refine w_append (look_new htp (look_new hlc hh4)) (by rw [sizeLine_eq, List.length_map]; omega) ?_
      repeat walk_at "u"
      exact ⟨⟨h.wake.1, s.woken.1, lp, S02.hold A (L2.sub (sub_upd hta)) (by omega) (H2.sub (sub_upd hta)) S1 (by rw [w1]; exact I.nn) (by rw [w2]; omega) (look_new hta hh2) hz hs (K3.trans (Keep.of_sub (sub_upd hta))) hla0 nla (look_new hta hla2) hlc htp⟩, by walk_at "m", ⟨_, _, by walk_at "m"⟩, _, by walk_at "m"⟩
    · repeat walk_at "u"
      refine w_fn G (by decide) (letter_ok hK L I.nn (by omega)) (fun v σ1 q => ?_) fun _ _ q => q.elim
      obtain ⟨al, l, s1, lp1, dvs1, ps1, pl1, rfl, hal, hF, hst, L1, hpl1, hs1, hlp1, K1⟩ := q
      have I1 := I.letter L1 (by omega) hs1 hlp1 K1
      have A1 := I1.A
      have low1 := I1.low
      obtain ⟨kx1, hx1, hdx1⟩ := id I1.H
      obtain ⟨as1, kh1, hh1, hz1, hs1'⟩ := I1.held
      repeat walk_at "u"
      refine w_fn G (by decide) (m_take hK I1.H hal) (fun v σ2 q => ?_) fun _ _ q => q.elim
      obtain ⟨la, as, kl, rfl, hla0, hla, alt, H2, K2⟩ := q
      obtain ⟨S2, e2⟩ := I1.S.taken hF
      obtain ⟨f1, f2, f3, f4, f5⟩ := taken_facts hF
      rw [e2] at alt
      have L2 := L1.hand hdx1 A1.yd K2
      obtain ⟨k2, hd2⟩ := L2.dic
      obtain ⟨kp2, hp2⟩ := L2.lst
      obtain ⟨kdu2, hdu2⟩ := L2.due
      have hal2 : LtrAt σ2 al l := let ⟨kk, e⟩ := hal; ⟨kk, K2 _ _ e (tup_ne e hdx1)⟩
      repeat walk_at "u"
      walk_at "s"
      repeat walk_at "u"
      refine w_fn G (by decide) (taken_ok hK hd2 (by omega) hal2 hst hF.ask hp2 L2.all (by omega)) (fun v σ3 q => ?_) fun _ _ q => q.elim
      obtain ⟨⟨k3, hd3⟩, ⟨ps3, kp3, hp3, ap3⟩, lb, bs, kb, rfl, hlb0, hlb, bl, K3⟩ := q
      have nla := I1.fresh hla0
      have nlp : la ≠ lp1 := fun q => nla (.inr (.inr (.inr (.inr (.inl q)))))
      have hla3 := K3 _ _ hla (fun q => q.elim (dic_lst hd2 hla) nlp)
      have alt3 := ltrs_keep hd2 hp2 K3 alt
      have alen := alt.len
      repeat walk_at "u"
      refine w_fn G (by decide) (letters_ok hK hla3 hlb alt3 bl (by omega)) (fun v σ4 q => ?_) fun _ _ q => q.elim
      obtain ⟨rfl, rfl⟩ := q
      have L3 : Ltd c.g σ4 d (s1.taken l).1 ld lp1 dvs1 ps3 (pl1 ++ (s1.taken l).2.1) := ⟨⟨k3, hd3⟩, ⟨kdu2, K3 _ _ hdu2 (fun q => q.elim (dic_lst hd2 hdu2) L2.ne)⟩, L2.isI, L2.few, ⟨kp3, hp3⟩, ap3, L2.ne, fun q hq => by
        rcases List.mem_append.mp hq with hq | hq
        · obtain ⟨g1, g2, g3⟩ := L1.ans q hq
          exact ⟨g1, by rw [f1]; exact g2, g3⟩
        · obtain ⟨g1, g2, g3⟩ := f4 q hq
          exact ⟨g1, by rw [f1]; exact g2, by omega⟩⟩
      have H3 : HandAt c.g.w.params 101 σ4 x dx (h.take l).1 := let ⟨kk, e, f⟩ := H2; ⟨kk, K3 _ _ e (fun q => q.elim A1.xd A1.xp), K3 _ _ f (fun q => q.elim A1.yd A1.yp)⟩
      have hh3 := K3 _ _ (K2 _ _ hh1 (Ne.symm A1.yh)) (fun q => q.elim (Ne.symm A1.dh) (Ne.symm A1.ph))
      have K4 : Keep (Own x dx d ld lp1 hl) σ1 σ4 := (K2.wide fun b q => .inr (.inl q)).trans (K3.wide fun b q => q.elim (fun q => .inr (.inr (.inl q))) fun q => .inr (.inr (.inr (.inr (.inl q)))))
      have hlen : (pl1 ++ (s1.taken l).2.1).length ≤ n + 1 := by rw [List.length_append]; omega
      repeat walk_at "u"
      refine w_append hla3 (by rw [sizeLine_eq, List.length_map]; omega) ?_
      have zc : (as.map Value.ref ++ [Value.ref al]).length ≤ sizeLine := by rw [sizeLine_eq, List.length_append, List.length_map]; show _ + 1 ≤ _; omega
      have hh5 := look_off (o' := lstO (as.map Value.ref ++ [Value.ref al]) (kl + 1)) (fun q => nla (.inr (.inr (.inr (.inr (.inr q.symm)))))) hh3
      repeat walk_at "u"
      rename_i lc kc hlc tp htp
      refine w_append (look_new htp (look_new hlc hh5)) (by rw [sizeLine_eq, List.length_map]; omega) ?_
      repeat walk_at "u"
      exact ⟨⟨(h.take l).1, (s1.taken l).1, lp1, S02.hold A1 L3 hlen H3 S2 (by rw [f1]; exact I1.nn) (by omega) hh3 hz1 hs1' K4 hla0 nla hla3 hlc htp⟩, by walk_at "m", ⟨_, _, by walk_at "m"⟩, _, by walk_at "m"⟩
  · rintro m' σ' ⟨⟨h', s', lp', I'⟩, n1, ⟨b0, tb, n2⟩, bs, n3⟩
    obtain ⟨dvs', ps', pl', L', hpl'⟩ := I'.L
    obtain ⟨k', hd'⟩ := L'.dic
    refine x_if_cut (fun m'' σ'' => ∃ ld', S02 c.g 101 x dx d hl σ'' h' s' ld' lp' (n + 1)) ?_ ?_
    · repeat' (first | exact ⟨_, I'⟩ | exact ⟨_, I'.due (by assumption) rfl (by assumption)⟩ | (refine br_any (fun _ => ?_) (fun _ => ?_)) | walk_at "u")
    · rintro m'' σ'' ⟨ld', I''⟩
      repeat walk_at "u"
      exact ⟨rfl, h', s', ld', lp', I''⟩
end
section
variable {g : Pg} {σ : Store}
theorem start_ok (hK : g.K = heap g.w.params) {a : Int} {t : Tok} : Fn g 1 (.ref 140) [.int a t] σ (fun v σ' => ∃ d k, v = .ref d ∧ σ d = none ∧ DicAt g σ' d (st7 { num := a } k) ∧ Sub σ σ') NoE := by
  refine' fn_body [(Str.ofString "_law_number_here", .int a t)] ?k6 ?k7 ?k9 ?kB ?c5 ?c2 ?c3 ?c4 ?_
  walk_at "enter"
  intro c m hg G hsc hcl hin hm
  have m1 : m (Str.ofString "_law_number_here") = some (.int a t) := by rw [hm]; rfl
  clear hm
  subst hg
  show W c (execs (_ :: _) c.env) _ _ _ _
  repeat walk_at "u"
  refine w_dictS rfl rfl (fun q => nomatch q) (Nat.le_of_ble_eq_true rfl) ?_
  refine w_pairs ?_
  repeat walk_at "u"
  refine w_pairs ?_
  repeat walk_at "u"
  refine w_pairs ?_
  repeat walk_at "u"
  refine w_pairs ?_
  repeat walk_at "u"
  refine w_pairs_nil ?_
  refine ⟨[(Str.ofString "number", .int a t), (Str.ofString "awake", .bool false), (Str.ofString "beaten", .bool false), (Str.ofString "first", .bool false)], ⟨rfl, rfl, rfl, rfl, rfl, rfl, rfl, rfl, trivial⟩, fun d o hd0 ho => ?_⟩
  repeat walk_at "u"
  refine w_dset (DicAt.new ho) (by rw [sizeLine_eq]; exact Nat.le_of_ble_eq_true rfl) fun o1 h1 => ?_
  repeat walk_at "u"
  refine w_dset (DicAt.new h1) (by rw [sizeLine_eq]; exact Nat.le_of_ble_eq_true rfl) fun o2 h2 => ?_
  repeat walk_at "u"
  refine w_dset (DicAt.new h2) (by rw [sizeLine_eq]; exact Nat.le_of_ble_eq_true rfl) fun o3 h3 => ?_
  repeat walk_at "u"
  rename_i y1 y2 y3 y4 ts y5 tc y6 y7
  exact ⟨d, fun i => [t, ts, tc, 0].getD i 0, rfl, hd0, DicAt.new h3, fun b q e => have n := new_ne e hd0; look_off n (look_off n (look_off n (look_off n e)))⟩
end
theorem law_holds : PySem.Challenge.rw_uf060019_02.Holds := by
  refine holds_law (by decide +kernel) fun said => ?_
  refine holds_open (q := view) (loose := []) (Xt := fun s => xlAt view [] s && recOk [] s) (XP := XL view []) (Yf := Hook.obs hook) (Ya := Hook.val hook) (YP := Hook.says hook) top_runs (Hook.of hook) (Hook.keeps hook) (fun s e => xl_of s (Bool.and_eq_true_iff.mp e).1) XL.keeps (by rfl) (by rfl) (by rfl) (fun s e => recFacts_of (Bool.and_eq_true_iff.mp e).2) (by rfl) (by first | assumption | decide +kernel) (by decide +kernel) ⟨rfl, rfl, rfl, rfl, rfl, by decide +kernel⟩ ?hw ?hc
  (case hw => w_witness2)
  intro w s₀ s₁ mg mb G Y fa o pm cd doc dV kV ho hd hcd hD hmg hg args vals as hpre hlay hrd hwl hlo
  have KX := kIn_of Y
  refine Ground.open G ?_
  intro T B D TE TW
  wrow_args hpre hlay hrd hwl hlo
  refine enter_call ?_
  rename_i ns _ _ _ _ _ _ _ l vs _ hL _ _ _ hI _ hc _
  have hdV : dV = .none := by
    rcases hD.pos with q | q
    · exact q.2
    · exact absurd rfl q.1
  have hkV : kV = .none := by
    rcases hD.kw with q | q
    · exact q.2
    · exact absurd rfl q.1
  subst hdV hkV
  have h63 : ns.length ≤ 63 := by omega
  refine codeAny_mono (top_call (g := ⟨_, w, heap w.params, _, _, _, mg, mb, l, vs, s₁.heap⟩) (binds := [(Str.ofString "_law_script", .ref l)]) T KX hL rfl ho hd hcd rfl rfl (of_decide_eq_true rfl) (of_decide_eq_true rfl) rfl rfl rfl ?_) (fun r s' q => ?_)
  rotate_left
  · obtain ⟨rfl, k1, k2, k3⟩ := q
    exact GoodW.toG (good_true PySem.Challenge.rw_uf060019_02 k1 k2 (k3.trans hg))
  intro c hg' G' hsc hcl hh0 hfrm
  have hK : c.g.K = heap c.g.w.params := by rw [hg']
  have hB : IntsAre c.g.bv ns := by rw [hg']; exact hI
  have hl' : l = c.g.bl := by rw [hg']
  have hblen := hB.length
  have hnd : (c.env.scope.names.map (·.1)).Nodup := by rw [hsc]; exact of_decide_eq_true rfl
  rw [hsc] at hnd
  have hin : interactive c.env = false := by unfold interactive; rw [hsc]; rfl
  dsimp only [docDef] at hsc hcl hnd ⊢
  generalize hm : (fun y => List.lookup y [(Str.ofString "_law_script", Value.ref l)].reverse) = m
  have m1 : m (Str.ofString "_law_script") = some (.ref c.g.bl) := by rw [← hm, ← hl']; rfl
  clear hm
  rename Gnd 300 c => G
  have hh1 : c.h₀ = c.g.h := by rw [hg']; exact hh0
  clear hg' hh0
  repeat walk_at "u"
  refine w_fn G (by decide) (cell_ok hK hB h63 (by decide)) (fun v σ' q => ?_) fun _ _ q => q.elim
  obtain ⟨⟨t1, rfl⟩, rfl⟩ := q
  generalize ns.getD (Int.toNat 0) 0 = fst
  have a1 : 0 ≤ fst.fmod 1000 := Int.fmod_nonneg_of_pos _ (by decide)
  repeat walk_at "u"
  refine x_if_cut (fun m' σ' => m' (Str.ofString "_law_script") = some (.ref c.g.bl) ∧ ∃ N t, m' (Str.ofString "_law_number_here") = some (.int N t) ∧ 0 ≤ N) ?_ ?_
  · repeat walk_at "u"
    refine w_fn G (by decide) (cell_ok hK hB h63 (by decide)) (fun v σ' q => ?_) fun _ _ q => q.elim
    obtain ⟨⟨t2, rfl⟩, rfl⟩ := q
    repeat walk_at "u"
    refine br_any (fun q1 => ?_) fun q1 => ?_
    · repeat walk_at "u"
      refine w_fn G (by decide) (cell_ok hK hB h63 (by decide)) (fun v σ' q => ?_) fun _ _ q => q.elim
      obtain ⟨⟨t3, rfl⟩, rfl⟩ := q
      repeat walk_at "u"
      exact ⟨by walk_at "m", _, _, by walk_at "m", Int.fmod_nonneg_of_pos _ (by decide +kernel)⟩
    · repeat walk_at "u"
      exact ⟨by walk_at "m", _, _, by walk_at "m", a1⟩
  rintro m' σ0 ⟨n1, N, tN, n2, hN⟩
  repeat walk_at "u"
  refine w_fn G (by decide) (mk_hand hK) (fun v σ1 q => ?_) fun _ _ q => q.elim
  obtain ⟨x, dx, rfl, hx0, hdx0, H1, s1⟩ := q
  repeat walk_at "u"
  refine w_fn G (by decide) (start_ok hK) (fun v σ2 q => ?_) fun _ _ q => q.elim
  obtain ⟨d, k, rfl, hd0, hd2, s2⟩ := q
  have H2 := H1.sub s2
  obtain ⟨kx1, ex1, ey1⟩ := id H1
  have nxd := new_ne ex1 hd0
  have nyd := new_ne ey1 hd0
  clear ex1 ey1 H1
  obtain ⟨kx2, ex2, ey2⟩ := id H2
  repeat walk_at "u"
  rename_i ld hld ty1
  have nld : ld ≠ d := fun q => by obtain ⟨o, e, _⟩ := hd2; rw [q, e] at hld; cases hld
  refine w_dset (DicAt.newer hld hd2) (by rw [sizeLine_eq]; exact Nat.le_of_ble_eq_true rfl) fun o1 h1 => ?_
  repeat walk_at "u"
  rename_i lp hlp ty2
  have hlp2 : upd σ2 ld (lstO [] 0) lp = none := upd_none hlp
  have nlp : lp ≠ d := fun q => by rw [q, upd_same] at hlp; cases hlp
  refine w_dset (DicAt.newer hlp (DicAt.new h1)) (by rw [sizeLine_eq]; exact Nat.le_of_ble_eq_true rfl) fun o2 h2 => ?_
  repeat walk_at "u"
  refine w_dset (DicAt.new h2) (by rw [sizeLine_eq]; exact Nat.le_of_ble_eq_true rfl) fun o3 h3 => ?_
  repeat walk_at "u"
  refine w_dset (DicAt.new h3) (by rw [sizeLine_eq]; exact Nat.le_of_ble_eq_true rfl) fun o4 h4 => ?_
  repeat walk_at "u"
  refine w_dset (DicAt.new h4) (by rw [sizeLine_eq]; exact Nat.le_of_ble_eq_true rfl) fun o5 h5 => ?_
  repeat walk_at "u"
  refine w_fn G (by decide) (cell_ok hK hB h63 (by decide)) (fun v σ' q => ?_) fun _ _ q => q.elim
  obtain ⟨⟨t4, rfl⟩, rfl⟩ := q
  repeat walk_at "u"
  generalize (ns.getD (Int.toNat 1) 0) = snd
  refine w_dset (DicAt.new h5) (by rw [sizeLine_eq]; exact Nat.le_of_ble_eq_true rfl) fun o6 h6 => ?_
  refine w_cut (fun τ => Ltd c.g τ d { num := N, most := N, seen := N, eager := ((snd.fdiv 40).fmod 4 == 1) } ld lp [] [] [] ∧ HandAt c.g.w.params 101 τ x dx { num := N }) ⟨?_, ?_⟩ ?_
  · have hlds : upd σ2 ld (lstO [] 0) ld = some (lstO [] 0) := upd_same
    exact ⟨⟨fun i => [k 0, k 1, k 2, k 3, tN, tN].getD i 0, DicAt.new h6⟩, ⟨0, look_off nld (look_off nld (look_off nld (look_off nld (look_off nld (look_new hlp (look_off nld hlds))))))⟩, fun v hv => absurd hv (by simp), Nat.zero_le _, ⟨0, look_off nlp (look_off nlp (look_off nlp (look_off nlp (look_off nlp upd_same))))⟩, .nil, new_ne (look_off nld hlds) hlp, fun l hl => absurd hl (by simp)⟩
  · exact ⟨kx2, look_off nxd (look_off nxd (look_off nxd (look_off nxd (look_off nxd (look_new hlp (look_off nxd (look_new hld ex2))))))), look_off nyd (look_off nyd (look_off nyd (look_off nyd (look_off nyd (look_new hlp (look_off nyd (look_new hld ey2)))))))⟩
  rintro τ ⟨L3, H3⟩
  have nxl := new_ne ex2 hld
  have nyl := new_ne ey2 hld
  have nxp := new_ne ex2 (upd_none hlp2)
  have nyp := new_ne ey2 (upd_none hlp2)
  clear h1 h2 h3 h4 h5 h6 hlp hlp2 hld hd2 H2 ex2 ey2
  obtain ⟨k3, hd3⟩ := L3.dic
  have S3 : Sim { num := N } { num := N, most := N, seen := N, eager := ((snd.fdiv 40).fmod 4 == 1) } := sim_start
  repeat walk_at "u"
  walk_at "s"
  repeat walk_at "u"
  refine w_fn G (by decide) (cell_ok hK hB h63 (by decide)) (fun v σ' q => ?_) fun _ _ q => q.elim
  obtain ⟨⟨t5, rfl⟩, rfl⟩ := q
  repeat walk_at "u"
  refine w_fn G (by decide) (stands_ok hK hd3 H3 S3) (fun v σ4 q => ?_) fun _ _ q => q.elim
  obtain ⟨rfl, s4⟩ := q
  have L4 := L3.sub s4
  have H4 := H3.sub s4
  repeat walk_at "u"
  rename_i hl hhl tz1 tz2 tz6 tz7 tz8
  have I0 : S02 c.g 101 x dx d hl (upd σ4 hl (lstO [] 0)) { num := N } { num := N, most := N, seen := N, eager := ((snd.fdiv 40).fmod 4 == 1) } ld lp 0 := by
    obtain ⟨kx4, ex4, ey4⟩ := id H4
    obtain ⟨k4, o4', ed4, _⟩ := L4.dic
    obtain ⟨_, el4⟩ := L4.due
    obtain ⟨_, ep4⟩ := L4.lst
    exact ⟨⟨[], [], [], L4.sub (sub_upd hhl), Nat.le_refl _⟩, H4.sub (sub_upd hhl), S3, hN, Nat.le_refl _, ⟨nxd, nxl, nxp, new_ne ex4 hhl, nyd, nyl, nyp, new_ne ey4 hhl, new_ne ed4 hhl, new_ne el4 hhl, new_ne ep4 hhl⟩, [], 0, upd_same, Nat.le_refl _, fun a ha => absurd ha (by simp)⟩
  generalize upd σ4 hl (lstO [] 0) = σ5 at I0
  refine w_range3 (by omega) (by omega) (by omega) (by omega) fun rg hrg => ?_
  refine turns_range2 G (kind_is hsc (by decide +kernel)) (nocell hcl) (fun j m' σ' => ((∃ h s ld lp, S02 c.g 101 x dx d hl σ' h s ld lp j) ∧ j ≤ 40) ∧ m' (Str.ofString "_law_script") = some (.ref c.g.bl) ∧ m' (Str.ofString "_law_hand") = some (.ref x) ∧ m' (Str.ofString "_law_state") = some (.ref d) ∧ m' (Str.ofString "_law_held") = some (.ref hl)) upd_same (by omega) (by omega) (by omega) (by omega) ?_ ?_ ?_
  · exact ⟨⟨⟨_, _, _, _, I0.sub (sub_upd hrg)⟩, Nat.zero_le _⟩, by walk_at "m", by walk_at "m", by walk_at "m", by walk_at "m"⟩
  · rintro j tj m₁ σ₁ hj ⟨⟨⟨h, s, ld', lp', I⟩, hj40⟩, p1, p2, p3, p4⟩
    obtain ⟨c1, u1, e1⟩ : ∃ x t, c.g.bv[(2 + (j : Int) * 2 : Int).toNat]? = some (Value.int x t) := by
      have hv : c.g.bv[(2 + (j : Int) * 2 : Int).toNat]? = some c.g.bv[(2 + (j : Int) * 2 : Int).toNat] := List.getElem?_eq_getElem (by omega)
      obtain ⟨x, t, _, e⟩ := ints_get hB hv
      exact ⟨x, t, by rw [hv, e]⟩
    obtain ⟨c2, u2, e2⟩ : ∃ x t, c.g.bv[(2 + (j : Int) * 2 + 1 : Int).toNat]? = some (Value.int x t) := by
      have hv : c.g.bv[(2 + (j : Int) * 2 + 1 : Int).toNat]? = some c.g.bv[(2 + (j : Int) * 2 + 1 : Int).toNat] := List.getElem?_eq_getElem (by omega)
      obtain ⟨x, t, _, e⟩ := ints_get hB hv
      exact ⟨x, t, by rw [hv, e]⟩
    repeat walk_at "u"
    refine w_item_base (v := .int c1 u1) G.base (by omega) (by omega) e1 ?_ (by with_unfolding_all rfl)
    repeat walk_at "u"
    refine w_item_base (v := .int c2 u2) G.base (by omega) (by omega) e2 ?_ (by with_unfolding_all rfl)
    repeat walk_at "u"
    walk_at "s"
    repeat walk_at "u"
    refine w_item_base (v := .int c1 u1) G.base (by omega) (by omega) e1 ?_ (by with_unfolding_all rfl)
    repeat walk_at "u"
    refine w_item_base (v := .int c2 u2) G.base (by omega) (by omega) e2 ?_ (by with_unfolding_all rfl)
    repeat walk_at "u"
    refine w_fn G (by decide) (step_ok hK I (by omega)) (fun v σ₂ q => ?_) fun _ _ q => q.elim
    obtain ⟨rfl, h', s', ld2, lp2, I'⟩ := q
    obtain ⟨dvs, ps, pl, L', _⟩ := I'.L
    obtain ⟨k', hd'⟩ := L'.dic
    repeat walk_at "u"
    refine w_fn G (by decide) (stands_ok hK hd' I'.H I'.S) (fun v σ₃ q => ?_) fun _ _ q => q.elim
    obtain ⟨rfl, s3⟩ := q
    repeat walk_at "u"
    exact ⟨⟨⟨h', s', ld2, lp2, I'.sub s3⟩, by omega⟩, by walk_at "m", by walk_at "m", by walk_at "m", by walk_at "m"⟩
  · rintro j m₁ σ₁ ⟨⟨⟨h, s, ld', lp', I⟩, hj40⟩, p1, p2, p3, p4⟩
    obtain ⟨dvs, ps, pl, L', _⟩ := I.L
    obtain ⟨k', hd'⟩ := L'.dic
    walk_at "s"
    repeat walk_at "u"
    refine w_fn G (by decide) (stands_ok hK hd' I.H I.S) (fun v σ₂ q => ?_) fun _ _ q => q.elim
    obtain ⟨rfl, s3⟩ := q
    repeat walk_at "u"
    refine w_fn G (by decide) (stands_ok hK (hd'.sub s3) (I.H.sub s3) I.S) (fun v σ₃ q => ?_) fun _ _ q => q.elim
    obtain ⟨rfl, s4⟩ := q
    have I4 := I.sub (s3.trans s4)
    obtain ⟨as, kh, hh, hz, hs⟩ := I4.held
    repeat walk_at "u"
    refine w_compT (allfree hsc hcl rfl) rfl (by decide +kernel) (fun _ => rfl) ?_
    repeat walk_at "u"
    refine comp_listT G (by decide +kernel) rfl (by decide +kernel) (fun _ ys _ => ys = []) (fun _ _ _ _ _ h => h) hh (by rw [sizeLine_eq, List.length_map]; omega) rfl ?_ ?_
    · intro i v hv e C oC mm τ ys CE sub τC hP hn hmm
      rw [List.getElem?_map, Option.map_eq_some_iff] at hv
      obtain ⟨pa, hpa, rfl⟩ := hv
      obtain ⟨l1, l2, vs, k1, k2, g1, g2, g3, _⟩ := hs pa (List.mem_of_getElem? hpa)
      have g4 := look_new (o' := oC) τC (sub _ _ g1)
      have g5 := look_new (o' := oC) τC (sub _ _ g2)
      have g6 := look_new (o' := oC) τC (sub _ _ g3)
      repeat walk_at "u"
      refine w_item_tup (j := 0) (v := .ref l1) g4 (by decide) (by decide) rfl rfl ?_ (by with_unfolding_all rfl)
      repeat walk_at "u"
      refine w_item_tup (j := 1) (v := .ref l2) g4 (by decide) (by decide) rfl rfl ?_ (by with_unfolding_all rfl)
      repeat walk_at "u"
      refine ne_same G g5 g6 ?_
      repeat walk_at "u"
      exact ⟨rfl, Sub.refl _, hP⟩
    · intro D τ ys kk hD1 hD2 s2 hP
      subst hP
      repeat walk_at "u"
      rfl
end Mine

theorem PySem.Challenge.cw_uf060019_02_holds : PySem.Challenge.rw_uf060019_02.Holds :=
  Mine.law_holds
