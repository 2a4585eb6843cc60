import PyProof.Rows.All
import Wide.All
import OpenK.AllK
import Wide.FinOn
import PySem.Challenge.RW_sa0607_01
open PySem PySem.W PyProof.Rows PySem.Spec PySem.Calls
set_option Elab.async false
set_option maxRecDepth 100000
set_option maxHeartbeats 1000000
set_option linter.unusedVariables false
set_option compiler.extract_closed false
set_option genSizeOf false
set_option genInjectivity false
namespace Mine
-- H0
section
set_option maxHeartbeats 8000000
/-! the text's defs, what the top leaves, and the top's run, once -/
structure Fd where
  name : Str
  params : Arguments
  body : List Stmt
  scope : Scope
def fdS : Stmt → Fd
  | .FunctionDef n a b _ _ _ s _ _ _ => ⟨n, a, b, s⟩
  | _ => ⟨"", ⟨[], [], none, [], [], none, []⟩, [], default⟩
def clsBody : Stmt → List Stmt
  | .ClassDef _ _ _ b .. => b
  | _ => []
def fdI (i : Nat) : Fd := fdS ((PySem.Challenge.pw_sa0607_01.main.body[i]?).getD (.Pass default))
def fdC (i : Nat) : Fd := fdS ((clsBody ((PySem.Challenge.pw_sa0607_01.main.body[1]?).getD (.Pass default)))[i]?.getD (.Pass default))
noncomputable section
def k3 (P : Params) : Obj := { cls := Value.type "dict", data := Data.dict #[{ hash := PyData.keyHash P (Str.ofString "__name__"), key := Value.str (Str.ofString "__name__") 165, val := Value.str (Str.ofString "law_sa0607_01") 263 }, { hash := PyData.keyHash P (Str.ofString "__doc__"), key := Value.str (Str.ofString "__doc__") 166, val := Value.none }, { hash := PyData.keyHash P (Str.ofString "__package__"), key := Value.str (Str.ofString "__package__") 167, val := Value.none }, { hash := PyData.keyHash P (Str.ofString "__loader__"), key := Value.str (Str.ofString "__loader__") 168, val := Value.builtin "__main__.__loader__#opaque" }, { hash := PyData.keyHash P (Str.ofString "__spec__"), key := Value.str (Str.ofString "__spec__") 169, val := Value.none }, { hash := PyData.keyHash P (Str.ofString "__annotations__"), key := Value.str (Str.ofString "__annotations__") 170, val := Value.ref 6 }, { hash := PyData.keyHash P (Str.ofString "__builtins__"), key := Value.str (Str.ofString "__builtins__") 171, val := Value.ref 4 }, { hash := PyData.keyHash P (Str.ofString "__file__"), key := Value.str (Str.ofString "__file__") 173, val := Value.str (Str.ofString "/claim/cut.py") 172 }, { hash := PyData.keyHash P (Str.ofString "__cached__"), key := Value.str (Str.ofString "__cached__") 174, val := Value.none }, { hash := PyData.keyHash P (Str.ofString "Pairs"), key := Value.str (Str.ofString "Pairs") 226, val := Value.ref 38 }, { hash := PyData.keyHash P (Str.ofString "is_refined_pointer"), key := Value.str (Str.ofString "is_refined_pointer") 235, val := Value.ref 49 }, { hash := PyData.keyHash P (Str.ofString "is_refined_value"), key := Value.str (Str.ofString "is_refined_value") 244, val := Value.ref 56 }, { hash := PyData.keyHash P (Str.ofString "are_refined"), key := Value.str (Str.ofString "are_refined") 250, val := Value.ref 61 }, { hash := PyData.keyHash P (Str.ofString "is_refined"), key := Value.str (Str.ofString "is_refined") 262, val := Value.ref 68 }, { hash := PyData.keyHash P (Str.ofString "_law_draw"), key := Value.str (Str.ofString "_law_draw") 274, val := Value.ref 75 }, { hash := PyData.keyHash P (Str.ofString "_law_one"), key := Value.str (Str.ofString "_law_one") 282, val := Value.ref 82 }, { hash := PyData.keyHash P (Str.ofString "_law_types"), key := Value.str (Str.ofString "_law_types") 297, val := Value.ref 89 }, { hash := PyData.keyHash P (Str.ofString "_law_leaf"), key := Value.str (Str.ofString "_law_leaf") 306, val := Value.ref 96 }, { hash := PyData.keyHash P (Str.ofString "_law_run"), key := Value.str (Str.ofString "_law_run") 312, val := Value.ref 101 }, { hash := PyData.keyHash P (Str.ofString "_law_changed"), key := Value.str (Str.ofString "_law_changed") 318, val := Value.ref 106 }, { hash := PyData.keyHash P (Str.ofString "_law_taken"), key := Value.str (Str.ofString "_law_taken") 328, val := Value.ref 113 }, { hash := PyData.keyHash P (Str.ofString "_law_built"), key := Value.str (Str.ofString "_law_built") 346, val := Value.ref 120 }, { hash := PyData.keyHash P (Str.ofString "_law_may_stand"), key := Value.str (Str.ofString "_law_may_stand") 352, val := Value.ref 125 }, { hash := PyData.keyHash P (Str.ofString "_law_plain"), key := Value.str (Str.ofString "_law_plain") 362, val := Value.ref 132 }, { hash := PyData.keyHash P (Str.ofString "law"), key := Value.str (Str.ofString "law") 368, val := Value.ref 137 }] 25 }
def k27 : Obj := { cls := Value.type "code", data := Data.fields #[Value.str (Str.ofString "__init__") 201, Value.str (Str.ofString "Pairs.__init__") 202, Value.str (Str.ofString "/claim/cut.py") 203, Value.int 4 0, Value.int 1 0, Value.int 0 0, Value.int 0 0, Value.int 3 0, Value.ref 22, Value.bool true, Value.int 181 0, Value.ref 23, Value.none, Value.ref 24, Value.ref 25, Value.ref 26, Value.int 205 0, Value.int 4 0, Value.str (Str.ofString "/claim/cut.py") 206] }
def k28 : Obj := { cls := Value.type "function", data := Data.func { name := Str.ofString "__init__", qualname := Str.ofString "Pairs.__init__", params := (fdC 0).params, body := FuncBody.stmts (fdC 0).body, scope := (fdC 0).scope, globals := 3, closure := [], defaults := Value.none, kwdefaults := Value.none, pyModule := Value.str (Str.ofString "ssamill.judge") 187, code := Value.ref 27 } }
def k34 : Obj := { cls := Value.type "code", data := Data.fields #[Value.str (Str.ofString "are_one") 208, Value.str (Str.ofString "Pairs.are_one") 209, Value.str (Str.ofString "/claim/cut.py") 210, Value.int 8 0, Value.int 3 0, Value.int 0 0, Value.int 0 0, Value.int 3 0, Value.ref 29, Value.bool true, Value.int 181 0, Value.ref 30, Value.none, Value.ref 31, Value.ref 32, Value.ref 33, Value.int 214 0, Value.int 8 0, Value.str (Str.ofString "/claim/cut.py") 215] }
def k35 : Obj := { cls := Value.type "function", data := Data.func { name := Str.ofString "are_one", qualname := Str.ofString "Pairs.are_one", params := (fdC 1).params, body := FuncBody.stmts (fdC 1).body, scope := (fdC 1).scope, globals := 3, closure := [], defaults := Value.none, kwdefaults := Value.none, pyModule := Value.str (Str.ofString "ssamill.judge") 187, code := Value.ref 34 } }
def k37 (P : Params) : Obj := { cls := Value.type "dict", data := Data.dict #[{ hash := PyData.keyHash P (Str.ofString "__module__"), key := Value.str (Str.ofString "__module__") 196, val := Value.str (Str.ofString "ssamill.judge") 187 }, { hash := PyData.keyHash P (Str.ofString "__firstlineno__"), key := Value.str (Str.ofString "__firstlineno__") 200, val := Value.int 2 199 }, { hash := PyData.keyHash P (Str.ofString "__init__"), key := Value.str (Str.ofString "__init__") 207, val := Value.ref 28 }, { hash := PyData.keyHash P (Str.ofString "are_one"), key := Value.str (Str.ofString "are_one") 216, val := Value.ref 35 }, { hash := PyData.keyHash P (Str.ofString "__static_attributes__"), key := Value.str (Str.ofString "__static_attributes__") 219, val := Value.ref 36 }, { hash := PyData.keyHash P (Str.ofString "__dict__"), key := Value.str (Str.ofString "__dict__") 221, val := Value.ref 39 }, { hash := PyData.keyHash P (Str.ofString "__weakref__"), key := Value.str (Str.ofString "__weakref__") 223, val := Value.ref 40 }, { hash := PyData.keyHash P (Str.ofString "__doc__"), key := Value.str (Str.ofString "__doc__") 224, val := Value.none }] 4 }
def k38 : Obj := { cls := Value.type "type", data := Data.cls { name := Str.ofString "Pairs", bases := [Value.type "object"], mro := [Value.ref 38, Value.type "object"], ns := 37, qualname := Str.ofString "Pairs" }, slots := #[none, none, some (Value.str (Str.ofString "Pairs") 189), some (Value.str (Str.ofString "Pairs") 197), some (Value.builtin "object.__new__"), some (Value.bool true)] }
def k48 : Obj := { cls := Value.type "code", data := Data.fields #[Value.str (Str.ofString "is_refined_pointer") 227, Value.str (Str.ofString "is_refined_pointer") 228, Value.str (Str.ofString "/claim/cut.py") 229, Value.int 10 0, Value.int 3 0, Value.int 0 0, Value.int 0 0, Value.int 3 0, Value.ref 43, Value.bool true, Value.int 181 0, Value.ref 44, Value.none, Value.ref 45, Value.ref 46, Value.ref 47, Value.int 233 0, Value.int 10 0, Value.str (Str.ofString "/claim/cut.py") 234] }
def k49 : Obj := { cls := Value.type "function", data := Data.func { name := Str.ofString "is_refined_pointer", qualname := Str.ofString "is_refined_pointer", params := (fdI 2).params, body := FuncBody.stmts (fdI 2).body, scope := (fdI 2).scope, globals := 3, closure := [], defaults := Value.none, kwdefaults := Value.none, pyModule := Value.str (Str.ofString "ssamill.judge") 187, code := Value.ref 48 } }
def k55 : Obj := { cls := Value.type "code", data := Data.fields #[Value.str (Str.ofString "is_refined_value") 236, Value.str (Str.ofString "is_refined_value") 237, Value.str (Str.ofString "/claim/cut.py") 238, Value.int 14 0, Value.int 3 0, Value.int 0 0, Value.int 0 0, Value.int 3 0, Value.ref 50, Value.bool true, Value.int 181 0, Value.ref 51, Value.none, Value.ref 52, Value.ref 53, Value.ref 54, Value.int 242 0, Value.int 14 0, Value.str (Str.ofString "/claim/cut.py") 243] }
def k56 : Obj := { cls := Value.type "function", data := Data.func { name := Str.ofString "is_refined_value", qualname := Str.ofString "is_refined_value", params := (fdI 3).params, body := FuncBody.stmts (fdI 3).body, scope := (fdI 3).scope, globals := 3, closure := [], defaults := Value.none, kwdefaults := Value.none, pyModule := Value.str (Str.ofString "ssamill.judge") 187, code := Value.ref 55 } }
def k60 : Obj := { cls := Value.type "code", data := Data.fields #[Value.str (Str.ofString "are_refined") 245, Value.str (Str.ofString "are_refined") 246, Value.str (Str.ofString "/claim/cut.py") 247, Value.int 22 0, Value.int 3 0, Value.int 0 0, Value.int 0 0, Value.int 3 0, Value.ref 57, Value.bool true, Value.int 181 0, Value.ref 58, Value.none, Value.none, Value.none, Value.ref 59, Value.int 248 0, Value.int 22 0, Value.str (Str.ofString "/claim/cut.py") 249] }
def k61 : Obj := { cls := Value.type "function", data := Data.func { name := Str.ofString "are_refined", qualname := Str.ofString "are_refined", params := (fdI 4).params, body := FuncBody.stmts (fdI 4).body, scope := (fdI 4).scope, globals := 3, closure := [], defaults := Value.none, kwdefaults := Value.none, pyModule := Value.str (Str.ofString "ssamill.judge") 187, code := Value.ref 60 } }
def k67 : Obj := { cls := Value.type "code", data := Data.fields #[Value.str (Str.ofString "is_refined") 251, Value.str (Str.ofString "is_refined") 252, Value.str (Str.ofString "/claim/cut.py") 253, Value.int 24 0, Value.int 2 0, Value.int 0 0, Value.int 0 0, Value.int 3 0, Value.ref 62, Value.bool true, Value.int 181 0, Value.ref 63, Value.none, Value.ref 64, Value.ref 65, Value.ref 66, Value.int 260 0, Value.int 24 0, Value.str (Str.ofString "/claim/cut.py") 261] }
def k68 : Obj := { cls := Value.type "function", data := Data.func { name := Str.ofString "is_refined", qualname := Str.ofString "is_refined", params := (fdI 5).params, body := FuncBody.stmts (fdI 5).body, scope := (fdI 5).scope, globals := 3, closure := [], defaults := Value.none, kwdefaults := Value.none, pyModule := Value.str (Str.ofString "ssamill.judge") 187, code := Value.ref 67 } }
def k74 : Obj := { cls := Value.type "code", data := Data.fields #[Value.str (Str.ofString "_law_draw") 265, Value.str (Str.ofString "_law_draw") 266, Value.str (Str.ofString "/claim/cut.py") 267, Value.int 38 0, Value.int 2 0, Value.int 0 0, Value.int 0 0, Value.int 3 0, Value.ref 69, Value.bool true, Value.int 181 0, Value.ref 70, Value.none, Value.ref 71, Value.ref 72, Value.ref 73, Value.int 272 0, Value.int 38 0, Value.str (Str.ofString "/claim/cut.py") 273] }
def k75 : Obj := { cls := Value.type "function", data := Data.func { name := Str.ofString "_law_draw", qualname := Str.ofString "_law_draw", params := (fdI 7).params, body := FuncBody.stmts (fdI 7).body, scope := (fdI 7).scope, globals := 3, closure := [], defaults := Value.none, kwdefaults := Value.none, pyModule := Value.str (Str.ofString "law_sa0607_01") 263, code := Value.ref 74 } }
def k81 : Obj := { cls := Value.type "code", data := Data.fields #[Value.str (Str.ofString "_law_one") 275, Value.str (Str.ofString "_law_one") 276, Value.str (Str.ofString "/claim/cut.py") 277, Value.int 43 0, Value.int 2 0, Value.int 0 0, Value.int 0 0, Value.int 3 0, Value.ref 76, Value.bool true, Value.int 181 0, Value.ref 77, Value.none, Value.ref 78, Value.ref 79, Value.ref 80, Value.int 280 0, Value.int 43 0, Value.str (Str.ofString "/claim/cut.py") 281] }
def k82 : Obj := { cls := Value.type "function", data := Data.func { name := Str.ofString "_law_one", qualname := Str.ofString "_law_one", params := (fdI 8).params, body := FuncBody.stmts (fdI 8).body, scope := (fdI 8).scope, globals := 3, closure := [], defaults := Value.none, kwdefaults := Value.none, pyModule := Value.str (Str.ofString "law_sa0607_01") 263, code := Value.ref 81 } }
def k88 : Obj := { cls := Value.type "code", data := Data.fields #[Value.str (Str.ofString "_law_types") 283, Value.str (Str.ofString "_law_types") 284, Value.str (Str.ofString "/claim/cut.py") 285, Value.int 45 0, Value.int 1 0, Value.int 0 0, Value.int 0 0, Value.int 3 0, Value.ref 83, Value.bool true, Value.int 181 0, Value.ref 84, Value.none, Value.ref 85, Value.ref 86, Value.ref 87, Value.int 295 0, Value.int 45 0, Value.str (Str.ofString "/claim/cut.py") 296] }
def k89 : Obj := { cls := Value.type "function", data := Data.func { name := Str.ofString "_law_types", qualname := Str.ofString "_law_types", params := (fdI 9).params, body := FuncBody.stmts (fdI 9).body, scope := (fdI 9).scope, globals := 3, closure := [], defaults := Value.none, kwdefaults := Value.none, pyModule := Value.str (Str.ofString "law_sa0607_01") 263, code := Value.ref 88 } }
def k95 : Obj := { cls := Value.type "code", data := Data.fields #[Value.str (Str.ofString "_law_leaf") 298, Value.str (Str.ofString "_law_leaf") 299, Value.str (Str.ofString "/claim/cut.py") 300, Value.int 54 0, Value.int 2 0, Value.int 0 0, Value.int 0 0, Value.int 3 0, Value.ref 90, Value.bool true, Value.int 181 0, Value.ref 91, Value.none, Value.ref 92, Value.ref 93, Value.ref 94, Value.int 304 0, Value.int 54 0, Value.str (Str.ofString "/claim/cut.py") 305] }
def k96 : Obj := { cls := Value.type "function", data := Data.func { name := Str.ofString "_law_leaf", qualname := Str.ofString "_law_leaf", params := (fdI 10).params, body := FuncBody.stmts (fdI 10).body, scope := (fdI 10).scope, globals := 3, closure := [], defaults := Value.none, kwdefaults := Value.none, pyModule := Value.str (Str.ofString "law_sa0607_01") 263, code := Value.ref 95 } }
def k100 : Obj := { cls := Value.type "code", data := Data.fields #[Value.str (Str.ofString "_law_run") 307, Value.str (Str.ofString "_law_run") 308, Value.str (Str.ofString "/claim/cut.py") 309, Value.int 61 0, Value.int 1 0, Value.int 0 0, Value.int 0 0, Value.int 3 0, Value.ref 97, Value.bool true, Value.int 181 0, Value.ref 98, Value.none, Value.none, Value.none, Value.ref 99, Value.int 310 0, Value.int 61 0, Value.str (Str.ofString "/claim/cut.py") 311] }
def k101 : Obj := { cls := Value.type "function", data := Data.func { name := Str.ofString "_law_run", qualname := Str.ofString "_law_run", params := (fdI 11).params, body := FuncBody.stmts (fdI 11).body, scope := (fdI 11).scope, globals := 3, closure := [], defaults := Value.none, kwdefaults := Value.none, pyModule := Value.str (Str.ofString "law_sa0607_01") 263, code := Value.ref 100 } }
def k105 : Obj := { cls := Value.type "code", data := Data.fields #[Value.str (Str.ofString "_law_changed") 313, Value.str (Str.ofString "_law_changed") 314, Value.str (Str.ofString "/claim/cut.py") 315, Value.int 69 0, Value.int 2 0, Value.int 0 0, Value.int 0 0, Value.int 3 0, Value.ref 102, Value.bool true, Value.int 181 0, Value.ref 103, Value.none, Value.none, Value.none, Value.ref 104, Value.int 316 0, Value.int 69 0, Value.str (Str.ofString "/claim/cut.py") 317] }
def k106 : Obj := { cls := Value.type "function", data := Data.func { name := Str.ofString "_law_changed", qualname := Str.ofString "_law_changed", params := (fdI 12).params, body := FuncBody.stmts (fdI 12).body, scope := (fdI 12).scope, globals := 3, closure := [], defaults := Value.none, kwdefaults := Value.none, pyModule := Value.str (Str.ofString "law_sa0607_01") 263, code := Value.ref 105 } }
def k112 : Obj := { cls := Value.type "code", data := Data.fields #[Value.str (Str.ofString "_law_taken") 319, Value.str (Str.ofString "_law_taken") 320, Value.str (Str.ofString "/claim/cut.py") 321, Value.int 95 0, Value.int 2 0, Value.int 0 0, Value.int 0 0, Value.int 3 0, Value.ref 107, Value.bool true, Value.int 181 0, Value.ref 108, Value.none, Value.ref 109, Value.ref 110, Value.ref 111, Value.int 326 0, Value.int 95 0, Value.str (Str.ofString "/claim/cut.py") 327] }
def k113 : Obj := { cls := Value.type "function", data := Data.func { name := Str.ofString "_law_taken", qualname := Str.ofString "_law_taken", params := (fdI 13).params, body := FuncBody.stmts (fdI 13).body, scope := (fdI 13).scope, globals := 3, closure := [], defaults := Value.none, kwdefaults := Value.none, pyModule := Value.str (Str.ofString "law_sa0607_01") 263, code := Value.ref 112 } }
def k119 : Obj := { cls := Value.type "code", data := Data.fields #[Value.str (Str.ofString "_law_built") 329, Value.str (Str.ofString "_law_built") 330, Value.str (Str.ofString "/claim/cut.py") 331, Value.int 100 0, Value.int 1 0, Value.int 0 0, Value.int 0 0, Value.int 3 0, Value.ref 114, Value.bool true, Value.int 181 0, Value.ref 115, Value.none, Value.ref 116, Value.ref 117, Value.ref 118, Value.int 344 0, Value.int 100 0, Value.str (Str.ofString "/claim/cut.py") 345] }
def k120 : Obj := { cls := Value.type "function", data := Data.func { name := Str.ofString "_law_built", qualname := Str.ofString "_law_built", params := (fdI 14).params, body := FuncBody.stmts (fdI 14).body, scope := (fdI 14).scope, globals := 3, closure := [], defaults := Value.none, kwdefaults := Value.none, pyModule := Value.str (Str.ofString "law_sa0607_01") 263, code := Value.ref 119 } }
def k124 : Obj := { cls := Value.type "code", data := Data.fields #[Value.str (Str.ofString "_law_may_stand") 347, Value.str (Str.ofString "_law_may_stand") 348, Value.str (Str.ofString "/claim/cut.py") 349, Value.int 111 0, Value.int 2 0, Value.int 0 0, Value.int 0 0, Value.int 3 0, Value.ref 121, Value.bool true, Value.int 181 0, Value.ref 122, Value.none, Value.none, Value.none, Value.ref 123, Value.int 350 0, Value.int 111 0, Value.str (Str.ofString "/claim/cut.py") 351] }
def k125 : Obj := { cls := Value.type "function", data := Data.func { name := Str.ofString "_law_may_stand", qualname := Str.ofString "_law_may_stand", params := (fdI 15).params, body := FuncBody.stmts (fdI 15).body, scope := (fdI 15).scope, globals := 3, closure := [], defaults := Value.none, kwdefaults := Value.none, pyModule := Value.str (Str.ofString "law_sa0607_01") 263, code := Value.ref 124 } }
def k131 : Obj := { cls := Value.type "code", data := Data.fields #[Value.str (Str.ofString "_law_plain") 353, Value.str (Str.ofString "_law_plain") 354, Value.str (Str.ofString "/claim/cut.py") 355, Value.int 126 0, Value.int 1 0, Value.int 0 0, Value.int 0 0, Value.int 3 0, Value.ref 126, Value.bool true, Value.int 181 0, Value.ref 127, Value.none, Value.ref 128, Value.ref 129, Value.ref 130, Value.int 360 0, Value.int 126 0, Value.str (Str.ofString "/claim/cut.py") 361] }
def k132 : Obj := { cls := Value.type "function", data := Data.func { name := Str.ofString "_law_plain", qualname := Str.ofString "_law_plain", params := (fdI 16).params, body := FuncBody.stmts (fdI 16).body, scope := (fdI 16).scope, globals := 3, closure := [], defaults := Value.none, kwdefaults := Value.none, pyModule := Value.str (Str.ofString "law_sa0607_01") 263, code := Value.ref 131 } }
def KF (P : Params) : Frag := [(3, k3 P), (27, k27), (28, k28), (34, k34), (35, k35), (37, k37 P), (38, k38), (48, k48), (49, k49), (55, k55), (56, k56), (60, k60), (61, k61), (67, k67), (68, k68), (74, k74), (75, k75), (81, k81), (82, k82), (88, k88), (89, k89), (95, k95), (96, k96), (100, k100), (101, k101), (105, k105), (106, k106), (112, k112), (113, k113), (119, k119), (120, k120), (124, k124), (125, k125), (131, k131), (132, k132)]
def KA : List Addr := [3, 27, 28, 34, 35, 37, 38, 48, 49, 55, 56, 60, 61, 67, 68, 74, 75, 81, 82, 88, 89, 95, 96, 100, 101, 105, 106, 112, 113, 119, 120, 124, 125, 131, 132]
end
noncomputable def vw : Program := { PySem.Challenge.pw_sa0607_01 with main := { PySem.Challenge.pw_sa0607_01.main with body := (PySem.Challenge.pw_sa0607_01.main.body.drop 1).take 5 ++ PySem.Challenge.pw_sa0607_01.main.body.drop 7 } }
noncomputable def KH : Hook := kHook KF KA (fun _ => by kernel_rfl)
noncomputable def xt (s : Shared) : Bool := xlAt vw [] s && recOk (PySem.Challenge.rw_sa0607_01.row.records) s

theorem left1 : LeftO PySem.Challenge.pw_sa0607_01 vw [] xt (Hook.obs KH) (Hook.val KH) 1592 := fun w => by
  show (openEnds treeTable PySem.Challenge.pw_sa0607_01 w 1592).map _ = _
  unfold openEnds topFrom
  -- the library's twins of topRun, openSeen and treeTable halve the kernel's work
  first
    | (rw [PySem.W.Fast.te14082659384304107361, PySem.W.Fast.te4187177175401517315, PySem.W.Fast.te14364793385576792824]; kernel_rfl)
    | kernel_rfl
end
-- M1
section
/-- what is the same throughout the call: the program, the world, the class Pairs' address, the heap that the call found -/
structure Cx where
  prog : Program
  w : World
  C : Addr
  H0 : Heap
  sys : ∃ a o, sysModules < a ∧ H0.get? a = some o

/-- what a name may hold: frozen data, a reference to an object that may change, an object of Pairs (its two dicts),
a tuple or a list of such, a dict with texts for keys -/
inductive V where
  | d (x : PyData)
  | r (a : Addr)
  | p (i m : Addr)
  | vt (xs : List V)
  | vl (xs : List V)
  | sd (kvs : List (Str × PyData))
  | raw (v : Value)

/-- objects that may change -/
inductive MO where
  | ns (loc : List (Str × V))
  | cell (v : Option V)
  | l (xs : List PyData)
  | vl (xs : List V)
  | sd (kvs : List (Str × PyData))
  | im (f : Int → Option Int)
  | w

def lk : List (Str × V) → Str → Option V
  | [], _ => none
  | (y, v) :: r, x => if x = y then some v else lk r x
def st (x : Str) (v : V) : List (Str × V) → List (Str × V)
  | [] => [(x, v)]
  | (y, u) :: r => if x = y then (y, v) :: r else (y, u) :: st x v r
theorem lk_st (x : Str) (v : V) (y : Str) : ∀ l, lk (st x v l) y = if y = x then some v else lk l y
  | [] => by simp [st, lk]
  | (z, u) :: r => by
    unfold st
    by_cases h : x = z
    · subst h; simp only [if_true, lk]; split <;> rfl
    · simp only [if_neg h, lk, lk_st x v y r]
      by_cases h2 : y = z
      · subst h2; simp [Ne.symm h]
      · simp [h2]

abbrev Le (Z Z' : Heap) : Prop := ∀ b o, Z.get? b = some o → Z'.get? b = some o

-- frozen data, every object to the letter
mutual
inductive Rd (Z : Heap) : Value → PyData → Prop
  | none : Rd Z .none .none
  | bool (b : Bool) : Rd Z (.bool b) (.bool b)
  | int (i : Int) (t : Tok) : Rd Z (.int i t) (.int i)
  | str (x : Str) (t : Tok) : Rd Z (.str x t) (.str x)
  | list {a : Addr} {vs : List Value} {n : Nat} {xs : List PyData} : Z.get? a = some { cls := .type "list", data := .seq vs.toArray n } → RdAll Z vs xs → Rd Z (.ref a) (.list xs)
  | tuple {a : Addr} {vs : List Value} {n : Nat} {xs : List PyData} : Z.get? a = some { cls := .type "tuple", data := .seq vs.toArray n } → RdAll Z vs xs → Rd Z (.ref a) (.tuple xs)
inductive RdAll (Z : Heap) : List Value → List PyData → Prop
  | nil : RdAll Z [] []
  | cons {v : Value} {vs : List Value} {d : PyData} {ds : List PyData} : Rd Z v d → RdAll Z vs ds → RdAll Z (v :: vs) (d :: ds)
end
theorem Rd.le {Z Z' : Heap} (le : Le Z Z') {v : Value} {x : PyData} (h : Rd Z v x) : Rd Z' v x :=
  Rd.rec (motive_1 := fun v x _ => Rd Z' v x) (motive_2 := fun vs xs _ => RdAll Z' vs xs) .none .bool .int .str (fun h _ k => .list (le _ _ h) k) (fun h _ k => .tuple (le _ _ h) k) .nil (fun _ _ h k => .cons h k) h
theorem RdAll.le {Z Z' : Heap} (le : Le Z Z') {vs : List Value} {xs : List PyData} (h : RdAll Z vs xs) : RdAll Z' vs xs :=
  RdAll.rec (motive_1 := fun v x _ => Rd Z' v x) (motive_2 := fun vs xs _ => RdAll Z' vs xs) .none .bool .int .str (fun h _ k => .list (le _ _ h) k) (fun h _ k => .tuple (le _ _ h) k) .nil (fun _ _ h k => .cons h k) h
theorem Rd.reads {Z : Heap} {v : Value} {x : PyData} (h : Rd Z v x) : ∃ as, Reads Z v x as :=
  Rd.rec (motive_1 := fun v x _ => ∃ as, Reads Z v x as) (motive_2 := fun vs xs _ => ∃ as, ReadsAll Z vs xs as) ⟨_, .none⟩ (fun b => ⟨_, .bool b⟩) (fun i t => ⟨_, .int i t⟩) (fun x t => ⟨_, .str x t⟩)
    (fun h _ k => k.elim fun _ r => ⟨_, .list h rfl rfl r⟩) (fun h _ k => k.elim fun _ r => ⟨_, .tuple h rfl rfl r⟩) ⟨_, .nil⟩ (fun _ _ h k => h.elim fun _ r => k.elim fun _ r' => ⟨_, .cons r r'⟩) h
theorem RdAll.reads {Z : Heap} {vs : List Value} {xs : List PyData} (h : RdAll Z vs xs) : ∃ as, ReadsAll Z vs xs as :=
  RdAll.rec (motive_1 := fun v x _ => ∃ as, Reads Z v x as) (motive_2 := fun vs xs _ => ∃ as, ReadsAll Z vs xs as) ⟨_, .none⟩ (fun b => ⟨_, .bool b⟩) (fun i t => ⟨_, .int i t⟩) (fun x t => ⟨_, .str x t⟩)
    (fun h _ k => k.elim fun _ r => ⟨_, .list h rfl rfl r⟩) (fun h _ k => k.elim fun _ r => ⟨_, .tuple h rfl rfl r⟩) ⟨_, .nil⟩ (fun _ _ h k => h.elim fun _ r => k.elim fun _ r' => ⟨_, .cons r r'⟩) h

/-- x is an object of the class at C whose attributes are the two dicts -/
def IsPairs (C : Addr) (Z : Heap) (x i m : Addr) : Prop :=
  ∃ dx es n, Z.get? x = some (instObj C dx) ∧ Z.get? dx = some (dictOf es n) ∧ getL "its" es = some (some (.ref i)) ∧ getL "mine" es = some (some (.ref m)) ∧ getL "are_one" es = some none

def SDict (G : Cx) (Z h : Heap) (a : Addr) (kvs : List (Str × PyData)) : Prop :=
  ∃ (ks : List (Str × Value)), h.DictOf (PySem.strKind G.prog G.w) a ks ∧ ks.map (·.1) = kvs.map (·.1) ∧ RdAll Z (ks.map (·.2)) (kvs.map (·.2))

mutual
inductive VR (G : Cx) (Z : Heap) : V → Value → Prop
  | d {x : PyData} {v : Value} : Rd Z v x → VR G Z (.d x) v
  | r (a : Addr) : VR G Z (.r a) (.ref a)
  | p {i m x : Addr} : IsPairs G.C Z x i m → VR G Z (.p i m) (.ref x)
  | vt {a : Addr} {vs : List Value} {xs : List V} : Z.IsTuple a vs.toArray → VRs G Z xs vs → VR G Z (.vt xs) (.ref a)
  | vl {a : Addr} {vs : List Value} {xs : List V} : Z.IsList a vs.toArray → VRs G Z xs vs → VR G Z (.vl xs) (.ref a)
  | sd {a : Addr} {kvs : List (Str × PyData)} : (a == sysModules) = false → SDict G Z Z a kvs → VR G Z (.sd kvs) (.ref a)
  | raw (v : Value) : VR G Z (.raw v) v
inductive VRs (G : Cx) (Z : Heap) : List V → List Value → Prop
  | nil : VRs G Z [] []
  | cons {x : V} {v : Value} {xs : List V} {vs : List Value} : VR G Z x v → VRs G Z xs vs → VRs G Z (x :: xs) (v :: vs)
end

theorem SDict.le {G : Cx} {Z Z' h h' : Heap} {a : Addr} {kvs : List (Str × PyData)} (le : Le Z Z') (e : ∀ o, h.get? a = some o → h'.get? a = some o) (x : SDict G Z h a kvs) : SDict G Z' h' a kvs := by
  obtain ⟨ks, h1, h2, h3⟩ := x
  exact ⟨ks, h1.at e, h2, h3.le le⟩

theorem isTuple_le {Z Z' : Heap} (le : Le Z Z') {a : Addr} {vs : Array Value} (h : Z.IsTuple a vs) : Z'.IsTuple a vs := let ⟨o, h1, h2⟩ := h; ⟨o, le _ _ h1, h2⟩
theorem isList_le {Z Z' : Heap} (le : Le Z Z') {a : Addr} {vs : Array Value} (h : Z.IsList a vs) : Z'.IsList a vs := let ⟨o, h1, h2⟩ := h; ⟨o, le _ _ h1, h2⟩

theorem IsPairs.le {C : Addr} {Z Z' : Heap} {x i m : Addr} (le : Le Z Z') : IsPairs C Z x i m → IsPairs C Z' x i m :=
  Exists.imp fun _ => Exists.imp fun _ => Exists.imp fun _ h => ⟨le _ _ h.1, le _ _ h.2.1, h.2.2⟩
theorem VR.le {G : Cx} {Z Z' : Heap} (le : Le Z Z') {V : V} {v : Value} (h : VR G Z V v) : VR G Z' V v :=
  VR.rec (motive_1 := fun V v _ => VR G Z' V v) (motive_2 := fun xs vs _ => VRs G Z' xs vs) (fun h => .d (h.le le)) .r (fun h => .p (h.le le)) (fun h _ k => .vt (isTuple_le le h) k) (fun h _ k => .vl (isList_le le h) k) (fun n h => .sd n (h.le le fun _ e => le _ _ e)) .raw .nil (fun _ _ h k => .cons h k) h
theorem VRs.le {G : Cx} {Z Z' : Heap} (le : Le Z Z') {xs : List V} {vs : List Value} (h : VRs G Z xs vs) : VRs G Z' xs vs :=
  VRs.rec (motive_1 := fun V v _ => VR G Z' V v) (motive_2 := fun xs vs _ => VRs G Z' xs vs) (fun h => .d (h.le le)) .r (fun h => .p (h.le le)) (fun h _ k => .vt (isTuple_le le h) k) (fun h _ k => .vl (isList_le le h) k) (fun n h => .sd n (h.le le fun _ e => le _ _ e)) .raw .nil (fun _ _ h k => .cons h k) h

section
variable {G : Cx} {Z : Heap}
theorem Rd.cI {i : Int} {motive : (v : Value) → Rd Z v (.int i) → Prop} (int : ∀ t, motive (.int i t) (.int i t)) {v : Value} (h : Rd Z v (.int i)) : motive v h := by
  cases h with | int _ t => exact int t
theorem Rd.cS {x : Str} {motive : (v : Value) → Rd Z v (.str x) → Prop} (str : ∀ t, motive (.str x t) (.str x t)) {v : Value} (h : Rd Z v (.str x)) : motive v h := by
  cases h with | str _ t => exact str t
theorem Rd.cB {b : Bool} {motive : (v : Value) → Rd Z v (.bool b) → Prop} (bool : motive (.bool b) (.bool b)) {v : Value} (h : Rd Z v (.bool b)) : motive v h := by
  cases h; exact bool
theorem Rd.cNo {motive : (v : Value) → Rd Z v .none → Prop} (none : motive .none .none) {v : Value} (h : Rd Z v .none) : motive v h := by
  cases h; exact none
theorem Rd.cL {xs : List PyData} {motive : (v : Value) → Rd Z v (.list xs) → Prop} (list : ∀ {a : Addr} {vs : List Value} {n : Nat} (e : Z.get? a = some { cls := .type "list", data := .seq vs.toArray n }) (r : RdAll Z vs xs), motive (.ref a) (.list e r)) {v : Value} (h : Rd Z v (.list xs)) : motive v h := by
  cases h with | list a' b' => exact list a' b'
theorem Rd.cT {xs : List PyData} {motive : (v : Value) → Rd Z v (.tuple xs) → Prop} (tuple : ∀ {a : Addr} {vs : List Value} {n : Nat} (e : Z.get? a = some { cls := .type "tuple", data := .seq vs.toArray n }) (r : RdAll Z vs xs), motive (.ref a) (.tuple e r)) {v : Value} (h : Rd Z v (.tuple xs)) : motive v h := by
  cases h with | tuple a' b' => exact tuple a' b'
theorem RdAll.cN {motive : (vs : List Value) → RdAll Z vs [] → Prop} (nil : motive [] .nil) {vs : List Value} (h : RdAll Z vs []) : motive vs h := by
  cases h; exact nil
theorem RdAll.cC {x : PyData} {xs : List PyData} {motive : (vs : List Value) → RdAll Z vs (x :: xs) → Prop} (cons : ∀ {v : Value} {vs : List Value} (h : Rd Z v x) (r : RdAll Z vs xs), motive (v :: vs) (.cons h r)) {vs : List Value} (h : RdAll Z vs (x :: xs)) : motive vs h := by
  cases h with | cons a' b' => exact cons a' b'
theorem VR.cD {x : PyData} {motive : (v : Value) → VR G Z (.d x) v → Prop} (d : ∀ {v : Value} (h : Rd Z v x), motive v (.d h)) {v : Value} (h : VR G Z (.d x) v) : motive v h := by
  cases h with | d a' => exact d a'
theorem VR.cR {a : Addr} {motive : (v : Value) → VR G Z (.r a) v → Prop} (r : motive (.ref a) (.r a)) {v : Value} (h : VR G Z (.r a) v) : motive v h := by
  cases h; exact r
theorem VR.cRaw {u : Value} {motive : (v : Value) → VR G Z (.raw u) v → Prop} (raw : motive u (.raw u)) {v : Value} (h : VR G Z (.raw u) v) : motive v h := by
  cases h; exact raw
theorem VR.cP {i m : Addr} {motive : (v : Value) → VR G Z (.p i m) v → Prop} (p : ∀ {x : Addr} (h : IsPairs G.C Z x i m), motive (.ref x) (.p h)) {v : Value} (h : VR G Z (.p i m) v) : motive v h := by
  cases h with | p a' => exact p a'
theorem VR.cVt {xs : List V} {motive : (v : Value) → VR G Z (.vt xs) v → Prop} (vt : ∀ {a : Addr} {vs : List Value} (h : Z.IsTuple a vs.toArray) (r : VRs G Z xs vs), motive (.ref a) (.vt h r)) {v : Value} (h : VR G Z (.vt xs) v) : motive v h := by
  cases h with | vt a' b' => exact vt a' b'
theorem VR.cVl {xs : List V} {motive : (v : Value) → VR G Z (.vl xs) v → Prop} (vl : ∀ {a : Addr} {vs : List Value} (h : Z.IsList a vs.toArray) (r : VRs G Z xs vs), motive (.ref a) (.vl h r)) {v : Value} (h : VR G Z (.vl xs) v) : motive v h := by
  cases h with | vl a' b' => exact vl a' b'
theorem VR.cSd {kvs : List (Str × PyData)} {motive : (v : Value) → VR G Z (.sd kvs) v → Prop} (sd : ∀ {a : Addr} (h : (a == sysModules) = false) (r : SDict G Z Z a kvs), motive (.ref a) (.sd h r)) {v : Value} (h : VR G Z (.sd kvs) v) : motive v h := by
  cases h with | sd a' b' => exact sd a' b'
theorem VRs.cN {motive : (vs : List Value) → VRs G Z [] vs → Prop} (nil : motive [] .nil) {vs : List Value} (h : VRs G Z [] vs) : motive vs h := by
  cases h; exact nil
theorem VRs.cC {x : V} {xs : List V} {motive : (vs : List Value) → VRs G Z (x :: xs) vs → Prop} (cons : ∀ {v : Value} {vs : List Value} (h : VR G Z x v) (r : VRs G Z xs vs), motive (v :: vs) (.cons h r)) {vs : List Value} (h : VRs G Z (x :: xs) vs) : motive vs h := by
  cases h with | cons a' b' => exact cons a' b'
end

theorem RdAll.ind {Z : Heap} {P : List Value → List PyData → Prop} (nil : P [] []) (cons : ∀ {v x vs xs}, Rd Z v x → RdAll Z vs xs → P vs xs → P (v :: vs) (x :: xs)) {vs : List Value} {xs : List PyData} (h : RdAll Z vs xs) : P vs xs :=
  RdAll.rec (motive_1 := fun _ _ _ => True) (motive_2 := fun vs xs _ => P vs xs) trivial (fun _ => trivial) (fun _ _ => trivial) (fun _ _ => trivial) (fun _ _ _ => trivial) (fun _ _ _ => trivial) nil (fun h r _ k => cons h r k) h
theorem VRs.ind {G : Cx} {Z : Heap} {P : List V → List Value → Prop} (nil : P [] []) (cons : ∀ {x v xs vs}, VR G Z x v → VRs G Z xs vs → P xs vs → P (x :: xs) (v :: vs)) {xs : List V} {vs : List Value} (h : VRs G Z xs vs) : P xs vs :=
  VRs.rec (motive_1 := fun _ _ _ => True) (motive_2 := fun xs vs _ => P xs vs) (fun _ => trivial) (fun _ => trivial) (fun _ => trivial) (fun _ _ _ => trivial) (fun _ _ _ => trivial) (fun _ _ => trivial) (fun _ => trivial) nil (fun h r _ k => cons h r k) h

inductive OR (G : Cx) (Z h : Heap) (a : Addr) : MO → Prop
  | ns {loc : List (Str × V)} {m : Str → Option Value} : h.Ns a m → (∀ x V, lk loc x = some V → ∃ v, m x = some v ∧ VR G Z V v) → OR G Z h a (.ns loc)
  | cell0 : h.IsCell a none → OR G Z h a (.cell none)
  | cell {V : V} {v : Value} : h.IsCell a (some v) → VR G Z V v → OR G Z h a (.cell (some V))
  | l {xs : List PyData} {vs : List Value} {n : Nat} : h.get? a = some { cls := .type "list", data := .seq vs.toArray n } → RdAll Z vs xs → OR G Z h a (.l xs)
  | vl {xs : List V} {vs : List Value} {n : Nat} : h.get? a = some { cls := .type "list", data := .seq vs.toArray n } → VRs G Z xs vs → OR G Z h a (.vl xs)
  | sd {kvs : List (Str × PyData)} : (a == sysModules) = false → SDict G Z h a kvs → OR G Z h a (.sd kvs)
  | im {f : Int → Option Int} {ks : List (Int × Value)} : (a == sysModules) = false → h.DictOf (PySem.intKind G.prog G.w) a ks → (∀ k v, valueAt ks k = some v → ∃ i t, v = .int i t ∧ f k = some i) → (∀ k, valueAt ks k = none → f k = none) → (∀ p ∈ ks, 0 ≤ p.1 ∧ p.1 < 3) → OR G Z h a (.im f)
  | w {vs : List Value} {n : Nat} {ns : List Int} {spot t : Int} : h.get? a = some { cls := .type "list", data := .seq vs.toArray n } → RdAll Z vs [.list (ns.map .int), .int spot, .int t] → ns.length ≤ 63 → 0 ≤ spot → OR G Z h a .w

theorem OR.le {G : Cx} {Z Z' h h' : Heap} {a : Addr} (le : Le Z Z') (e : ∀ o, h.get? a = some o → h'.get? a = some o) : ∀ {m : MO}, OR G Z h a m → OR G Z' h' a m
  | _, .ns h1 h2 => .ns (h1.at' e) fun x V q => let ⟨v, a, b⟩ := h2 x V q; ⟨v, a, b.le le⟩
  | _, .cell0 ⟨o, h, k⟩ => .cell0 ⟨o, e _ h, k⟩
  | _, .cell ⟨o, h, k⟩ h2 => .cell ⟨o, e _ h, k⟩ (h2.le le)
  | _, .l h h2 => .l (e _ h) (h2.le le)
  | _, .vl h h2 => .vl (e _ h) (h2.le le)
  | _, .sd n h => .sd n (h.le le e)
  | _, .im n h h2 h3 h4 => .im n (h.at e) h2 h3 h4
  | _, .w h h2 h3 h4 => .w (e _ h) (h2.le le) h3 h4

theorem OR.live {G : Cx} {Z h : Heap} {a : Addr} {m : MO} (x : OR G Z h a m) : ∃ o, h.get? a = some o := by
  cases x with
  | ns h _ => exact h.elim fun o k => k.elim fun _ k => k.elim fun _ k => ⟨o, k.1⟩
  | cell0 h => exact h.elim fun o k => ⟨o, k.1⟩
  | cell h _ => exact h.elim fun o k => ⟨o, k.1⟩
  | l e _ => exact ⟨_, e⟩
  | vl e _ => exact ⟨_, e⟩
  | sd _ h => exact h.elim fun _ k => k.1.elim fun o k => k.elim fun _ k => k.elim fun _ k => ⟨o, k.1⟩
  | im _ h _ _ _ => exact h.elim fun o k => k.elim fun _ k => k.elim fun _ k => ⟨o, k.1⟩
  | w e _ _ _ => exact ⟨_, e⟩

section
variable {G : Cx} {Z h : Heap} {a : Addr}
theorem OR.cNs {loc : List (Str × V)} {motive : OR G Z h a (.ns loc) → Prop} (ns : ∀ {m : Str → Option Value} (h1 : h.Ns a m) (h2 : ∀ x V, lk loc x = some V → ∃ v, m x = some v ∧ VR G Z V v), motive (.ns h1 h2)) (t : OR G Z h a (.ns loc)) : motive t := by
  cases t with | ns h1 h2 => exact ns h1 h2
theorem OR.cLs {xs : List PyData} {motive : OR G Z h a (.l xs) → Prop} (l : ∀ {vs : List Value} {n : Nat} (h1 : h.get? a = some { cls := .type "list", data := .seq vs.toArray n }) (h2 : RdAll Z vs xs), motive (.l h1 h2)) (t : OR G Z h a (.l xs)) : motive t := by
  cases t with | l h1 h2 => exact l h1 h2
theorem OR.cVl {xs : List V} {motive : OR G Z h a (.vl xs) → Prop} (vl : ∀ {vs : List Value} {n : Nat} (h1 : h.get? a = some { cls := .type "list", data := .seq vs.toArray n }) (h2 : VRs G Z xs vs), motive (.vl h1 h2)) (t : OR G Z h a (.vl xs)) : motive t := by
  cases t with | vl h1 h2 => exact vl h1 h2
theorem OR.cSd {kvs : List (Str × PyData)} {motive : OR G Z h a (.sd kvs) → Prop} (sd : ∀ (h1 : (a == sysModules) = false) (h2 : SDict G Z h a kvs), motive (.sd h1 h2)) (t : OR G Z h a (.sd kvs)) : motive t := by
  cases t with | sd h1 h2 => exact sd h1 h2
end

abbrev Sg := List (Addr × MO)

structure B (G : Cx) (Y : List (Addr × Obj)) (Z : Heap) (σ : Sg) (h : Heap) : Prop where
  base : Le G.H0 Z
  sub : Le Z h
  priv : ∀ p ∈ Y, h.get? p.1 = some p.2 ∧ Z.get? p.1 = none
  objs : ∀ q ∈ σ, OR G Z h q.1 q.2 ∧ Z.get? q.1 = none
  nd : (σ.map (·.1)).Nodup
  ap : ∀ p ∈ Y, p.1 ∉ σ.map (·.1)
  yn : (Y.map (·.1)).Nodup

section
variable {G : Cx} {Y : List (Addr × Obj)} {Z h h' : Heap} {σ : Sg}

/-- the heap has grown -/
theorem B.grow (b : B G Y Z σ h) (k : Le h h') : B G Y Z σ h' :=
  ⟨b.base, fun a o e => k a o (b.sub a o e), fun p hp => ⟨k _ _ (b.priv p hp).1, (b.priv p hp).2⟩, fun q hq => ⟨(b.objs q hq).1.le (fun _ _ e => e) (fun o e => k _ o e), (b.objs q hq).2⟩, b.nd, b.ap, b.yn⟩

theorem B.notZ (b : B G Y Z σ h) {a : Addr} {o : Obj} (e : Z.get? a = some o) : a ∉ σ.map (·.1) := fun hm => by
  obtain ⟨q, hq, rfl⟩ := List.mem_map.mp hm
  rw [(b.objs q hq).2] at e; cases e

/-- freeze whatever is not of the moving parts -/
theorem B.max (b : B G Y Z σ h) : ∃ Z', Le Z Z' ∧ B G Y Z' σ h ∧ ∀ a o, h.get? a = some o → a ∉ σ.map (·.1) → a ∉ Y.map (·.1) → Z'.get? a = some o := by
  have hle : Le Z (hideAll h (σ.map (·.1) ++ Y.map (·.1))) := fun a o e => by
    refine hideAll_get _ (b.sub a o e) fun hm => ?_
    rcases List.mem_append.mp hm with hm | hm
    · exact b.notZ e hm
    · obtain ⟨p, hp, rfl⟩ := List.mem_map.mp hm
      rw [(b.priv p hp).2] at e; cases e
  refine ⟨_, hle, ⟨fun a o e => hle _ _ (b.base a o e), fun a o e => of_hideAll _ e, fun p hp => ⟨(b.priv p hp).1, hideAll_none _ (List.mem_append_right _ (List.mem_map_of_mem hp))⟩,
    fun q hq => ⟨(b.objs q hq).1.le hle fun _ e => e, hideAll_none _ (List.mem_append_left _ (List.mem_map_of_mem hq))⟩, b.nd, b.ap, b.yn⟩, fun a o e h1 h2 => hideAll_get _ e fun hm => ?_⟩
  rcases List.mem_append.mp hm with hm | hm
  · exact h1 hm
  · exact h2 hm

theorem B.live (b : B G Y Z σ h) {a : Addr} (ha : a ∈ σ.map (·.1)) : ∃ o, h.get? a = some o := by
  obtain ⟨q, hq, rfl⟩ := List.mem_map.mp ha
  exact (b.objs q hq).1.live

/-- a new object: its address is none of the moving parts', nor a private one -/
theorem B.fresh (b : B G Y Z σ h) {a : Addr} (ha : h.objs.size ≤ a) : a ∉ σ.map (·.1) ∧ a ∉ Y.map (·.1) ∧ Z.get? a = none := by
  refine ⟨fun hm => ?_, fun hm => ?_, ?_⟩
  · obtain ⟨o, e⟩ := b.live hm
    exact absurd (Heap.lt_size e) (Nat.not_lt.mpr ha)
  · obtain ⟨p, hp, rfl⟩ := List.mem_map.mp hm
    exact absurd (Heap.lt_size (b.priv p hp).1) (Nat.not_lt.mpr ha)
  · cases q : Z.get? a with
    | none => rfl
    | some o => exact absurd (Heap.lt_size (b.sub a o q)) (Nat.not_lt.mpr ha)

/-- a new object becomes a moving part -/
theorem B.add (b : B G Y Z σ h) (k : Le h h') {a : Addr} {m : MO} (ha : h.objs.size ≤ a) (o : OR G Z h' a m) : B G Y Z ((a, m) :: σ) h' := by
  obtain ⟨f1, f2, f3⟩ := b.fresh ha
  have b' := b.grow k
  refine ⟨b'.base, b'.sub, b'.priv, fun q hq => ?_, List.nodup_cons.mpr ⟨f1, b.nd⟩, fun p hp hm => ?_, b.yn⟩
  · rcases List.mem_cons.mp hq with rfl | hq
    · exact ⟨o, f3⟩
    · exact b'.objs q hq
  · rcases List.mem_cons.mp hm with e | hm
    · exact f2 (List.mem_map.mpr ⟨p, hp, e⟩)
    · exact b.ap p hp hm

/-- one moving part is put in another's place -/
inductive Up (a : Addr) (m m' : MO) : Sg → Sg → Prop
  | head (r : Sg) : Up a m m' ((a, m) :: r) ((a, m') :: r)
  | tail {p : Addr × MO} {r r' : Sg} : Up a m m' r r' → Up a m m' (p :: r) (p :: r')
theorem Up.mem {a : Addr} {m m' : MO} {σ σ' : Sg} (u : Up a m m' σ σ') : (a, m) ∈ σ := by
  induction u with
  | head r => exact .head _
  | tail _ ih => exact .tail _ ih
theorem Up.mem' {a : Addr} {m m' : MO} {σ σ' : Sg} (u : Up a m m' σ σ') (hn : (σ.map (·.1)).Nodup) : ∀ q ∈ σ', (q = (a, m')) ∨ (q ∈ σ ∧ q.1 ≠ a) := by
  induction u with
  | head r =>
    intro q hq
    rcases List.mem_cons.mp hq with rfl | hq
    · exact .inl rfl
    · refine .inr ⟨.tail _ hq, fun e => ?_⟩
      simp only [List.map_cons, List.nodup_cons] at hn
      exact hn.1 (e ▸ List.mem_map_of_mem hq)
  | tail u ih =>
    intro q hq
    simp only [List.map_cons, List.nodup_cons] at hn
    rcases List.mem_cons.mp hq with rfl | hq
    · refine .inr ⟨.head _, fun e => ?_⟩
      exact hn.1 (by rw [e]; exact List.mem_map.mpr ⟨_, u.mem, rfl⟩)
    · rcases ih hn.2 q hq with e | ⟨h1, h2⟩
      · exact .inl e
      · exact .inr ⟨.tail _ h1, h2⟩
theorem Up.adr {a : Addr} {m m' : MO} {σ σ' : Sg} (u : Up a m m' σ σ') : σ'.map (·.1) = σ.map (·.1) := by
  induction u with
  | head r => rfl
  | tail _ ih => simp [ih]

/-- an update of one moving part -/
theorem B.upd (b : B G Y Z σ h) {a : Addr} {m m' : MO} {σ' : Sg} (u : Up a m m' σ σ') (hs : Heap.ExtBut a h h') (o : OR G Z h' a m') : B G Y Z σ' h' := by
  have ha : a ∈ σ.map (·.1) := List.mem_map.mpr ⟨_, u.mem, rfl⟩
  refine ⟨b.base, fun c o e => hs c o (fun q => b.notZ e (q ▸ ha)) (b.sub c o e), fun p hp => ⟨hs _ _ (fun q => b.ap p hp (q ▸ ha)) (b.priv p hp).1, (b.priv p hp).2⟩, fun q hq => ?_, u.adr ▸ b.nd, fun p hp => u.adr ▸ b.ap p hp, b.yn⟩
  rcases u.mem' b.nd q hq with rfl | ⟨h1, h2⟩
  · exact ⟨o, (b.objs _ u.mem).2⟩
  · exact ⟨(b.objs q h1).1.le (fun _ _ e => e) fun o e => hs _ o h2 e, (b.objs q h1).2⟩

/-- drop a moving part -/
theorem B.drop (b : B G Y Z σ h) {σ' : Sg} (hs : σ'.Sublist σ) : B G Y Z σ' h :=
  ⟨b.base, b.sub, b.priv, fun q hq => b.objs q (hs.subset hq), b.nd.sublist (hs.map _), fun p hp hm => b.ap p hp ((hs.map _).subset hm), b.yn⟩

theorem B.perm (b : B G Y Z σ h) {σ' : Sg} (hs : σ'.Perm σ) : B G Y Z σ' h :=
  ⟨b.base, b.sub, b.priv, fun q hq => b.objs q (hs.mem_iff.mp hq), (hs.map _).nodup_iff.mpr b.nd, fun p hp hm => b.ap p hp ((hs.map _).mem_iff.mp hm), b.yn⟩
end
end
-- M2
section
abbrev Sm (s s' : Shared) : Prop := ∃ h tk, s' = { s with heap := h, toks := tk }
theorem Sm.refl (s : Shared) : Sm s s := ⟨s.heap, s.toks, rfl⟩
theorem Sm.trans {a b c : Shared} : Sm a b → Sm b c → Sm a c := fun ⟨h, t, e⟩ ⟨h', t', e'⟩ => ⟨h', t', by rw [e', e]⟩
def E0 : Value → Shared → Prop := fun _ _ => False
theorem E0.any {P : Value → Shared → Prop} : ∀ e s, E0 e s → P e s := fun _ _ h => h.elim

/-- the answers that the lifted logic speaks of -/
inductive Po {α β : Type} (G : Cx) (Y : List (Addr × Obj)) (Z : Heap) (s : Shared) (R : Heap → β → α → Prop) (K : β → Sg → Prop) (a : α) (s' : Shared) : Prop
  | i (Z' : Heap) (b : β) (σ' : Sg) (le : Le Z Z') (bb : B G Y Z' σ' s'.heap) (sm : Sm s s') (r : R Z' b a) (k : K b σ') : Po G Y Z s R K a s'

def Wt {α β : Type} (G : Cx) (A : Around) (σ : Sg) (R : Heap → β → α → Prop) (t : Sem α) (K : β → Sg → Prop) : Prop :=
  ∀ Y Z s, B G Y Z σ s.heap → wpAny (model G.prog G.w) A t (Po G Y Z s R K) E0 s
def W1 {α β : Type} (G : Cx) (A : Around) (σ : Sg) (R : Heap → β → α → Prop) (t : Value → Sem α) (x : V) (K : β → Sg → Prop) : Prop :=
  ∀ Y Z s a, B G Y Z σ s.heap → VR G Z x a → wpAny (model G.prog G.w) A (t a) (Po G Y Z s R K) E0 s
def W2 {α β : Type} (G : Cx) (A : Around) (σ : Sg) (R : Heap → β → α → Prop) (t : Value → Value → Sem α) (x y : V) (K : β → Sg → Prop) : Prop :=
  ∀ Y Z s a b, B G Y Z σ s.heap → VR G Z x a → VR G Z y b → wpAny (model G.prog G.w) A (t a b) (Po G Y Z s R K) E0 s
def W3 {α β : Type} (G : Cx) (A : Around) (σ : Sg) (R : Heap → β → α → Prop) (t : Value → Value → Value → Sem α) (x y z : V) (K : β → Sg → Prop) : Prop :=
  ∀ Y Z s a b c, B G Y Z σ s.heap → VR G Z x a → VR G Z y b → VR G Z z c → wpAny (model G.prog G.w) A (t a b c) (Po G Y Z s R K) E0 s
def Wn {α β : Type} (G : Cx) (A : Around) (σ : Sg) (R : Heap → β → α → Prop) (t : List Value → Sem α) (xs : List V) (K : β → Sg → Prop) : Prop :=
  ∀ Y Z s vs, B G Y Z σ s.heap → VRs G Z xs vs → wpAny (model G.prog G.w) A (t vs) (Po G Y Z s R K) E0 s

/-- flows -/
inductive Fl where
  | next | brk | cont
  | ret (v : V)
inductive FR (G : Cx) (Z : Heap) : Fl → Flow → Prop
  | next : FR G Z .next .next
  | brk : FR G Z .brk .brk
  | cont : FR G Z .cont .cont
  | ret {x : V} {v : Value} : VR G Z x v → FR G Z (.ret x) (.ret v)
def BRl (_ : Heap) (b b' : Bool) : Prop := b = b'
def UR (_ : Heap) (_ _ : Unit) : Prop := True

abbrev WE (G : Cx) (A : Around) (env : Env) (σ : Sg) (e : Expr) (K : V → Sg → Prop) : Prop := Wt G A σ (VR G) (eval e env) K
abbrev WEs (G : Cx) (A : Around) (env : Env) (pos : Pos) (σ : Sg) (es : List Expr) (K : List V → Sg → Prop) : Prop := Wt G A σ (VRs G) (spliced (backTo pos (starEach es env))) K
abbrev WT (G : Cx) (A : Around) (env : Env) (σ : Sg) (e : Expr) (K : Bool → Sg → Prop) : Prop := Wt G A σ BRl (isTrue e env (eval e env)) K
abbrev WA (G : Cx) (A : Around) (env : Env) (σ : Sg) (op : BoolOp) (es : List Expr) (K : Bool → Sg → Prop) : Prop := Wt G A σ BRl (allTrue op es env) K
abbrev WS (G : Cx) (A : Around) (env : Env) (σ : Sg) (t : Stmt) (K : Fl → Sg → Prop) : Prop := Wt G A σ (FR G) (exec t env) K
abbrev WSs (G : Cx) (A : Around) (env : Env) (σ : Sg) (ts : List Stmt) (K : Fl → Sg → Prop) : Prop := Wt G A σ (FR G) (execs ts env) K
/-- a value is put into a target -/
abbrev WG (G : Cx) (A : Around) (env : Env) (σ : Sg) (t : Expr) (x : V) (K : Sg → Prop) : Prop := W1 G A σ UR (assign t env) x (fun _ σ' => K σ')

section
variable {α β γ δ : Type} {G : Cx} {A A' : Around} {env : Env} {Y : List (Addr × Obj)} {Z : Heap} {s : Shared} {σ : Sg}

theorem Po.back {R : Heap → β → α → Prop} {K : β → Sg → Prop} {Z1 : Heap} {s1 : Shared} (le : Le Z Z1) (sm : Sm s s1) {a : α} {s' : Shared} (h : Po G Y Z1 s1 R K a s') : Po G Y Z s R K a s' := by
  obtain ⟨Z', b, σ', h1, h2, h3, h4, h5⟩ := h
  exact ⟨Z', b, σ', fun c o e => h1 c o (le c o e), h2, sm.trans h3, h4, h5⟩
theorem wpBack {R : Heap → β → α → Prop} {K : β → Sg → Prop} {Z1 : Heap} {s1 : Shared} {t : Sem α} {M : Model} (le : Le Z Z1) (sm : Sm s s1) (h : wpAny M A t (Po G Y Z1 s1 R K) E0 s1) : wpAny M A t (Po G Y Z s R K) E0 s1 :=
  wpAny_mono h (fun _ _ x => x.back le sm) fun _ _ x => x

/-- one step, then the rest -/
theorem Wt.bind {R : Heap → β → α → Prop} {K : β → Sg → Prop} {t : Sem α} {P : α → Shared → Prop} (h : Wt G A σ R t K) (b : B G Y Z σ s.heap)
    (k : ∀ Z1 b σ1 a s1, Le Z Z1 → B G Y Z1 σ1 s1.heap → Sm s s1 → R Z1 b a → K b σ1 → P a s1) : wpAny (model G.prog G.w) A t P E0 s :=
  wpAny_mono (h Y Z s b) (fun a s1 ⟨Z1, x, σ1, h1, h2, h3, h4, h5⟩ => k Z1 x σ1 a s1 h1 h2 h3 h4 h5) fun _ _ e => e

theorem Po.mk {R : Heap → β → α → Prop} {K : β → Sg → Prop} {s' : Shared} {x : β} {a : α} (b : B G Y Z σ s'.heap) (sm : Sm s s') (r : R Z x a) (k : K x σ) : Po G Y Z s R K a s' :=
  ⟨Z, x, σ, fun _ _ e => e, b, sm, r, k⟩

theorem Wt.mono {R : Heap → β → α → Prop} {K K' : β → Sg → Prop} {t : Sem α} (h : Wt G A σ R t K) (k : ∀ b σ', K b σ' → K' b σ') : Wt G A σ R t K' := fun Y Z s b =>
  wpAny_mono (h Y Z s b) (fun _ _ ⟨Z1, x, σ1, h1, h2, h3, h4, h5⟩ => ⟨Z1, x, σ1, h1, h2, h3, h4, k _ _ h5⟩) fun _ _ e => e
theorem W1.mono {R : Heap → β → α → Prop} {K K' : β → Sg → Prop} {t : Value → Sem α} {x : V} (h : W1 G A σ R t x K) (k : ∀ b σ', K b σ' → K' b σ') : W1 G A σ R t x K' := fun Y Z s a b r =>
  wpAny_mono (h Y Z s a b r) (fun _ _ ⟨Z1, x, σ1, h1, h2, h3, h4, h5⟩ => ⟨Z1, x, σ1, h1, h2, h3, h4, k _ _ h5⟩) fun _ _ e => e
theorem Wt.drop {R : Heap → β → α → Prop} {K : β → Sg → Prop} {t : Sem α} {σ' : Sg} (h : Wt G A σ' R t K) (hs : σ'.Sublist σ) : Wt G A σ R t K := fun Y Z s b => h Y Z s (b.drop hs)
theorem Wt.perm {R : Heap → β → α → Prop} {K : β → Sg → Prop} {t : Sem α} {σ' : Sg} (h : Wt G A σ' R t K) (hs : σ'.Perm σ) : Wt G A σ R t K := fun Y Z s b => h Y Z s (b.perm hs)

theorem VRs.length {xs : List V} {vs : List Value} (h : VRs G Z xs vs) : vs.length = xs.length := VRs.ind (P := fun xs vs => vs.length = xs.length) rfl (fun _ _ k => congrArg (· + 1) k) h

/-- ends: nothing is allocated -/
theorem po_keep {R : Heap → β → α → Prop} {K : β → Sg → Prop} {x : β} {a : α} {s' : Shared} (b : B G Y Z σ s.heap) (sm : Sm s s') (e : s'.heap = s.heap) (r : R Z x a) (k : K x σ) : Po G Y Z s R K a s' :=
  .mk (e ▸ b) sm r k
/-- ends: an object is laid, and frozen -/
theorem po_new {R : Heap → β → α → Prop} {K : β → Sg → Prop} {x : β} {a : α} {h' : Heap} {tk : Nat} (b : B G Y Z σ s.heap) (k : Le s.heap h')
    (r : ∀ Z', Le Z Z' → (∀ c o, h'.get? c = some o → s.heap.objs.size ≤ c → Z'.get? c = some o) → R Z' x a) (kk : K x σ) : Po G Y Z s R K a { s with heap := h', toks := tk } := by
  obtain ⟨Z', le, b', fz⟩ := (b.grow k).max
  refine ⟨Z', x, σ, le, b', ⟨_, _, rfl⟩, r Z' le fun c o e hc => fz c o e ?_ ?_, kk⟩
  · exact (b.fresh hc).1
  · exact (b.fresh hc).2.1

theorem le_push (h : Heap) (o : Obj) : Le h (h.push o) := fun _ _ e => Heap.get?_push_of_some _ e

end
end
-- M3
section
/-- the names of the top, read off the heap that the call found -/
structure Gl (G : Cx) (mg mb : Str → Option Value) : Prop where
  g : G.H0.Ns mainGlobals mg
  b : G.H0.Ns builtinsNs mb
  lim : G.H0.NoLimit

section
variable {α β γ δ : Type} {G : Cx} {A A' : Around} {env : Env} {Y : List (Addr × Obj)} {Z : Heap} {s : Shared} {σ σ' : Sg} {x : Str} {p pos : Pos}

theorem B.up (b : B G Y Z σ s.heap) : Le G.H0 s.heap := fun a o e => b.sub a o (b.base a o e)

theorem B.notSys {h : Heap} (b : B G Y Z σ h) {a : Addr} (ha : h.objs.size ≤ a) : (a == sysModules) = false := by
  obtain ⟨i, o, hi, e⟩ := G.sys
  have := Nat.lt_trans hi (Heap.lt_size (b.sub _ _ (b.base _ _ e)))
  exact beq_eq_false_iff_ne.mpr fun q => absurd this (Nat.not_lt.mpr (q ▸ ha))

/-! names -/
theorem WE_local {K : V → Sg → Prop} {loc : List (Str × V)} {v : V} {L : Addr} (hm : (L, MO.ns loc) ∈ σ) (hv : lk loc x = some v) (k : K v σ) (hL : env.locals = L := by with_unfolding_all rfl)
    (hk : env.scope.kind = .function := by with_unfolding_all rfl) (hx : env.kindOf x = some .local := by with_unfolding_all rfl) (hd : (x == ("__debug__" : Str)) = false := by decide) : WE G A env σ (.Name x p) K := by
  intro Y Z s b
  subst hL
  obtain ⟨o, _⟩ := b.objs _ hm
  cases o with
  | ns hn hl =>
    obtain ⟨u, hu, r⟩ := hl x v hv
    exact wpAny_Name (wpAny_loadName_local hk hx hn hu (po_keep b (.refl s) rfl r k)) hd
theorem WE_cell {K : V → Sg → Prop} {c : Addr} {v : V} (hc : env.cells.lookup x = some c) (hm : (c, MO.cell (some v)) ∈ σ) (k : K v σ)
    (hk : env.scope.kind = .function := by with_unfolding_all rfl) (hx : env.kindOf x = some .cell := by with_unfolding_all rfl) (hd : (x == ("__debug__" : Str)) = false := by decide) : WE G A env σ (.Name x p) K := by
  intro Y Z s b
  obtain ⟨o, _⟩ := b.objs _ hm
  cases o with
  | cell hn r => exact wpAny_Name (wpAny_loadName_cell hk hx hc hn (po_keep b (.refl s) rfl r k)) hd
theorem WE_glob {K : V → Sg → Prop} {mg mb : Str → Option Value} {v : Value} (T : Gl G mg mb) (hv : mg x = some v) (k : K (.raw v) σ)
    (hg : env.globals = mainGlobals := by with_unfolding_all rfl) (hk : env.scope.kind = .function := by with_unfolding_all rfl) (hx : env.kindOf x = some .globalImplicit := by with_unfolding_all rfl) (hd : (x == ("__debug__" : Str)) = false := by decide) : WE G A env σ (.Name x p) K := by
  intro Y Z s b
  exact Name_function_global hk hx (loadGlobal_global (by rw [hg]; exact T.g.keeps b.up) hv (po_keep b (.refl s) rfl (.raw v) k)) hd
theorem WE_blt {K : V → Sg → Prop} {mg mb : Str → Option Value} {v : Value} (T : Gl G mg mb) (hm : mg x = none) (hv : mb x = some v) (k : K (.raw v) σ)
    (hg : env.globals = mainGlobals := by with_unfolding_all rfl) (hb : env.builtins = builtinsNs := by with_unfolding_all rfl) (hk : env.scope.kind = .function := by with_unfolding_all rfl) (hx : env.kindOf x = some .globalImplicit := by with_unfolding_all rfl) (hd : (x == ("__debug__" : Str)) = false := by decide) : WE G A env σ (.Name x p) K := by
  intro Y Z s b
  exact Name_function_global hk hx (loadGlobal_builtin (by rw [hg]; exact T.g.keeps b.up) hm (by rw [hb]; exact T.b.keeps b.up) hv (po_keep b (.refl s) rfl (.raw v) k)) hd

/-! constants -/
theorem WE_int {K : V → Sg → Prop} {i : Int} {c : Nat} (k : K (.d (.int i)) σ) : WE G A env σ (.Constant (.int i) c p) K := fun _ _ s b => wpAny_Constant_int (po_keep b ⟨_, _, rfl⟩ rfl (.d (.int i _)) k)
theorem WE_str {K : V → Sg → Prop} {i : Str} {c : Nat} (k : K (.d (.str i)) σ) : WE G A env σ (.Constant (.str i) c p) K := fun _ _ s b => wpAny_Constant_str (po_keep b ⟨_, _, rfl⟩ rfl (.d (.str i _)) k)
theorem WE_bool {K : V → Sg → Prop} {i : Bool} {c : Nat} (k : K (.d (.bool i)) σ) : WE G A env σ (.Constant (.bool i) c p) K := fun _ _ s b => wpAny_Constant_bool (po_keep b (.refl s) rfl (.d (.bool i)) k)
theorem WE_none {K : V → Sg → Prop} {c : Nat} (k : K (.d .none) σ) : WE G A env σ (.Constant .none c p) K := fun _ _ s b => wpAny_Constant_none (po_keep b (.refl s) rfl (.d .none) k)

/-! tuples, lists -/
theorem WEs_nil {K : List V → Sg → Prop} (k : K [] σ) : WEs G A env pos σ [] K := fun _ _ s b => wpAny_items_nil (po_keep b (.refl s) rfl .nil k)
theorem WEs_cons {K : List V → Sg → Prop} {e : Expr} {rest : List Expr} (h : WE G A env σ e fun v σ1 => WEs G A env pos σ1 rest fun vs σ2 => K (v :: vs) σ2)
    (he : starEach (e :: rest) env = (false, eval e env) :: starEach rest env := by with_unfolding_all rfl) : WEs G A env pos σ (e :: rest) K := by
  intro Y Z s b
  refine wpAny_items_cons (h.bind b fun Z1 v σ1 a s1 le1 b1 sm1 r1 k1 => ?_) he
  refine Wt.bind k1 b1 fun Z2 vs σ2 as s2 le2 b2 sm2 r2 k2 => ?_
  exact ⟨Z2, v :: vs, σ2, fun c o e => le2 c o (le1 c o e), b2, sm1.trans sm2, .cons (r1.le le2) r2, k2⟩

abbrev WDs (G : Cx) (A : Around) (env : Env) (pos : Pos) (σ : Sg) (es : List Expr) (K : List PyData → Sg → Prop) : Prop := Wt G A σ (fun Z (ds : List PyData) (vs : List Value) => RdAll Z vs ds) (spliced (backTo pos (starEach es env))) K
theorem WDs_nil {K : List PyData → Sg → Prop} (k : K [] σ) : WDs G A env pos σ [] K := fun _ _ s b => wpAny_items_nil (po_keep b (.refl s) rfl .nil k)
theorem WDs_cons {K : List PyData → Sg → Prop} {e : Expr} {rest : List Expr} (h : WE G A env σ e fun v σ1 => ∃ u, v = .d u ∧ WDs G A env pos σ1 rest fun us σ2 => K (u :: us) σ2)
    (he : starEach (e :: rest) env = (false, eval e env) :: starEach rest env := by with_unfolding_all rfl) : WDs G A env pos σ (e :: rest) K := by
  intro Y Z s b
  refine wpAny_items_cons (h.bind b fun Z1 v σ1 a s1 le1 b1 sm1 r1 k1 => ?_) he
  obtain ⟨u, rfl, k1⟩ := k1
  cases r1 using VR.cD with | d r1 =>
    refine Wt.bind k1 b1 fun Z2 vs σ2 as s2 le2 b2 sm2 r2 k2 => ?_
    exact ⟨Z2, u :: vs, σ2, fun c o e => le2 c o (le1 c o e), b2, sm1.trans sm2, .cons (r1.le le2) r2, k2⟩
theorem rd_length {Z : Heap} {vs : List Value} {xs : List PyData} (h : RdAll Z vs xs) : vs.length = xs.length := RdAll.ind (P := fun vs xs => vs.length = xs.length) rfl (fun _ _ k => congrArg (· + 1) k) h
/-- a tuple of data -/
theorem WE_TupD {K : V → Sg → Prop} {es : List Expr} {c : Nat} (h : WDs G A env p σ es fun us σ1 => us.length ≤ 1000 ∧ K (.d (.tuple us)) σ1) : WE G A env σ (.Tuple es c p) K := by
  intro Y Z s b
  refine wpAny_Tuple (h.bind b fun Z1 vs σ1 as s1 le1 b1 sm1 r1 k1 => ⟨Nat.le_trans (rd_length r1 ▸ k1.1) (by decide), ?_⟩)
  refine Po.back le1 sm1 (po_new (h' := s1.heap.push _) (tk := s1.toks) b1 (le_push _ _) (fun Z' le fz => ?_) k1.2)
  exact .d (.tuple (fz _ _ (Heap.get?_push_size _ rfl) (Nat.le_refl _)) (r1.le le))
/-- a tuple of what not -/
theorem WE_TupV {K : V → Sg → Prop} {es : List Expr} {c : Nat} (h : WEs G A env p σ es fun vs σ1 => vs.length ≤ 1000 ∧ K (.vt vs) σ1) : WE G A env σ (.Tuple es c p) K := by
  intro Y Z s b
  refine wpAny_Tuple (h.bind b fun Z1 vs σ1 as s1 le1 b1 sm1 r1 k1 => ⟨Nat.le_trans (r1.length ▸ k1.1) (by decide), ?_⟩)
  refine Po.back le1 sm1 (po_new (h' := s1.heap.push _) (tk := s1.toks) b1 (le_push _ _) (fun Z' le fz => ?_) k1.2)
  exact .vt ⟨_, fz _ _ (Heap.get?_push_size _ rfl) (Nat.le_refl _), rfl, _, rfl⟩ (r1.le le)
/-- a list of data that will not be changed -/
theorem WE_LisD {K : V → Sg → Prop} {es : List Expr} (h : WDs G A env p σ es fun us σ1 => us.length ≤ 1000 ∧ K (.d (.list us)) σ1) : WE G A env σ (.List es p) K := by
  intro Y Z s b
  refine wpAny_List (h.bind b fun Z1 vs σ1 as s1 le1 b1 sm1 r1 k1 => ⟨Nat.le_trans (rd_length r1 ▸ k1.1) (by decide), ?_⟩)
  refine Po.back le1 sm1 (po_new (h' := s1.heap.push _) (tk := s1.toks) b1 (le_push _ _) (fun Z' le fz => ?_) k1.2)
  exact .d (.list (fz _ _ (Heap.get?_push_size _ rfl) (Nat.le_refl _)) (r1.le le))
/-- a list of data that will be changed -/
theorem WE_LisM {K : V → Sg → Prop} {es : List Expr} (h : WDs G A env p σ es fun us σ1 => us.length ≤ 1000 ∧ ∀ a, K (.r a) ((a, .l us) :: σ1)) : WE G A env σ (.List es p) K := by
  intro Y Z s b
  refine wpAny_List (h.bind b fun Z1 vs σ1 as s1 le1 b1 sm1 r1 k1 => ⟨Nat.le_trans (rd_length r1 ▸ k1.1) (by decide), ?_⟩)
  exact ⟨Z1, _, _, le1, b1.add (le_push _ _) (Nat.le_refl _) (.l (Heap.get?_push_size _ rfl) r1), sm1.trans ⟨_, _, rfl⟩, .r _, k1.2 s1.heap.objs.size⟩
theorem WE_DictM {K : V → Sg → Prop} (h : ∀ a, K (.r a) ((a, .sd []) :: σ)) : WE G A env σ (.Dict [] [] p) K := by
  intro Y Z s b
  exact wpAny_Dict_empty ⟨Z, _, _, fun _ _ e => e, b.add (le_push _ _) (Nat.le_refl _) (.sd (b.notSys (Nat.le_refl _)) ⟨[], Heap.DictOf.new _, rfl, .nil⟩), ⟨_, _, rfl⟩, .r _, h s.heap.objs.size⟩

/-! operators -/
theorem WE_BinOp {K : V → Sg → Prop} {l r : Expr} {op : Operator} (h : WE G A env σ l fun x σ1 => WE G A env σ1 r fun y σ2 => W2 G A σ2 (VR G) (binaryOp op) x y K) : WE G A env σ (.BinOp l op r p) K := by
  intro Y Z s b
  refine wpAny_BinOp (h.bind b fun Z1 v σ1 a s1 le1 b1 sm1 r1 k1 => ?_)
  refine Wt.bind k1 b1 fun Z2 vs σ2 as s2 le2 b2 sm2 r2 k2 => ?_
  exact wpBack (fun c o e => le2 c o (le1 c o e)) (sm1.trans sm2) (k2 Y Z2 s2 _ _ b2 (r1.le le2) r2)
theorem WE_Cmp {K : V → Sg → Prop} {l r : Expr} {op : CmpOp} (h : WE G A env σ l fun x σ1 => WE G A env σ1 r fun y σ2 => W2 G A σ2 (VR G) (compareOp op) x y K)
    (hm : behindInMarks op r = false := by with_unfolding_all rfl) : WE G A env σ (.Compare l [op] [r] p) K := by
  intro Y Z s b
  refine wpAny_Compare1 (h.bind b fun Z1 v σ1 a s1 le1 b1 sm1 r1 k1 => ?_) hm
  refine Wt.bind k1 b1 fun Z2 vs σ2 as s2 le2 b2 sm2 r2 k2 => ?_
  exact wpBack (fun c o e => le2 c o (le1 c o e)) (sm1.trans sm2) (k2 Y Z2 s2 _ _ b2 (r1.le le2) r2)

theorem wpTruthyB {b : Bool} {v : Value} {Q : Bool → Shared → Prop} {E : Value → Shared → Prop} {M : Model} (h : VR G Z (.d (.bool b)) v) (k : Q b s) : wpAny M A (truthy v) Q E s := by
  cases h using VR.cD with
  | d h => cases h using Rd.cB; exact wpAny_truthy_bool k

theorem WT_Cmp {K : Bool → Sg → Prop} {l r : Expr} {op : CmpOp} (h : WE G A env σ l fun x σ1 => WE G A env σ1 r fun y σ2 => W2 G A σ2 (VR G) (compareOp op) x y fun v σ3 => ∃ c, v = .d (.bool c) ∧ K c σ3)
    (hm : behindInMarks op r = false := by with_unfolding_all rfl) : WT G A env σ (.Compare l [op] [r] p) K := by
  intro Y Z s b
  refine wpAny_isTrue_Compare1 (h.bind b fun Z1 v σ1 a s1 le1 b1 sm1 r1 k1 => ?_) hm
  refine Wt.bind k1 b1 fun Z2 vs σ2 as s2 le2 b2 sm2 r2 k2 => ?_
  refine wpAny_mono (k2 Y Z2 s2 _ _ b2 (r1.le le2) r2) (fun c s3 ⟨Z3, v3, σ3, le3, b3, sm3, r3, k3⟩ => ?_) fun _ _ e => e
  obtain ⟨c, rfl, k3⟩ := k3
  exact wpTruthyB r3 ⟨Z3, c, σ3, fun c o e => le3 c o (le2 c o (le1 c o e)), b3, (sm1.trans sm2).trans sm3, rfl, k3⟩
theorem WT_Not {K : Bool → Sg → Prop} {e : Expr} (h : WT G A env σ e fun c σ1 => K (!c) σ1) : WT G A env σ (.UnaryOp .Not e p) K := by
  intro Y Z s b
  refine wpAny_isTrue_Not (h.bind b fun Z1 v σ1 a s1 le1 b1 sm1 r1 k1 => ?_)
  cases r1
  exact ⟨Z1, !v, σ1, le1, b1, sm1, rfl, k1⟩
theorem WT_Bool {K : Bool → Sg → Prop} {op : BoolOp} {es : List Expr} (h : WA G A env σ op es K) : WT G A env σ (.BoolOp op es p) K := fun Y Z s b => wpAny_isTrue_BoolOp (h Y Z s b)
theorem WA_and_nil {K : Bool → Sg → Prop} (k : K true σ) : WA G A env σ .And [] K := fun _ _ s b => wpAny_allTrue_And_nil (po_keep b (.refl s) rfl rfl k)
theorem WA_or_nil {K : Bool → Sg → Prop} (k : K false σ) : WA G A env σ .Or [] K := fun _ _ s b => wpAny_allTrue_Or_nil (po_keep b (.refl s) rfl rfl k)
theorem WA_and {K : Bool → Sg → Prop} {e : Expr} {es : List Expr} (h : WT G A env σ e fun c σ1 => if c then WA G A env σ1 .And es K else K false σ1) : WA G A env σ .And (e :: es) K := by
  intro Y Z s b
  refine wpAny_allTrue_And_cons (h.bind b fun Z1 v σ1 a s1 le1 b1 sm1 r1 k1 => ?_)
  cases r1
  cases v with
  | true => exact wpBack le1 sm1 (k1 Y Z1 s1 b1)
  | false => exact ⟨Z1, false, σ1, le1, b1, sm1, rfl, k1⟩
theorem WA_or {K : Bool → Sg → Prop} {e : Expr} {es : List Expr} (h : WT G A env σ e fun c σ1 => if c then K true σ1 else WA G A env σ1 .Or es K) : WA G A env σ .Or (e :: es) K := by
  intro Y Z s b
  refine wpAny_allTrue_Or_cons (h.bind b fun Z1 v σ1 a s1 le1 b1 sm1 r1 k1 => ?_)
  cases r1
  cases v with
  | false => exact wpBack le1 sm1 (k1 Y Z1 s1 b1)
  | true => exact ⟨Z1, true, σ1, le1, b1, sm1, rfl, k1⟩
/-- a test that is a value: here a bool -/
theorem WT_val {K : Bool → Sg → Prop} {e : Expr} (h : WE G A env σ e fun v σ1 => ∃ c, v = .d (.bool c) ∧ K c σ1)
    (he : isTrue e env (eval e env) = (do let v ← eval e env; standAt e.pos; holding [v] (truthy v)) := by with_unfolding_all rfl) : WT G A env σ e K := by
  intro Y Z s b
  refine wpAny_isTrue_value (h.bind b fun Z1 v σ1 a s1 le1 b1 sm1 r1 k1 => ?_) he
  obtain ⟨c, rfl, k1⟩ := k1
  exact wpTruthyB r1 ⟨Z1, c, σ1, le1, b1, sm1, rfl, k1⟩
theorem WE_If {K : V → Sg → Prop} {t x y : Expr} (h : WT G A env σ t fun c σ1 => if c then WE G A env σ1 x K else WE G A env σ1 y K) : WE G A env σ (.IfExp t x y p) K := by
  intro Y Z s b
  refine wpAny_IfExp (h.bind b fun Z1 v σ1 a s1 le1 b1 sm1 r1 k1 => ?_)
  cases r1
  cases v with
  | true => exact wpBack le1 sm1 (k1 Y Z1 s1 b1)
  | false => exact wpBack le1 sm1 (k1 Y Z1 s1 b1)
theorem WE_and2 {K : V → Sg → Prop} {x y : Expr} (h : WE G A env σ x fun v σ1 => ∃ c, v = .d (.bool c) ∧ if c then WE G A env σ1 y K else K (.d (.bool false)) σ1) : WE G A env σ (.BoolOp .And [x, y] p) K := by
  intro Y Z s b
  refine wpAny_And2 (h.bind b fun Z1 v σ1 a s1 le1 b1 sm1 r1 k1 => ?_)
  obtain ⟨c, rfl, k1⟩ := k1
  refine wpTruthyB r1 ?_
  cases c with
  | true => exact wpBack le1 sm1 (k1 Y Z1 s1 b1)
  | false => exact ⟨Z1, _, σ1, le1, b1, sm1, r1, k1⟩
theorem WE_Sub {K : V → Sg → Prop} {o i : Expr} (h : WE G A env σ o fun x σ1 => WE G A env σ1 i fun y σ2 => W2 G A σ2 (VR G) (subscriptTail o i) x y K) : WE G A env σ (.Subscript o i p) K := by
  intro Y Z s b
  refine Subscript_ (h.bind b fun Z1 v σ1 a s1 le1 b1 sm1 r1 k1 => ?_)
  refine Wt.bind k1 b1 fun Z2 vs σ2 as s2 le2 b2 sm2 r2 k2 => ?_
  exact wpBack (fun c o e => le2 c o (le1 c o e)) (sm1.trans sm2) (k2 Y Z2 s2 _ _ b2 (r1.le le2) r2)

/-! statements -/
/-- where the statements go on -/
def Kx (K : Fl → Sg → Prop) (k : Sg → Prop) : Fl → Sg → Prop
  | .next, σ => k σ
  | f, σ => K f σ
theorem Kx_next {K : Fl → Sg → Prop} {k : Sg → Prop} (h : k σ) : Kx K k .next σ := h
theorem Kx_ret {K : Fl → Sg → Prop} {k : Sg → Prop} {v : V} (h : K (.ret v) σ) : Kx K k (.ret v) σ := h
theorem if_t {p q : Prop} (h : p) : if true = true then p else q := h
theorem if_f {p q : Prop} (h : q) : if false = true then p else q := h
theorem if_d {p q r : Prop} [Decidable r] (h : r → p) (h' : ¬ r → q) : if decide r = true then p else q := by
  by_cases e : r
  · rw [if_pos (by simpa using e)]; exact h e
  · rw [if_neg (by simpa using e)]; exact h' e
theorem if_b {p q : Prop} {c : Bool} (h : c = true → p) (h' : c = false → q) : if c = true then p else q := by
  cases c with
  | true => exact h rfl
  | false => exact h' rfl
theorem WSs_nil {K : Fl → Sg → Prop} (k : K .next σ) : WSs G A env σ [] K := fun _ _ s b => wpAny_execs_nil (po_keep b (.refl s) rfl .next k)
theorem WSs_cons {K : Fl → Sg → Prop} {t : Stmt} {ts : List Stmt} (h : WS G A env σ t (Kx K fun σ1 => WSs G A env σ1 ts K)) : WSs G A env σ (t :: ts) K := by
  intro Y Z s b
  refine wpAny_execs_cons (h.bind b fun Z1 v σ1 a s1 le1 b1 sm1 r1 k1 => ?_)
  cases r1 with
  | next => exact wpBack le1 sm1 (k1 Y Z1 s1 b1)
  | brk => exact ⟨Z1, _, σ1, le1, b1, sm1, .brk, k1⟩
  | cont => exact ⟨Z1, _, σ1, le1, b1, sm1, .cont, k1⟩
  | ret r => exact ⟨Z1, _, σ1, le1, b1, sm1, .ret r, k1⟩
theorem WS_Return {K : Fl → Sg → Prop} {e : Expr} (h : WE G A env σ e fun v σ1 => K (.ret v) σ1) : WS G A env σ (.Return (some e) p) K := by
  intro Y Z s b
  refine wpAny_Return_some (h.bind b fun Z1 v σ1 a s1 le1 b1 sm1 r1 k1 => ?_)
  exact ⟨Z1, _, σ1, le1, b1, sm1, .ret r1, k1⟩
theorem WS_If {K : Fl → Sg → Prop} {t : Expr} {x y : List Stmt} (h : WT G A env σ t fun c σ1 => if c then WSs G A env σ1 x K else WSs G A env σ1 y K) : WS G A env σ (.If t x y p) K := by
  intro Y Z s b
  refine wpAny_If (h.bind b fun Z1 v σ1 a s1 le1 b1 sm1 r1 k1 => ?_)
  cases r1
  cases v with
  | true => exact wpBack le1 sm1 (k1 Y Z1 s1 b1)
  | false => exact wpBack le1 sm1 (k1 Y Z1 s1 b1)
theorem WS_Expr {K : Fl → Sg → Prop} {e : Expr} (h : WE G A env σ e fun _ σ1 => K .next σ1)
    (hi : interactive env = false := by with_unfolding_all rfl) (hs : swapsWith e none p.line env = pure false := by with_unfolding_all rfl) : WS G A env σ (.Expr e p) K := by
  intro Y Z s b
  refine wpAny_Expr_any (h.bind b fun Z1 v σ1 a s1 le1 b1 sm1 r1 k1 => ?_) hi hs
  exact ⟨Z1, _, σ1, le1, b1, sm1, .next, k1⟩

/-- a name is stored -/
theorem wpStore {loc : List (Str × V)} {v : V} {a : Value} (b : B G Y Z σ s.heap) (r : VR G Z v a) (u : Up env.locals (.ns loc) (.ns (st x v loc)) σ σ')
    (hx : env.kindOf x = some .local) (hp : (env.scope.kind == .class || (env.scope.kind == .module && env.locals != env.globals)) = false) {Q : Unit → Shared → Prop}
    (k : ∀ s', B G Y Z σ' s'.heap → Sm s s' → Q () s') : wpAny (model G.prog G.w) A (storeName env x a) Q E0 s := by
  obtain ⟨o, _⟩ := b.objs _ u.mem
  cases o with
  | ns hn hl =>
    refine wpAny_storeName_local hx hn (fun h' hn' hs => k _ (b.upd u hs.extBut (.ns hn' fun y w e => ?_)) ⟨_, _, rfl⟩) hp
    rw [lk_st] at e
    by_cases q : y = x
    · rw [if_pos q] at e; cases e; exact ⟨a, by rw [if_pos q], r⟩
    · rw [if_neg q] at e
      obtain ⟨c, hc, rc⟩ := hl y w e
      exact ⟨c, by rw [if_neg q]; exact hc, rc⟩
theorem wpStoreC {v : V} {v0 : Option V} {a : Value} {c : Addr} (b : B G Y Z σ s.heap) (r : VR G Z v a) (u : Up c (.cell v0) (.cell (some v)) σ σ')
    (hk : env.scope.kind = .function) (hx : env.kindOf x = some .cell) (hc : env.cells.lookup x = some c) {Q : Unit → Shared → Prop}
    (k : ∀ s', B G Y Z σ' s'.heap → Sm s s' → Q () s') : wpAny (model G.prog G.w) A (storeName env x a) Q E0 s := by
  obtain ⟨o, _⟩ := b.objs _ u.mem
  cases o with
  | cell0 hn => exact wpAny_storeName_cell hk hx hc hn fun h' hn' hs => k _ (b.upd u hs.extBut (.cell hn' r)) ⟨_, _, rfl⟩
  | cell hn _ => exact wpAny_storeName_cell hk hx hc hn fun h' hn' hs => k _ (b.upd u hs.extBut (.cell hn' r)) ⟨_, _, rfl⟩
theorem WG_local {K : Sg → Prop} {loc : List (Str × V)} {v : V} {L : Addr} (u : Up L (.ns loc) (.ns (st x v loc)) σ σ') (k : K σ') (hL : env.locals = L := by with_unfolding_all rfl)
    (hx : env.kindOf x = some .local := by with_unfolding_all rfl) (hp : (env.scope.kind == .class || (env.scope.kind == .module && env.locals != env.globals)) = false := by with_unfolding_all rfl) : WG G A env σ (.Name x p) v K := by
  intro Y Z s a b r
  subst hL
  exact wpAny_assign_Name (wpStore b r u hx hp fun s' b' sm => ⟨Z, (), σ', fun _ _ e => e, b', sm, trivial, k⟩)
theorem WG_cell {K : Sg → Prop} {v : V} {v0 : Option V} {c : Addr} (hc : env.cells.lookup x = some c) (u : Up c (.cell v0) (.cell (some v)) σ σ') (k : K σ')
    (hk : env.scope.kind = .function := by with_unfolding_all rfl) (hx : env.kindOf x = some .cell := by with_unfolding_all rfl) : WG G A env σ (.Name x p) v K := by
  intro Y Z s a b r
  exact wpAny_assign_Name (wpStoreC b r u hk hx hc fun s' b' sm => ⟨Z, (), σ', fun _ _ e => e, b', sm, trivial, k⟩)

/-- one target -/
theorem WS_Assign {K : Fl → Sg → Prop} {t e : Expr} (h : WE G A env σ e fun v σ1 => WG G A env σ1 t v fun σ2 => K .next σ2)
    (hs : swapsWithSole [t] e p.line env = pure false := by with_unfolding_all rfl) (hw : swappedStores [t] e env = pure none := by with_unfolding_all rfl) (he : (assignEach [t] env).map (·.2) = [assign t env] := by with_unfolding_all rfl) : WS G A env σ (.Assign [t] e p) K := by
  intro Y Z s b
  refine wpAny_Assign_stores (h.bind b fun Z1 v σ1 a s1 le1 b1 sm1 r1 k1 => ?_) hs hw
  rw [he]
  show wpAny _ A (assign t env a) _ _ _
  refine wpAny_mono (k1 Y Z1 s1 a b1 r1) (fun _ s2 ⟨Z2, _, σ2, le2, b2, sm2, _, k2⟩ => ?_) fun _ _ e => e
  exact ⟨Z2, _, σ2, fun c o e => le2 c o (le1 c o e), b2, sm1.trans sm2, .next, k2⟩
end
end
-- M4
section
abbrev cl (f : Value) : List Value → Sem Value := fun vs => call f vs
/-- room for n calls more -/
structure Room (n : Nat) (A : Around) : Prop where
  h : A.handled = none
  d : A.depth + 2 * n < 1000
  u : A.units + 16 * n + 200 < 9900
theorem Room.deeper {n : Nat} {A : Around} {env : Env} (r : Room (n + 1) A) : Room n (A.deeper env) := by
  refine ⟨r.h, ?_, ?_⟩
  · have := r.d; show A.depth + 1 + 2 * n < 1000; omega
  · have := r.u; show A.units + 3 + 16 * n + 200 < 9900; omega
theorem Room.le {n m : Nat} {A : Around} (r : Room n A) (h : m ≤ n) : Room m A := ⟨r.h, by have := r.d; omega, by have := r.u; omega⟩
theorem Room.dd {n : Nat} {A : Around} (r : Room n A) : A.depth < recursionLimit := by
  have := r.d
  show A.depth < 1000
  omega
theorem cLine_eq : cLine = 9900 := rfl

section
variable {α β γ δ : Type} {G : Cx} {A A' : Around} {env : Env} {Y : List (Addr × Obj)} {Z : Heap} {s : Shared} {σ σ' : Sg} {x : Str} {p pos : Pos}

theorem reads_get {h : Heap} {vs : List Value} {xs : List PyData} (r : RdAll h vs xs) : ∀ {k : Nat} {x : PyData}, xs[k]? = some x → ∃ v, vs[k]? = some v ∧ Rd h v x :=
  RdAll.ind (P := fun vs xs => ∀ {k : Nat} {x : PyData}, xs[k]? = some x → ∃ v, vs[k]? = some v ∧ Rd h v x) (fun e => nomatch e)
    (fun h _ ih k _ e => match k, e with | 0, e => ⟨_, rfl, Option.some.inj e ▸ h⟩ | _ + 1, e => ih e) r
theorem vrs_get {vs : List Value} {xs : List V} (r : VRs G Z xs vs) : ∀ {k : Nat} {x : V}, xs[k]? = some x → ∃ v, vs[k]? = some v ∧ VR G Z x v :=
  VRs.ind (P := fun xs vs => ∀ {k : Nat} {x : V}, xs[k]? = some x → ∃ v, vs[k]? = some v ∧ VR G Z x v) (fun e => nomatch e)
    (fun h _ ih k _ e => match k, e with | 0, e => ⟨_, rfl, Option.some.inj e ▸ h⟩ | _ + 1, e => ih e) r
theorem reads_len {h : Heap} {vs : List Value} {xs : List PyData} (r : RdAll h vs xs) : vs.length = xs.length := rd_length r

/-- what reads as a list | a tuple -/
theorem VR.list {xs : List PyData} {v : Value} (h : VR G Z (.d (.list xs)) v) : ∃ a vs n, v = .ref a ∧ Z.get? a = some { cls := .type "list", data := .seq vs.toArray n } ∧ RdAll Z vs xs := by
  cases h using VR.cD with
  | d h => cases h using Rd.cL with
    | list h1 h2 => exact ⟨_, _, _, rfl, h1, h2⟩
theorem VR.tup {xs : List PyData} {v : Value} (h : VR G Z (.d (.tuple xs)) v) : ∃ a vs n, v = .ref a ∧ Z.get? a = some { cls := .type "tuple", data := .seq vs.toArray n } ∧ RdAll Z vs xs := by
  cases h using VR.cD with
  | d h => cases h using Rd.cT with
    | tuple h1 h2 => exact ⟨_, _, _, rfl, h1, h2⟩
theorem OR.lst {h : Heap} {a : Addr} {xs : List PyData} (o : OR G Z h a (.l xs)) : ∃ vs n, h.get? a = some { cls := .type "list", data := .seq vs.toArray n } ∧ RdAll Z vs xs := by
  cases o using OR.cLs with
  | l h1 h2 => exact ⟨_, _, h1, h2⟩
theorem isL {h : Heap} {a : Addr} {vs : List Value} {n : Nat} (e : h.get? a = some { cls := .type "list", data := .seq vs.toArray n }) : h.IsList a vs.toArray := ⟨_, e, rfl, _, rfl⟩
theorem isT {h : Heap} {a : Addr} {vs : List Value} {n : Nat} (e : h.get? a = some { cls := .type "tuple", data := .seq vs.toArray n }) : h.IsTuple a vs.toArray := ⟨_, e, rfl, _, rfl⟩

theorem VR.ii {i j : Int} {P : Value → Value → Prop} (h : ∀ t u, P (.int i t) (.int j u)) {a b : Value} (ra : VR G Z (.d (.int i)) a) (rb : VR G Z (.d (.int j)) b) : P a b := by
  cases ra using VR.cD with | d ra => cases rb using VR.cD with | d rb => cases ra using Rd.cI with | int t => cases rb using Rd.cI with | int u => exact h t u
/-! numbers -/
variable {i j : Int}
theorem add_ii {K : V → Sg → Prop} (k : K (.d (.int (i + j))) σ) : W2 G A σ (VR G) (binaryOp .Add) (.d (.int i)) (.d (.int j)) K := by
  intro Y Z s a b bb ra rb
  refine VR.ii (P := fun a b => wpAny _ _ (binaryOp .Add a b) _ _ s) (fun _ _ => ?_) ra rb
  exact add_int (po_keep bb ⟨_, _, rfl⟩ rfl (.d (.int _ _)) k)
theorem sub_ii {K : V → Sg → Prop} (k : K (.d (.int (i - j))) σ) : W2 G A σ (VR G) (binaryOp .Sub) (.d (.int i)) (.d (.int j)) K := by
  intro Y Z s a b bb ra rb
  refine VR.ii (P := fun a b => wpAny _ _ (binaryOp .Sub a b) _ _ s) (fun _ _ => ?_) ra rb
  exact sub_int (po_keep bb ⟨_, _, rfl⟩ rfl (.d (.int _ _)) k)
theorem mul_ii {K : V → Sg → Prop} (h1 : -(2 ^ 64) < j) (h2 : j < 2 ^ 64) (k : K (.d (.int (i * j))) σ) : W2 G A σ (VR G) (binaryOp .Mult) (.d (.int i)) (.d (.int j)) K := by
  intro Y Z s a b bb ra rb
  refine VR.ii (P := fun a b => wpAny _ _ (binaryOp .Mult a b) _ _ s) (fun _ _ => ?_) ra rb
  exact mul_int (po_keep bb ⟨_, _, rfl⟩ rfl (.d (.int _ _)) k) (.of_right (intBits_le_64 h1 h2))
theorem mod_ii {K : V → Sg → Prop} (h : j ≠ 0) (k : K (.d (.int (i.fmod j))) σ) : W2 G A σ (VR G) (binaryOp .Mod) (.d (.int i)) (.d (.int j)) K := by
  intro Y Z s a b bb ra rb
  refine VR.ii (P := fun a b => wpAny _ _ (binaryOp .Mod a b) _ _ s) (fun _ _ => ?_) ra rb
  exact mod_int' h (po_keep bb ⟨_, _, rfl⟩ rfl (.d (.int _ _)) k)
theorem div_ii {K : V → Sg → Prop} (h : j ≠ 0) (h' : j.natAbs < 1073741824) (k : K (.d (.int (i.fdiv j))) σ) : W2 G A σ (VR G) (binaryOp .FloorDiv) (.d (.int i)) (.d (.int j)) K := by
  intro Y Z s a b bb ra rb
  refine VR.ii (P := fun a b => wpAny _ _ (binaryOp .FloorDiv a b) _ _ s) (fun _ _ => ?_) ra rb
  exact floordiv_int h (po_keep bb ⟨_, _, rfl⟩ rfl (.d (.int _ _)) k) (.inl (PyProof.noPylong_small h'))
theorem lt_ii {K : V → Sg → Prop} (k : K (.d (.bool (decide (i < j)))) σ) : W2 G A σ (VR G) (compareOp .Lt) (.d (.int i)) (.d (.int j)) K := by
  intro Y Z s a b bb ra rb
  refine VR.ii (P := fun a b => wpAny _ _ (compareOp .Lt a b) _ _ s) (fun _ _ => ?_) ra rb
  exact lt_int (po_keep bb ⟨_, _, rfl⟩ rfl (.d (.bool _)) k)
theorem gt_ii {K : V → Sg → Prop} (k : K (.d (.bool (decide (j < i)))) σ) : W2 G A σ (VR G) (compareOp .Gt) (.d (.int i)) (.d (.int j)) K := by
  intro Y Z s a b bb ra rb
  refine VR.ii (P := fun a b => wpAny _ _ (compareOp .Gt a b) _ _ s) (fun _ _ => ?_) ra rb
  exact gt_int (po_keep bb ⟨_, _, rfl⟩ rfl (.d (.bool _)) k)
/-- == and != of any two data -/
theorem eq_dd {K : V → Sg → Prop} {u v : PyData} {n : Nat} (r : Room n A) (hu : u.canLay0 = true) (hv : v.canLay0 = true) (hd : u.depth ≤ 200) (k : K (.d (.bool (PyData.eqv u v))) σ) : W2 G A σ (VR G) (compareOp .Eq) (.d u) (.d v) K := by
  intro Y Z s a b bb ra rb
  cases ra using VR.cD with | d ra => cases rb using VR.cD with | d rb =>
    obtain ⟨as, ra⟩ := ra.reads
    obtain ⟨bs, rb⟩ := rb.reads
    refine SeqAt.compareEq_reads (Reads.keeps bb.sub ra) (Reads.keeps bb.sub rb) hu hv ?_ (po_keep bb ⟨_, _, rfl⟩ rfl (.d (.bool _)) k)
    have := r.u; have := Nat.min_le_left u.depth v.depth; rw [cLine_eq]; omega
theorem ne_dd {K : V → Sg → Prop} {u v : PyData} {n : Nat} (r : Room n A) (hu : u.canLay0 = true) (hv : v.canLay0 = true) (hd : u.depth ≤ 200) (k : K (.d (.bool (!PyData.eqv u v))) σ) : W2 G A σ (VR G) (compareOp .NotEq) (.d u) (.d v) K := by
  intro Y Z s a b bb ra rb
  cases ra using VR.cD with | d ra => cases rb using VR.cD with | d rb =>
    obtain ⟨as, ra⟩ := ra.reads
    obtain ⟨bs, rb⟩ := rb.reads
    refine SeqAt.compareNe_reads (Reads.keeps bb.sub ra) (Reads.keeps bb.sub rb) hu hv ?_ (po_keep bb ⟨_, _, rfl⟩ rfl (.d (.bool _)) k)
    have := r.u; have := Nat.min_le_left u.depth v.depth; rw [cLine_eq]; omega
def isNone : PyData → Bool
  | .none => true
  | _ => false
theorem reads_none {h : Heap} {v : Value} {u : PyData} (r : Rd h v u) : (v == .none) = isNone u := by
  cases r <;> rfl
theorem is_dn {K : V → Sg → Prop} {u : PyData} (k : K (.d (.bool (isNone u))) σ) : W2 G A σ (VR G) (compareOp .Is) (.d u) (.d .none) K := by
  intro Y Z s a b bb ra rb
  cases ra using VR.cD with | d ra => cases rb using VR.cD with | d rb =>
    cases rb using Rd.cNo
    refine is_none ?_
    rw [reads_none ra]
    exact po_keep bb ⟨_, _, rfl⟩ rfl (.d (.bool _)) k
theorem isnot_dn {K : V → Sg → Prop} {u : PyData} (k : K (.d (.bool (!isNone u))) σ) : W2 G A σ (VR G) (compareOp .IsNot) (.d u) (.d .none) K := by
  intro Y Z s a b bb ra rb
  cases ra using VR.cD with | d ra => cases rb using VR.cD with | d rb =>
    cases rb using Rd.cNo
    refine isNot_none ?_
    rw [reads_none ra]
    exact po_keep bb ⟨_, _, rfl⟩ rfl (.d (.bool _)) k

/-! items -/
theorem wp_item_list {o sl : Expr} {l : Addr} {vs : List Value} {k : Int} {u : Tok} {v : Value} {Q : Value → Shared → Prop} {E : Value → Shared → Prop} {prog : Program} {w : World} (hl : s.heap.IsList l vs.toArray)
    (h0 : 0 ≤ k) (hx : vs[k.toNat]? = some v) (hlen : vs.length < 2 ^ 63) (q : Q v s)
    (hs : subscripted sl false (.ref l) (.int k u) = operate [.ref l, .int k u] (getItem (.ref l) (.int k u))) : wpAny (model prog w) A (subscriptTail o sl (.ref l) (.int k u)) Q E s := by
  refine item_listR hl h0 ?_ (by simpa using hx) q hs
  have := (List.getElem?_eq_some_iff.mp hx).1
  omega
theorem sub_l {K : V → Sg → Prop} {o sl : Expr} {l : Addr} {xs : List PyData} {k : Int} {u : PyData} (hm : (l, MO.l xs) ∈ σ) (h0 : 0 ≤ k) (hx : xs[k.toNat]? = some u) (hlen : xs.length < 2 ^ 63) (q : K (.d u) σ)
    (hs : ∀ a t, subscripted sl false (.ref a) (.int k t) = operate [.ref a, .int k t] (getItem (.ref a) (.int k t)) := by intros; with_unfolding_all rfl) : W2 G A σ (VR G) (subscriptTail o sl) (.r l) (.d (.int k)) K := by
  intro Y Z s a b bb ra rb
  cases ra using VR.cR; cases rb using VR.cD with | d rb =>
    cases rb using Rd.cI
    obtain ⟨vs, n, h1, h2⟩ := (bb.objs _ hm).1.lst
    obtain ⟨v, hv, hr⟩ := reads_get h2 hx
    exact wp_item_list (isL h1) h0 hv (by rw [reads_len h2]; exact hlen) (po_keep bb (.refl s) rfl (.d hr) q) (hs _ _)
theorem sub_dl {K : V → Sg → Prop} {o sl : Expr} {xs : List PyData} {k : Int} {u : PyData} (h0 : 0 ≤ k) (hx : xs[k.toNat]? = some u) (hlen : xs.length < 2 ^ 63) (q : K (.d u) σ)
    (hs : ∀ a t, subscripted sl false (.ref a) (.int k t) = operate [.ref a, .int k t] (getItem (.ref a) (.int k t)) := by intros; with_unfolding_all rfl) : W2 G A σ (VR G) (subscriptTail o sl) (.d (.list xs)) (.d (.int k)) K := by
  intro Y Z s a b bb ra rb
  obtain ⟨l, vs, n, rfl, h1, h2⟩ := ra.list
  cases rb using VR.cD with | d rb =>
    cases rb using Rd.cI
    obtain ⟨v, hv, hr⟩ := reads_get h2 hx
    exact wp_item_list (isL (bb.sub _ _ h1)) h0 hv (by rw [reads_len h2]; exact hlen) (po_keep bb (.refl s) rfl (.d hr) q) (hs _ _)
theorem wp_item_tup {o sl : Expr} {l : Addr} {vs : List Value} {k : Int} {u : Tok} {v : Value} {Q : Value → Shared → Prop} {E : Value → Shared → Prop} {prog : Program} {w : World} (hl : s.heap.IsTuple l vs.toArray)
    (h0 : 0 ≤ k) (hx : vs[k.toNat]? = some v) (hlen : vs.length < 2 ^ 63) (q : Q v s)
    (hs : subscripted sl false (.ref l) (.int k u) = operate [.ref l, .int k u] (getItem (.ref l) (.int k u))) : wpAny (model prog w) A (subscriptTail o sl (.ref l) (.int k u)) Q E s := by
  have hk := (List.getElem?_eq_some_iff.mp hx).1
  refine item_tupleT (j := k.toNat) hl (by omega) (by omega) ?_ hx q hs
  unfold seqIndex?
  have h1 : ¬ k < 0 := by omega
  have h2 : k < (vs.length : Int) := by omega
  simp only [h1, if_false, h0, h2, decide_true, Bool.and_self, if_true]
theorem sub_dt {K : V → Sg → Prop} {o sl : Expr} {xs : List PyData} {k : Int} {u : PyData} (h0 : 0 ≤ k) (hx : xs[k.toNat]? = some u) (hlen : xs.length < 2 ^ 63) (q : K (.d u) σ)
    (hs : ∀ a t, subscripted sl false (.ref a) (.int k t) = operate [.ref a, .int k t] (getItem (.ref a) (.int k t)) := by intros; with_unfolding_all rfl) : W2 G A σ (VR G) (subscriptTail o sl) (.d (.tuple xs)) (.d (.int k)) K := by
  intro Y Z s a b bb ra rb
  obtain ⟨l, vs, n, rfl, h1, h2⟩ := ra.tup
  cases rb using VR.cD with | d rb =>
    cases rb using Rd.cI
    obtain ⟨v, hv, hr⟩ := reads_get h2 hx
    exact wp_item_tup (isT (bb.sub _ _ h1)) h0 hv (by rw [reads_len h2]; exact hlen) (po_keep bb (.refl s) rfl (.d hr) q) (hs _ _)
theorem sub_vt {K : V → Sg → Prop} {o sl : Expr} {xs : List V} {k : Int} {u : V} (h0 : 0 ≤ k) (hx : xs[k.toNat]? = some u) (hlen : xs.length < 2 ^ 63) (q : K u σ)
    (hs : ∀ a t, subscripted sl false (.ref a) (.int k t) = operate [.ref a, .int k t] (getItem (.ref a) (.int k t)) := by intros; with_unfolding_all rfl) : W2 G A σ (VR G) (subscriptTail o sl) (.vt xs) (.d (.int k)) K := by
  intro Y Z s a b bb ra rb
  cases ra using VR.cVt with | vt h1 h2 => cases rb using VR.cD with | d rb =>
    cases rb using Rd.cI
    obtain ⟨v, hv, hr⟩ := vrs_get h2 hx
    exact wp_item_tup (isTuple_le bb.sub h1) h0 hv (by rw [h2.length]; exact hlen) (po_keep bb (.refl s) rfl hr q) (hs _ _)

/-! len -/
theorem len_dl {K : V → Sg → Prop} {xs : List PyData} (hlen : xs.length < 2 ^ 62) (q : K (.d (.int xs.length)) σ) : Wn G A σ (VR G) (cl (.builtin "len")) [.d (.list xs)] K := by
  intro Y Z s vs bb r
  cases r using VRs.cC with | cons r r' =>
    cases r' using VRs.cN
    obtain ⟨l, vs, n, rfl, h1, h2⟩ := r.list
    have e : (vs.toArray.size : Int) = xs.length := by simp [reads_len h2]
    exact call_len_list (isL (bb.sub _ _ h1)) (by rw [e]; omega) (by rw [e]; exact po_keep bb ⟨_, _, rfl⟩ rfl (.d (.int _ _)) q)
theorem len_dt {K : V → Sg → Prop} {xs : List PyData} (hlen : xs.length < 2 ^ 62) (q : K (.d (.int xs.length)) σ) : Wn G A σ (VR G) (cl (.builtin "len")) [.d (.tuple xs)] K := by
  intro Y Z s vs bb r
  cases r using VRs.cC with | cons r r' =>
    cases r' using VRs.cN
    obtain ⟨l, vs, n, rfl, h1, h2⟩ := r.tup
    have e : (vs.toArray.size : Int) = xs.length := by simp [reads_len h2]
    exact PyProof.Rows.len_tuple (isT (bb.sub _ _ h1)) (by rw [e]; omega) (by rw [e]; exact po_keep bb ⟨_, _, rfl⟩ rfl (.d (.int _ _)) q)

/-! calls by a name -/
def Callee (G : Cx) (f : Value) : Prop := ∀ h, Le G.H0 h → ∃ k, (k = Keeper.frame ∨ k = Keeper.machine ∨ k = Keeper.boundFrame) ∧ Looks (model G.prog G.w) h (keeperOf f) k
theorem Callee.blt (id : String) : Callee G (.builtin id) := fun _ _ => ⟨.machine, .inr (.inl rfl), .of_pure rfl⟩
theorem Callee.typ (id : String) : Callee G (.type id) := fun _ _ => ⟨.machine, .inr (.inl rfl), .of_pure rfl⟩
theorem Callee.fn {a : Addr} {o : Obj} {fd : FuncData} (h1 : G.H0.get? a = some o) (h2 : o.data = .func fd) : Callee G (.ref a) := fun h le => ⟨.frame, .inl rfl, by
  refine (Looks.ld (part := none) (le _ _ h1)).andThen ?_
  rw [h2]
  exact .now⟩
theorem Callee.cls {K : Frag} {f : Value} (X : K.In G.H0) (e : keepIn K f = true) : Callee G f := fun h le => by
  obtain ⟨k, hk, l⟩ := looks_keep (M := model G.prog G.w) e (X.keeps le)
  exact ⟨k, hk.elim .inl fun q => .inr (.inl q), l⟩

theorem WE_Call {K : V → Sg → Prop} {f : Str} {fp : Pos} {e : Expr} {es : List Expr}
    (h : WE G A env σ (.Name f fp) fun v σ1 => ∃ fv, v = .raw fv ∧ Callee G fv ∧ WEs G A env p σ1 (e :: es) fun vs σ2 => Wn G A σ2 (VR G) (cl fv) vs K)
    (he : starEach (e :: es) env = (false, eval e env) :: starEach es env := by with_unfolding_all rfl) (hplain : (backTo p (starEach es env)).any (·.1) = false := by with_unfolding_all rfl) : WE G A env σ (.Call (.Name f fp) (e :: es) [] p) K := by
  intro Y Z s b
  refine wpAny_Call_NameR (h.bind b fun Z1 v σ1 a s1 le1 b1 sm1 r1 k1 => ?_)
  obtain ⟨fv, rfl, hc, k1⟩ := k1
  cases r1 using VR.cRaw
  have he' : backTo p (starEach (e :: es) env) = (false, eval e env) :: backTo p (starEach es env) := by rw [he]; rfl
  refine callWith_of (P := fun h => Le G.H0 h) ?_ (fun h le => hc h le) ?_
  · rw [he']; show ((false || (backTo p (starEach es env)).any (·.1)) || false) = false; rw [hplain]; rfl
  · rw [he']
    refine evalArgs_plain ?_
    rw [← he']
    refine Wt.bind k1 b1 fun Z2 vs σ2 as s2 le2 b2 sm2 r2 k2 => ⟨b2.up, ?_⟩
    exact wpBack (fun c o e => le2 c o (le1 c o e)) (sm1.trans sm2) (k2 Y Z2 s2 _ b2 r2)

/-! calls of the text's own -/
inductive Split : Sg → Sg → Sg → Prop
  | nil : Split [] [] []
  | l {q : Addr × MO} {a b c : Sg} : Split a b c → Split (q :: a) b (q :: c)
  | r {q : Addr × MO} {a b c : Sg} : Split a b c → Split a (q :: b) (q :: c)
theorem Split.perm {a b c : Sg} (h : Split a b c) : c.Perm (a ++ b) := by
  induction h with
  | nil => exact .refl _
  | l _ ih => exact .cons _ ih
  | r _ ih => exact (List.Perm.cons _ ih).trans List.perm_middle.symm

theorem OR.raw {h h' : Heap} {Z' : Heap} {a : Addr} {m : MO} (o : OR G Z h a m) (le : Le Z Z') {ob : Obj} (e : h.get? a = some ob) (e' : h'.get? a = some ob) : OR G Z' h' a m :=
  o.le le fun o' q => by rw [e] at q; cases q; exact e'

theorem B.part {h : Heap} {os rest : Sg} (b : B G Y Z (os ++ rest) h) : ∃ R : List (Addr × Obj), R.map (·.1) = rest.map (·.1) ∧ B G (R ++ Y) Z os h ∧ (∀ p ∈ R, h.get? p.1 = some p.2) := by
  have hr : ∀ r : Sg, (∀ q ∈ r, q ∈ os ++ rest) → ∃ R : List (Addr × Obj), R.map (·.1) = r.map (·.1) ∧ ∀ p ∈ R, h.get? p.1 = some p.2 := by
    intro r
    induction r with
    | nil => intro _; exact ⟨[], rfl, fun _ hp => nomatch hp⟩
    | cons q r ih =>
      intro hq
      obtain ⟨R, h1, h2⟩ := ih fun q' hq' => hq q' (.tail _ hq')
      obtain ⟨o, e⟩ := (b.objs q (hq q (.head _))).1.live
      refine ⟨(q.1, o) :: R, by simp [h1], fun p hp => ?_⟩
      rcases List.mem_cons.mp hp with rfl | hp
      · exact e
      · exact h2 p hp
  obtain ⟨R, h1, h2⟩ := hr rest fun q hq => List.mem_append_right _ hq
  have hnd := b.nd
  rw [List.map_append, List.nodup_append] at hnd
  have hz : ∀ p ∈ R, Z.get? p.1 = none ∧ p.1 ∈ rest.map (·.1) := fun p hp => by
    have : p.1 ∈ rest.map (·.1) := h1 ▸ List.mem_map_of_mem hp
    obtain ⟨q, hq, e⟩ := List.mem_map.mp this
    exact ⟨e ▸ (b.objs q (List.mem_append_right _ hq)).2, this⟩
  refine ⟨R, h1, ⟨b.base, b.sub, fun p hp => ?_, fun q hq => b.objs q (List.mem_append_left _ hq), hnd.1, fun p hp => ?_, ?_⟩, h2⟩
  · rcases List.mem_append.mp hp with hp | hp
    · exact ⟨h2 p hp, (hz p hp).1⟩
    · exact b.priv p hp
  · rcases List.mem_append.mp hp with hp | hp
    · exact fun hm => hnd.2.2 p.1 hm p.1 (hz p hp).2 rfl
    · exact fun hm => b.ap p hp (by rw [List.map_append]; exact List.mem_append_left _ hm)
  · rw [List.map_append, List.nodup_append]
    refine ⟨h1 ▸ hnd.2.1, b.yn, fun u hu v hv e => ?_⟩
    obtain ⟨p, hp, rfl⟩ := List.mem_map.mp hv
    exact b.ap p hp (by rw [List.map_append, ← h1, ← e]; exact List.mem_append_right _ hu)

/-- the frame rule -/
theorem Wn.frame {R : Heap → β → α → Prop} {t : List Value → Sem α} {xs : List V} {os rest : Sg} {K : β → Sg → Prop} (h : Wn G A os R t xs K) :
    Wn G A (os ++ rest) R t xs fun v σ' => ∃ os', σ' = os' ++ rest ∧ K v os' := by
  intro Y Z s vs b r
  obtain ⟨Rw, h1, bp, h2⟩ := b.part
  refine wpAny_mono (h _ Z s vs bp r) (fun a s' ⟨Z', x, os', le, b', sm, rr, k⟩ => ?_) fun _ _ e => e
  refine ⟨Z', x, os' ++ rest, le, ⟨b'.base, b'.sub, fun p hp => b'.priv p (List.mem_append_right _ hp), fun q hq => ?_, ?_, fun p hp hm => ?_, b.yn⟩, sm, rr, os', rfl, k⟩
  · rcases List.mem_append.mp hq with hq | hq
    · exact b'.objs q hq
    · have : q.1 ∈ Rw.map (·.1) := h1 ▸ List.mem_map_of_mem hq
      obtain ⟨p, hp, e⟩ := List.mem_map.mp this
      have hp' := b'.priv p (List.mem_append_left _ hp)
      rw [e] at hp'
      exact ⟨(b.objs q (List.mem_append_right _ hq)).1.raw le (e ▸ h2 p hp) hp'.1, hp'.2⟩
  · rw [List.map_append, List.nodup_append]
    have hnd := b.nd
    rw [List.map_append, List.nodup_append] at hnd
    refine ⟨b'.nd, hnd.2.1, fun u hu v hv e => ?_⟩
    subst e
    rw [← h1] at hv
    obtain ⟨p, hp, rfl⟩ := List.mem_map.mp hv
    exact b'.ap p (List.mem_append_left _ hp) hu
  · rw [List.map_append] at hm
    rcases List.mem_append.mp hm with hm | hm
    · exact b'.ap p (List.mem_append_right _ hp) hm
    · exact b.ap p hp (by rw [List.map_append]; exact List.mem_append_right _ hm)

theorem Wn.mono {R : Heap → β → α → Prop} {K K' : β → Sg → Prop} {t : List Value → Sem α} {xs : List V} (h : Wn G A σ R t xs K) (k : ∀ b σ', K b σ' → K' b σ') : Wn G A σ R t xs K' := fun Y Z s vs b r =>
  wpAny_mono (h Y Z s vs b r) (fun _ _ ⟨Z1, x, σ1, h1, h2, h3, h4, h5⟩ => ⟨Z1, x, σ1, h1, h2, h3, h4, k _ _ h5⟩) fun _ _ e => e
theorem Wn.perm {R : Heap → β → α → Prop} {K : β → Sg → Prop} {t : List Value → Sem α} {xs : List V} {σ' : Sg} (h : Wn G A σ' R t xs K) (hs : σ'.Perm σ) : Wn G A σ R t xs K := fun Y Z s vs b r => h Y Z s vs (b.perm hs) r

/-- what a def of the text promises -/
def Fn (G : Cx) (n : Nat) (f : Addr) (os : Sg) (args : List V) (K : V → Sg → Prop) : Prop := ∀ A, Room n A → Wn G A os (VR G) (cl (.ref f)) args K
theorem Fn.use {n m : Nat} {f : Addr} {os rest : Sg} {args : List V} {K K' : V → Sg → Prop} (h : Fn G n f os args K) (r : Room m A) (hs : Split os rest σ) (k : ∀ v os', K v os' → K' v (os' ++ rest)) (hm : n ≤ m := by omega) :
    Wn G A σ (VR G) (cl (.ref f)) args K' :=
  ((h A (r.le hm)).frame.mono fun v σ' ⟨os', e, kk⟩ => e ▸ k v os' kk).perm hs.perm.symm

/-- whoever sees the one sees the other -/
def Sees (G : Cx) (σ os : Sg) : Prop := ∀ Y Z h, B G Y Z σ h → B G Y Z os h
theorem Sees.drop {os : Sg} (h : os.Sublist σ) : Sees G σ os := fun _ _ _ b => b.drop h
theorem Sees.refl (σ : Sg) : Sees G σ σ := fun _ _ _ b => b
theorem Sees.trans {a b c : Sg} (h : Sees G a b) (k : Sees G b c) : Sees G a c := fun Y Z x q => k Y Z x (h Y Z x q)

structure FnAt (G : Cx) (f : Addr) (F : Fd) (q : Str) (c : Value) : Prop where
  ex : ∃ (o : Obj) (fd : FuncData), G.H0.get? f = some o ∧ o.data = .func fd ∧ fd.params = F.params ∧ fd.body = .stmts F.body ∧ fd.scope = F.scope ∧ fd.globals = mainGlobals ∧ fd.closure = [] ∧ fd.defaults = .none ∧
    fd.kwdefaults = .none ∧ fd.builtins = builtinsNs ∧ fd.qualname = q ∧ fd.code = c ∧ G.H0.CodeRec c q
@[reducible] def En (sc : Scope) (L : Addr) (cells : List (Str × Addr)) (q : Str) (f : Addr) (c : Value) : Env :=
  { scope := sc, locals := L, globals := mainGlobals, cells := cells, qual := q ++ ".<locals>.", func := some f, code := c, frame := some L, builtins := builtinsNs }

def locL (kindOf : Str → Option NameKind) : List (Str × V) → List (Str × V) → List (Str × V)
  | [], acc => acc
  | (n, v) :: r, acc => locL kindOf r (if kindOf n = some .local then st n v acc else acc)
def celC (kindOf : Str → Option NameKind) : List (Str × V) → (Str → Option V) → Str → Option V
  | [], m => m
  | (n, v) :: r, m => celC kindOf r (if kindOf n = some .local then m else fun y => if y = n then some v else m y)

theorem locL_ok {kindOf : Str → Option NameKind} {bs : List (Str × V)} {vs : List Value} {acc : List (Str × V)} {m : Str → Option Value} (r : VRs G Z (bs.map (·.2)) vs)
    (h : ∀ x v, lk acc x = some v → ∃ u, m x = some u ∧ VR G Z v u) : ∀ x v, lk (locL kindOf bs acc) x = some v → ∃ u, bindL kindOf ((bs.map (·.1)).zip vs) m x = some u ∧ VR G Z v u := by
  induction bs generalizing vs acc m with
  | nil => exact h
  | cons q bs ih =>
    cases r using VRs.cC with
    | cons hv hr =>
      refine ih hr fun y u e => ?_
      by_cases hk : kindOf q.1 = some .local
      · rw [if_pos hk] at e ⊢
        rw [lk_st] at e
        by_cases hy : y = q.1
        · rw [if_pos hy] at e; exact ⟨_, if_pos hy, Option.some.inj e ▸ hv⟩
        · rw [if_neg hy] at e; exact (h y u e).imp fun c h2 => ⟨(if_neg hy).trans h2.1, h2.2⟩
      · rw [if_neg hk] at e ⊢; exact h y u e
theorem celC_ok {kindOf : Str → Option NameKind} {bs : List (Str × V)} {vs : List Value} {acc : Str → Option V} {m : Str → Option Value} (r : VRs G Z (bs.map (·.2)) vs)
    (h : ∀ x, (acc x = none ∧ m x = none) ∨ ∃ v u, acc x = some v ∧ m x = some u ∧ VR G Z v u) : ∀ x, (celC kindOf bs acc x = none ∧ bindC kindOf ((bs.map (·.1)).zip vs) m x = none) ∨ ∃ v u, celC kindOf bs acc x = some v ∧ bindC kindOf ((bs.map (·.1)).zip vs) m x = some u ∧ VR G Z v u := by
  induction bs generalizing vs acc m with
  | nil => exact h
  | cons q bs ih =>
    cases r using VRs.cC with
    | cons hv hr =>
      refine ih hr fun y => ?_
      by_cases hk : kindOf q.1 = some .local
      · rw [if_pos hk, if_pos hk]; exact h y
      · rw [if_neg hk, if_neg hk]
        by_cases hy : y = q.1
        · exact .inr ⟨_, _, if_pos hy, if_pos hy, hv⟩
        · rw [if_neg hy, if_neg hy]; exact h y

def lkN (names : List (Str × NameKind)) (x : Str) : Option NameKind := names.lookup x
def startS (sc : Scope) (L : Addr) (bs : List (Str × V)) (os : Sg) : Sg :=
  (L, .ns (locL (sc.names.lookup ·) bs [])) :: ((cellsFrom (L + 1) sc.names []).map fun q => (q.2, MO.cell (celC (sc.names.lookup ·) bs (fun _ => none) q.1))) ++ os

theorem vrs_map {xs : List V} : ∀ {ps : List Str}, ps.length = xs.length → (ps.zip xs).map (·.2) = xs ∧ (ps.zip xs).map (·.1) = ps := by
  intro ps h
  exact ⟨by rw [← List.unzip_snd, List.unzip_zip (by omega)], by rw [← List.unzip_fst, List.unzip_zip (by omega)]⟩

theorem bd_fd {p : Arguments} {as : Args} {Q : Sem (List (Str × Value))} (h : ∀ n q b s g c d pm an cd ct bi, bindArgs ⟨n, q, p, b, s, g, c, .none, .none, d, pm, an, cd, ct, bi⟩ as = Q) (fd : FuncData) (h1 : fd.params = p) (h2 : fd.defaults = .none) (h3 : fd.kwdefaults = .none) : bindArgs fd as = Q := by
  cases fd
  cases h1
  cases h2
  cases h3
  exact h ..
theorem bd_len1 {P : List Value → Prop} (h : ∀ a, P [a]) (vs : List Value) (e : vs.length = 1) : P vs := by
  cases vs with | nil => cases e | cons a vs => cases vs with | nil => exact h a | cons b vs => cases e
theorem bd_len2 {P : List Value → Prop} (h : ∀ a b, P [a, b]) (vs : List Value) (e : vs.length = 2) : P vs := by
  cases vs with | nil => cases e | cons a vs => exact bd_len1 (P := fun vs => P (a :: vs)) (h a) vs (Nat.succ.inj e)
theorem bd_len3 {P : List Value → Prop} (h : ∀ a b c, P [a, b, c]) (vs : List Value) (e : vs.length = 3) : P vs := by
  cases vs with | nil => cases e | cons a vs => exact bd_len2 (P := fun vs => P (a :: vs)) (h a) vs (Nat.succ.inj e)
/-- how the plain parameters take their arguments -/
def BdOk (p : Arguments) (ps : List Str) (vs : List Value) : Prop := ∀ n q b s g c d pm an cd ct bi, bindArgs ⟨n, q, p, b, s, g, c, .none, .none, d, pm, an, cd, ct, bi⟩ ⟨vs, []⟩ = pure (ps.zip vs)
theorem bd1 {p : Arguments} {ps : List Str} (h : ∀ a, BdOk p ps [a]) (fd : FuncData) (h1 : fd.params = p) (h2 : fd.defaults = .none) (h3 : fd.kwdefaults = .none) : ∀ vs : List Value, vs.length = 1 → bindArgs fd ⟨vs, []⟩ = pure (ps.zip vs) :=
  bd_len1 fun a => bd_fd (h a) fd h1 h2 h3
theorem bd2 {p : Arguments} {ps : List Str} (h : ∀ a b, BdOk p ps [a, b]) (fd : FuncData) (h1 : fd.params = p) (h2 : fd.defaults = .none) (h3 : fd.kwdefaults = .none) : ∀ vs : List Value, vs.length = 2 → bindArgs fd ⟨vs, []⟩ = pure (ps.zip vs) :=
  bd_len2 fun a b => bd_fd (h a b) fd h1 h2 h3
theorem bd3 {p : Arguments} {ps : List Str} (h : ∀ a b c, BdOk p ps [a, b, c]) (fd : FuncData) (h1 : fd.params = p) (h2 : fd.defaults = .none) (h3 : fd.kwdefaults = .none) : ∀ vs : List Value, vs.length = 3 → bindArgs fd ⟨vs, []⟩ = pure (ps.zip vs) :=
  bd_len3 fun a b c => bd_fd (h a b c) fd h1 h2 h3
theorem Fn.intro {n : Nat} {f : Addr} {F : Fd} {q : Str} {c : Value} {os : Sg} {args : List V} {K : V → Sg → Prop} {mg mb : Str → Option Value} (ps : List Str) (T : Gl G mg mb) (h : FnAt G f F q c)
    (hb : ∀ fd : FuncData, fd.params = F.params → fd.defaults = .none → fd.kwdefaults = .none → ∀ vs : List Value, vs.length = args.length → bindArgs fd ⟨vs, []⟩ = pure (ps.zip vs))
    (hlen : ps.length = args.length) (hkind : ∀ x ∈ ps, F.scope.names.lookup x = some .local ∨ F.scope.names.lookup x = some .cell)
    (hnd : ((cellsFrom 0 F.scope.names []).map (·.1)).Nodup)
    (k : ∀ A L, Room n A → WSs G A (En F.scope L (cellsFrom (L + 1) F.scope.names []) q f c) (startS F.scope L (ps.zip args) os) F.body fun fl σ' => ∃ v, fl = .ret v ∧ ∃ os', K v os' ∧ Sees G σ' os')
    (hco : F.scope.isCoroutine = false := by with_unfolding_all rfl) (hgen : F.scope.isGenerator = false := by with_unfolding_all rfl) (hk : F.scope.kind = .function := by with_unfolding_all rfl) : Fn G (n + 1) f os args K := by
  intro A rm Y Z s vs b r
  obtain ⟨o, fd, h1, h2, h3, h4, h5, h6, h7, h8, h9, h10, h11, h12, h13⟩ := h.ex
  obtain ⟨m1, m2⟩ := vrs_map (xs := args) hlen
  have hvl := r.length
  have names : ∀ L, ((cellsFrom (L + 1) F.scope.names []).map (·.1)) = (cellsFrom 0 F.scope.names []).map (·.1) := fun L => cellsFrom_names _ _ _ _ _ rfl
  refine wpAny_call (codeAny_call_cells (fd := fd) (binds := ps.zip vs) rm.dd (b.up _ _ h1) h2 (T.lim.keeps b.up) (by rw [h12, h11]; exact h13.keeps b.up) h4 (hb fd h3 h8 h9 vs hvl) h7 ?_ ?_ (by rw [h5]; exact hco) (by rw [h5]; exact hgen) (by rw [h5]; exact hk))
  · intro x hx
    have hx1 : x.1 ∈ ps := by
      have := List.mem_map_of_mem (f := (·.1)) hx
      rwa [← List.unzip_fst, List.unzip_zip (by omega)] at this
    rw [h5]
    rcases hkind x.1 hx1 with e | e
    · exact .inl e
    · exact .inr ⟨e, cellsFrom_some _ _ _ (.inl e)⟩
  · intro s₁ X
    have env_eq : callEnvC fd s.heap.objs.size f = En F.scope s.heap.objs.size (cellsFrom (s.heap.objs.size + 1) F.scope.names []) q f c := by
      unfold callEnvC newEnv En
      rw [h5, h6, h10, h11, h12]
    rw [env_eq] at X ⊢
    obtain ⟨h', tk', es⟩ := X.toInCall.same
    have kk := k (A.deeper (En F.scope s.heap.objs.size (cellsFrom (s.heap.objs.size + 1) F.scope.names []) q f c)) s.heap.objs.size rm.deeper
    have le1 : Le s.heap s₁.heap := X.toInCall.keep
    have r' : VRs G Z ((ps.zip args).map (·.2)) vs := by rw [m1]; exact r
    have b1 := b.grow le1
    -- the cells
    have bc : ∀ cs : List (Str × Addr), (∀ z ∈ cs, z ∈ cellsFrom (s.heap.objs.size + 1) F.scope.names []) → cs.Pairwise (fun x y => x.2 ≠ y.2) →
        B G Y Z ((cs.map fun z => (z.2, MO.cell (celC (F.scope.names.lookup ·) (ps.zip args) (fun _ => none) z.1))) ++ os) s₁.heap := by
      intro cs
      induction cs with
      | nil => intro _ _; exact b1
      | cons z cs ih =>
        intro hz hp
        rw [List.pairwise_cons] at hp
        have ih' := ih (fun z' hz' => hz z' (.tail _ hz')) hp.2
        have hmem := hz z (.head _)
        have hab := X.above z.1 z.2 hmem
        have hlk := lookup_of_mem_nodup (cs := cellsFrom (s.heap.objs.size + 1) F.scope.names []) (n := z.1) (c := z.2) (by rw [names]; exact hnd) hmem
        have hcl := X.cell z.1 z.2 hlk
        have fr := b.fresh (Nat.le_of_lt hab)
        refine ⟨ih'.base, ih'.sub, ih'.priv, fun q' hq' => ?_, ?_, fun p' hp' hm => ?_, b.yn⟩
        · rcases List.mem_cons.mp hq' with rfl | hq'
          · refine ⟨?_, fr.2.2⟩
            have := celC_ok (kindOf := (F.scope.names.lookup ·)) (acc := fun _ => none) (m := fun _ => none) r' (fun _ => .inl ⟨rfl, rfl⟩) z.1
            rw [m2] at this
            rcases this with ⟨e1, e2⟩ | ⟨v, u, e1, e2, e3⟩
            · show OR G Z s₁.heap z.2 (.cell _)
              rw [e1]
              refine .cell0 ?_
              have : s₁.heap.IsCell z.2 (bindC (F.scope.names.lookup ·) (ps.zip vs) (fun _ => none) z.1) := hcl
              rw [e2] at this; exact this
            · show OR G Z s₁.heap z.2 (.cell _)
              rw [e1]
              have : s₁.heap.IsCell z.2 (bindC (F.scope.names.lookup ·) (ps.zip vs) (fun _ => none) z.1) := hcl
              rw [e2] at this
              exact .cell this e3
          · exact ih'.objs q' hq'
        · rw [List.map_cons, List.cons_append, List.map_cons, List.nodup_cons]
          refine ⟨fun hm => ?_, ih'.nd⟩
          rw [List.map_append, List.mem_append] at hm
          rcases hm with hm | hm
          · obtain ⟨q', hq', e'⟩ := List.mem_map.mp hm
            obtain ⟨z', hz', e''⟩ := List.mem_map.mp hq'
            exact hp.1 z' hz' (by rw [← e''] at e'; exact e'.symm)
          · exact fr.1 hm
        · rcases List.mem_cons.mp hm with e | hm
          · exact fr.2.1 (List.mem_map.mpr ⟨p', hp', e⟩)
          · exact ih'.ap p' hp' hm
    have bcs := bc _ (fun _ h => h) X.apart
    have frL := b.fresh (Nat.le_refl s.heap.objs.size)
    have bL : B G Y Z (startS F.scope s.heap.objs.size (ps.zip args) os) s₁.heap := by
      refine ⟨bcs.base, bcs.sub, bcs.priv, fun q' hq' => ?_, ?_, fun p' hp' hm => ?_, b.yn⟩
      · rcases List.mem_cons.mp hq' with rfl | hq'
        · refine ⟨.ns X.toInCall.ns fun x v e => ?_, frL.2.2⟩
          have := locL_ok (kindOf := (F.scope.names.lookup ·)) (acc := []) (m := fun _ => none) r' (fun _ _ e => nomatch e) x v e
          rw [m2] at this
          exact this
        · exact bcs.objs q' hq'
      · show (List.map _ (_ :: _)).Nodup
        rw [List.map_cons, List.nodup_cons]
        refine ⟨fun hm => ?_, bcs.nd⟩
        have hm : s.heap.objs.size ∈ List.map (·.1) (_ ++ os) := hm
        rw [List.map_append, List.mem_append] at hm
        rcases hm with hm | hm
        · obtain ⟨q', hq', e'⟩ := List.mem_map.mp hm
          obtain ⟨z', hz', e''⟩ := List.mem_map.mp hq'
          have := X.above z'.1 z'.2 hz'
          rw [← e''] at e'
          exact absurd this (by show ¬ (s.heap.objs.size < z'.2); rw [show z'.2 = s.heap.objs.size from e']; exact Nat.lt_irrefl _)
        · exact frL.1 hm
      · rcases List.mem_cons.mp hm with e | hm
        · exact frL.2.1 (List.mem_map.mpr ⟨p', hp', e⟩)
        · exact bcs.ap p' hp' hm
    refine wpAny_mono (kk Y Z s₁ bL) (fun fl s' ⟨Z', x, σ', le, b', sm, rr, v, ev, os', kv, hsub⟩ => ?_) fun _ _ e => e.elim
    subst ev
    cases rr with
    | ret rv => exact ⟨Z', v, os', le, hsub _ _ _ b', Sm.trans ⟨h', tk', es⟩ sm, rv, kv⟩
end
end
-- M5
section
section
variable {α β γ δ : Type} {G : Cx} {A A' : Around} {env : Env} {Y : List (Addr × Obj)} {Z : Heap} {s : Shared} {σ σ' : Sg} {x : Str} {p pos : Pos}

/-- two evaluations, a value kept beside -/
theorem WG_Sub {K : Sg → Prop} {o i : Expr} {v : V} (h : WE G A env σ o fun u σ1 => WE G A env σ1 i fun j σ2 => W3 G A σ2 UR (fun a b c => setItem a b c) u j v (fun _ σ3 => K σ3)) : WG G A env σ (.Subscript o i p) v K := by
  intro Y Z s a b r
  rw [assign_Subscript]
  refine wpAny_bind (wpAny_holding (h.bind b fun Z1 u σ1 a1 s1 le1 b1 sm1 r1 k1 => ?_))
  refine wpAny_bind (wpAny_holding (Wt.bind k1 b1 fun Z2 j σ2 a2 s2 le2 b2 sm2 r2 k2 => ?_))
  refine wpAny_bind (wpAny_standAt (wpAny_bind (wpAny_holding ?_)))
  refine wpAny_mono (k2 Y Z2 s2 _ _ _ b2 (r1.le le2) r2 ((r.le le1).le le2)) (fun _ s3 ⟨Z3, _, σ3, le3, b3, sm3, _, k3⟩ => ?_) fun _ _ e => e
  exact wpAny_release' ⟨Z3, (), σ3, fun c o e => le3 c o (le2 c o (le1 c o e)), b3, (sm1.trans sm2).trans sm3, trivial, k3⟩

theorem rd_set {h : Heap} {w : Value} {u : PyData} (hu : Rd h w u) {vs : List Value} {xs : List PyData} (r : RdAll h vs xs) : ∀ k : Nat, RdAll h (vs.set k w) (xs.set k u) :=
  RdAll.ind (P := fun vs xs => ∀ k : Nat, RdAll h (vs.set k w) (xs.set k u)) (fun _ => .nil) (fun a r ih k => match k with | 0 => .cons hu r | k + 1 => .cons a (ih k)) r
theorem set_l {K : Sg → Prop} {l : Addr} {xs : List PyData} {k : Int} {u : PyData} (up : Up l (.l xs) (.l (xs.set k.toNat u)) σ σ') (h0 : 0 ≤ k) (h1 : k < xs.length) (hlen : xs.length < 2 ^ 63) (q : K σ') :
    W3 G A σ UR (fun a b c => setItem a b c) (.r l) (.d (.int k)) (.d u) (fun _ σ3 => K σ3) := by
  intro Y Z s a b c bb ra rb rc
  cases ra using VR.cR; cases rb using VR.cD with | d rb => cases rc using VR.cD with | d rc =>
    cases rb using Rd.cI
    obtain ⟨vs, n, e1, e2⟩ := (bb.objs _ up.mem).1.lst
    have hl := reads_len e2
    refine ki_setAt e1 h0 (by omega) (by simp [hl]; exact h1) ⟨Z, (), σ', fun _ _ e => e, bb.upd up (Heap.SameBut.update ..).extBut (.l (n := n) (Heap.get?_update_self _ e1 rfl |>.trans ?_) (rd_set rc e2 k.toNat)), ⟨_, _, rfl⟩, trivial, q⟩
    simp [Obj.mapSeq]
end
section
variable {α β γ δ : Type} {G : Cx} {A A' : Around} {env : Env} {Y : List (Addr × Obj)} {Z : Heap} {s : Shared} {σ σ' : Sg} {x : Str} {p pos : Pos}

/-! the well, opened and shut -/
theorem B.sub1 {h : Heap} {a : Addr} {m m' : MO} (b : B G Y Z σ h) (u : Up a m m' σ σ') (o : OR G Z h a m → OR G Z h a m') : B G Y Z σ' h :=
  b.upd u (fun _ _ _ e => e) (o (b.objs _ u.mem).1)
theorem open_w {R : Heap → β → α → Prop} {K : β → Sg → Prop} {t : Sem α} {a : Addr} (hm : (a, MO.w) ∈ σ)
    (h : ∀ (ns : List Int) (spot r : Int), ns.length ≤ 63 → 0 ≤ spot → ∀ σ', Up a .w (.l [.list (ns.map .int), .int spot, .int r]) σ σ' → Wt G A σ' R t K) : Wt G A σ R t K := by
  intro Y Z s b
  have ⟨o, _⟩ := b.objs _ hm
  cases o with
  | @w vs n ns spot r h1 h2 h3 h4 =>
    have ex : ∀ σ : Sg, (a, MO.w) ∈ σ → ∃ σ', Up a MO.w (.l [.list (ns.map .int), .int spot, .int r]) σ σ' := by
      intro σ
      induction σ with
      | nil => intro q; cases q
      | cons p l ih =>
        intro q
        cases q with
        | head => exact ⟨_, .head _⟩
        | tail _ q => obtain ⟨σ', u⟩ := ih q; exact ⟨_, .tail u⟩
    obtain ⟨σ', u⟩ := ex σ hm
    exact h ns spot r h3 h4 σ' u Y Z s (b.sub1 u fun _ => .l h1 h2)
theorem shut_w {R : Heap → β → α → Prop} {K : β → Sg → Prop} {t : Sem α} {a : Addr} {ns : List Int} {spot r : Int} (u : Up a (.l [.list (ns.map .int), .int spot, .int r]) .w σ σ') (h3 : ns.length ≤ 63) (h4 : 0 ≤ spot)
    (h : Wt G A σ' R t K) : Wt G A σ R t K := fun Y Z s b => h Y Z s (b.sub1 u fun o => by
  obtain ⟨vs, n, h1, h2⟩ := o.lst
  exact .w h1 h2 h3 h4)
theorem B.shut {h : Heap} {a : Addr} {ns : List Int} {spot r : Int} (b : B G Y Z σ h) (u : Up a (.l [.list (ns.map .int), .int spot, .int r]) .w σ σ') (h3 : ns.length ≤ 63) (h4 : 0 ≤ spot) : B G Y Z σ' h := b.sub1 u fun o => by
  obtain ⟨vs, n, h1, h2⟩ := o.lst
  exact .w h1 h2 h3 h4
/-- the answers' state may be seen otherwise -/
theorem Wt.post {R : Heap → β → α → Prop} {K K' : β → Sg → Prop} {t : Sem α} (h : Wt G A σ R t K) (k : ∀ b σ', K b σ' → ∃ σ'', K' b σ'' ∧ ∀ Y Z h, B G Y Z σ' h → B G Y Z σ'' h) : Wt G A σ R t K' := fun Y Z s b =>
  wpAny_mono (h Y Z s b) (fun _ _ ⟨Z1, x, σ1, h1, h2, h3, h4, h5⟩ => let ⟨σ2, k1, k2⟩ := k _ _ h5; ⟨Z1, x, σ2, h1, k2 _ _ _ h2, h3, h4, k1⟩) fun _ _ e => e
theorem Wn.post {R : Heap → β → α → Prop} {K K' : β → Sg → Prop} {t : List Value → Sem α} {xs : List V} (h : Wn G A σ R t xs K) (k : ∀ b σ', K b σ' → ∃ σ'', K' b σ'' ∧ ∀ Y Z h, B G Y Z σ' h → B G Y Z σ'' h) : Wn G A σ R t xs K' := fun Y Z s vs b r =>
  wpAny_mono (h Y Z s vs b r) (fun _ _ ⟨Z1, x, σ1, h1, h2, h3, h4, h5⟩ => let ⟨σ2, k1, k2⟩ := k _ _ h5; ⟨Z1, x, σ2, h1, k2 _ _ _ h2, h3, h4, k1⟩) fun _ _ e => e
theorem Wn.pre {R : Heap → β → α → Prop} {K : β → Sg → Prop} {t : List Value → Sem α} {xs : List V} (h : Wn G A σ' R t xs K) (k : ∀ Y Z h, B G Y Z σ h → B G Y Z σ' h) : Wn G A σ R t xs K := fun Y Z s vs b r => h Y Z s vs (k _ _ _ b) r
end

/-! the program's own names -/
def bl : List (Str × Value) := [("len", .builtin "len"), ("range", .type "range"), ("list", .type "list"), ("tuple", .type "tuple"), ("str", .type "str"), ("isinstance", .builtin "isinstance"),
  ("enumerate", .type "enumerate"), ("zip", .type "zip"), ("sorted", .builtin "sorted"), ("all", .builtin "all")]
def fl : List (Str × Nat) := [("is_refined_pointer", 2), ("is_refined_value", 3), ("are_refined", 4), ("is_refined", 5), ("_law_draw", 7), ("_law_one", 8), ("_law_types", 9), ("_law_leaf", 10), ("_law_run", 11), ("_law_changed", 12),
  ("_law_taken", 13), ("_law_built", 14), ("_law_may_stand", 15), ("_law_plain", 16)]
structure Pg (G : Cx) where
  mg : Str → Option Value
  mb : Str → Option Value
  a : Nat → Addr
  q : Nat → Str
  c : Nat → Value
  T : Gl G mg mb
  hb : ∀ x v, bl.lookup x = some v → mg x = none ∧ mb x = some v
  hf : ∀ x i, fl.lookup x = some i → mg x = some (.ref (a i)) ∧ FnAt G (a i) (fdI i) (q i) (c i)

section
variable {α β γ δ : Type} {G : Cx} {A A' : Around} {env : Env} {Y : List (Addr × Obj)} {Z : Heap} {s : Shared} {σ σ' : Sg} {x : Str} {p pos : Pos}
theorem Pg.callee (P : Pg G) {i : Nat} (h : fl.lookup x = some i) : Callee G (.ref (P.a i)) := by
  obtain ⟨_, o, fd, h1, h2, _⟩ := (P.hf x i h)
  exact Callee.fn h1 h2
theorem WE_CallF (P : Pg G) {K : V → Sg → Prop} {fp : Pos} {e : Expr} {es : List Expr} {i : Nat} (h : WEs G A env p σ (e :: es) fun vs σ2 => Wn G A σ2 (VR G) (cl (.ref (P.a i))) vs K)
    (hi : fl.lookup x = some i := by with_unfolding_all rfl) (he : starEach (e :: es) env = (false, eval e env) :: starEach es env := by with_unfolding_all rfl) (hplain : (backTo p (starEach es env)).any (·.1) = false := by with_unfolding_all rfl)
    (hg : env.globals = mainGlobals := by with_unfolding_all rfl) (hk : env.scope.kind = .function := by with_unfolding_all rfl) (hx : env.kindOf x = some .globalImplicit := by with_unfolding_all rfl) (hd : (x == ("__debug__" : Str)) = false := by decide) : WE G A env σ (.Call (.Name x fp) (e :: es) [] p) K :=
  WE_Call (WE_glob P.T (P.hf x i hi).1 ⟨_, rfl, P.callee hi, h⟩ hg hk hx hd) he hplain
theorem WE_CallB (P : Pg G) {K : V → Sg → Prop} {fp : Pos} {e : Expr} {es : List Expr} {v : Value} (h : WEs G A env p σ (e :: es) fun vs σ2 => Wn G A σ2 (VR G) (cl v) vs K)
    (hi : bl.lookup x = some v := by with_unfolding_all rfl) (hc : Callee G v := by first | exact Callee.blt _ | exact Callee.typ _) (he : starEach (e :: es) env = (false, eval e env) :: starEach es env := by with_unfolding_all rfl) (hplain : (backTo p (starEach es env)).any (·.1) = false := by with_unfolding_all rfl)
    (hg : env.globals = mainGlobals := by with_unfolding_all rfl) (hb : env.builtins = builtinsNs := by with_unfolding_all rfl) (hk : env.scope.kind = .function := by with_unfolding_all rfl) (hx : env.kindOf x = some .globalImplicit := by with_unfolding_all rfl) (hd : (x == ("__debug__" : Str)) = false := by decide) : WE G A env σ (.Call (.Name x fp) (e :: es) [] p) K :=
  WE_Call (WE_blt P.T (P.hb x v hi).1 (P.hb x v hi).2 ⟨_, rfl, hc, h⟩ hg hb hk hx hd) he hplain
end
section
variable {α β γ δ : Type} {G : Cx} {A A' : Around} {env : Env} {Y : List (Addr × Obj)} {Z : Heap} {s : Shared} {σ σ' : Sg} {x : Str} {p pos : Pos} {n : Nat}
theorem le_of_extBut {h h' : Heap} (e : Heap.ExtBut h.objs.size h h') : Le h h' := fun b o q => e b o (Nat.ne_of_lt (Heap.lt_size q)) q

/-- values are put into targets, one after the other -/
def WGs (G : Cx) (A : Around) (env : Env) (σ : Sg) (ts : List Expr) (vs : List V) (K : Sg → Prop) : Prop :=
  Wn G A σ UR (fun as => assignInOrder ((assignEach ts env).map (·.2)) as) vs fun _ σ' => K σ'
theorem WGs_nil {K : Sg → Prop} (k : K σ) : WGs G A env σ [] [] K := by
  intro Y Z s as b r
  cases r using VRs.cN
  exact wpAny_assignInOrder_none ⟨Z, (), σ, fun _ _ e => e, b, .refl s, trivial, k⟩
theorem WGs_cons {K : Sg → Prop} {t : Expr} {ts : List Expr} {v : V} {vs : List V} (h : WG G A env σ t v fun σ1 => WGs G A env σ1 ts vs K)
    (he : assignEach (t :: ts) env = (false, assign t env) :: assignEach ts env := by with_unfolding_all rfl) : WGs G A env σ (t :: ts) (v :: vs) K := by
  intro Y Z s as b r
  cases r using VRs.cC with | cons r r' =>
    show wpAny _ A (assignInOrder ((assignEach (t :: ts) env).map (·.2)) _) _ _ _
    rw [he]
    refine wpAny_assignInOrder_more (wpAny_mono (h Y Z s _ b r) (fun _ s1 ⟨Z1, _, σ1, le1, b1, sm1, _, k1⟩ => ?_) fun _ _ e => e)
    exact wpBack le1 sm1 (k1 Y Z1 s1 _ b1 (r'.le le1))
theorem WGs_nilD {K : Sg → Prop} (k : K σ) : WGs G A env σ [] (([] : List PyData).map .d) K := WGs_nil k
theorem WGs_consD {K : Sg → Prop} {t : Expr} {ts : List Expr} {u : PyData} {us : List PyData} (h : WG G A env σ t (.d u) fun σ1 => WGs G A env σ1 ts (us.map .d) K)
    (he : assignEach (t :: ts) env = (false, assign t env) :: assignEach ts env := by with_unfolding_all rfl) : WGs G A env σ (t :: ts) ((u :: us).map .d) K := WGs_cons h he
theorem rd_vrs {us : List PyData} {vs : List Value} (r : RdAll Z vs us) : VRs G Z (us.map .d) vs := RdAll.ind (P := fun vs us => VRs G Z (us.map .d) vs) .nil (fun h _ k => .cons (.d h) k) r
theorem WG_TupD {K : Sg → Prop} {ts : List Expr} {us : List PyData} {c : Nat} (rm : Room n A) (h : WGs G A env σ ts (us.map .d) K)
    (hn : (assignEach ts env).length = us.length := by with_unfolding_all rfl) (hs : (assignEach ts env).findIdx? (·.1) = none := by with_unfolding_all rfl) : WG G A env σ (.Tuple ts c p) (.d (.tuple us)) K := by
  intro Y Z s a b r
  obtain ⟨l, vs, n, rfl, h1, h2⟩ := r.tup
  refine wpAny_assign_Tuple rm.h (isT (b.sub _ _ h1)) (by rw [hn]; simp [rd_length h2]) hs fun h' e => ?_
  exact wpBack (fun _ _ e => e) ⟨_, _, rfl⟩ (h Y Z { s with heap := h' } _ (b.grow (le_of_extBut e)) (by simpa using rd_vrs h2))
end
end
-- M6
section
/-! views -/
def NsSub (loc loc' : List (Str × V)) : Prop := ∀ x v, lk loc' x = some v → lk loc x = some v
theorem NsSub.nil (loc : List (Str × V)) : NsSub loc [] := fun _ _ e => nomatch e
theorem NsSub.cons {loc r : List (Str × V)} {x : Str} {v : V} (h : lk loc x = some v) (k : NsSub loc r) : NsSub loc ((x, v) :: r) := fun y u e => by
  unfold lk at e
  split at e
  · next q => cases e; rw [q]; exact h
  · exact k y u e
theorem NsSub.refl (loc : List (Str × V)) : NsSub loc loc := fun _ _ e => e
inductive Vw : Sg → Sg → Prop
  | nil : Vw [] []
  | same {q : Addr × MO} {a b : Sg} : Vw a b → Vw (q :: a) (q :: b)
  | ns {L : Addr} {loc loc' : List (Str × V)} {a b : Sg} : NsSub loc loc' → Vw a b → Vw ((L, .ns loc) :: a) ((L, .ns loc') :: b)
  | drop {q : Addr × MO} {a b : Sg} : Vw a b → Vw (q :: a) b
theorem Vw.refl : ∀ a : Sg, Vw a a
  | [] => .nil
  | q :: r => .same (Vw.refl r)
theorem Vw.adr {a b : Sg} (h : Vw a b) : (b.map (·.1)).Sublist (a.map (·.1)) := by
  induction h with
  | nil => exact .slnil
  | same _ ih => exact ih.cons₂ _
  | ns _ _ ih => exact ih.cons₂ _
  | drop _ ih => exact ih.cons _
section
variable {α β γ δ : Type} {G : Cx} {A A' : Around} {env : Env} {Y : List (Addr × Obj)} {Z : Heap} {s : Shared} {σ σ' : Sg} {x : Str} {p pos : Pos} {n : Nat}
theorem Vw.objs {h : Heap} {a b : Sg} (v : Vw a b) (H : ∀ q ∈ a, OR G Z h q.1 q.2 ∧ Z.get? q.1 = none) : ∀ q ∈ b, OR G Z h q.1 q.2 ∧ Z.get? q.1 = none := by
  induction v with
  | nil => exact H
  | same _ ih =>
    intro q hq
    rcases List.mem_cons.mp hq with rfl | hq
    · exact H _ (.head _)
    · exact ih (fun q h => H q (.tail _ h)) q hq
  | ns hs _ ih =>
    intro q hq
    rcases List.mem_cons.mp hq with rfl | hq
    · have := H _ (.head _)
      refine ⟨?_, this.2⟩
      cases this.1 with
      | ns h1 h2 => exact .ns h1 fun x v e => h2 x v (hs x v e)
    · exact ih (fun q h => H q (.tail _ h)) q hq
  | drop _ ih => exact ih fun q h => H q (.tail _ h)
theorem Vw.sees {a b : Sg} (v : Vw a b) : Sees G a b := fun Y Z h bb =>
  ⟨bb.base, bb.sub, bb.priv, v.objs bb.objs, bb.nd.sublist v.adr, fun p hp hm => bb.ap p hp (v.adr.subset hm), bb.yn⟩

/-! freezing -/
inductive Del (q : Addr × MO) : Sg → Sg → Prop
  | head (r : Sg) : Del q (q :: r) r
  | tail {p : Addr × MO} {r r' : Sg} : Del q r r' → Del q (p :: r) (p :: r')
theorem Del.mem {q : Addr × MO} (d : Del q σ σ') : q ∈ σ := by
  induction d with
  | head r => exact .head _
  | tail _ ih => exact .tail _ ih
theorem Del.sub {q : Addr × MO} (d : Del q σ σ') : σ'.Sublist σ := by
  induction d with
  | head r => exact (List.Sublist.refl _).cons _
  | tail _ ih => exact ih.cons₂ _
theorem Del.off {q : Addr × MO} (d : Del q σ σ') (nd : (σ.map (·.1)).Nodup) : q.1 ∉ σ'.map (·.1) := by
  induction d with
  | head r => simp only [List.map_cons, List.nodup_cons] at nd; exact nd.1
  | tail d ih =>
    simp only [List.map_cons, List.nodup_cons] at nd
    intro hm
    rcases List.mem_cons.mp hm with e | hm
    · have e : q.1 = _ := e
      have := List.mem_map_of_mem (f := (·.1)) d.mem
      rw [e] at this; exact nd.1 this
    · exact ih nd.2 hm
/-- a moving part is frozen: whatever held of it holds in the frozen part -/
theorem B.freeze {h : Heap} {q : Addr × MO} (b : B G Y Z σ h) (d : Del q σ σ') : ∃ Z', Le Z Z' ∧ B G Y Z' σ' h ∧ OR G Z' Z' q.1 q.2 := by
  obtain ⟨Z', le, b', fz⟩ := (b.drop d.sub).max
  refine ⟨Z', le, b', ?_⟩
  exact (b.objs _ d.mem).1.le le fun o e => fz _ _ e (d.off b.nd) fun hm => by
    obtain ⟨p, hp, e'⟩ := List.mem_map.mp hm
    exact b.ap p hp (e' ▸ List.mem_map_of_mem d.mem)
inductive Fz (a : Addr) : MO → V → Prop
  | l (xs : List PyData) : Fz a (.l xs) (.d (.list xs))
  | vl (xs : List V) : Fz a (.vl xs) (.vl xs)
  | sd (kvs : List (Str × PyData)) : Fz a (.sd kvs) (.sd kvs)
theorem Fz.vr {a : Addr} {m : MO} {v : V} (f : Fz a m v) (o : OR G Z Z a m) : VR G Z v (.ref a) := by
  cases f with
  | l xs => cases o using OR.cLs with | l h1 h2 => exact .d (.list h1 h2)
  | vl xs => cases o using OR.cVl with | vl h1 h2 => exact .vl ⟨_, h1, rfl, _, rfl⟩ h2
  | sd kvs => cases o using OR.cSd with | sd h1 h2 => exact .sd h1 h2
theorem WE_frz {K : V → Sg → Prop} {e : Expr} (h : WE G A env σ e fun v σ1 => ∃ a m v' σ2, v = .r a ∧ Fz a m v' ∧ Del (a, m) σ1 σ2 ∧ K v' σ2) : WE G A env σ e K := by
  intro Y Z s b
  refine h.bind b fun Z1 v σ1 a s1 le1 b1 sm1 r1 k1 => ?_
  obtain ⟨a, m, v', σ2, rfl, f, d, k⟩ := k1
  obtain ⟨Z2, le2, b2, o⟩ := b1.freeze d
  cases r1
  exact ⟨Z2, v', σ2, fun c o e => le2 c o (le1 c o e), b2, sm1, f.vr o, k⟩

/-! sequences -/
inductive Seqs : V → List V → Prop
  | l (xs : List PyData) : Seqs (.d (.list xs)) (xs.map .d)
  | t (xs : List PyData) : Seqs (.d (.tuple xs)) (xs.map .d)
  | vl (xs : List V) : Seqs (.vl xs) xs
  | vt (xs : List V) : Seqs (.vt xs) xs
theorem rd_vrs2 {us : List PyData} {vs : List Value} (r : RdAll Z vs us) : VRs G Z (us.map .d) vs := rd_vrs r
theorem Seqs.at {v : V} {xs : List V} {a : Value} (q : Seqs v xs) (r : VR G Z v a) : ∃ l vs, a = .ref l ∧ (Z.IsList l vs.toArray ∨ Z.IsTuple l vs.toArray) ∧ VRs G Z xs vs := by
  cases q with
  | l xs => obtain ⟨l, vs, n, e, h1, h2⟩ := r.list; exact ⟨l, vs, e, .inl (isL h1), rd_vrs h2⟩
  | t xs => obtain ⟨l, vs, n, e, h1, h2⟩ := r.tup; exact ⟨l, vs, e, .inr (isT h1), rd_vrs h2⟩
  | vl xs => cases r using VR.cVl with | vl h1 h2 => exact ⟨_, _, rfl, .inl h1, h2⟩
  | vt xs => cases r using VR.cVt with | vt h1 h2 => exact ⟨_, _, rfl, .inr h1, h2⟩

/-! iterators -/
abbrev MM (G : Cx) : Model := model G.prog G.w
/-- one step of an iterator: what it leaves -/
inductive Stp (G : Cx) (Y : List (Addr × Obj)) (Z : Heap) (σ : Sg) (s : Shared) (S : List (Addr × Obj) → Prop) (x : V) (v : Value) (s2 : Shared) : Prop
  | i (Z2 : Heap) (Yi' : List (Addr × Obj)) (le : Le Z Z2) (b : B G (Yi' ++ Y) Z2 σ s2.heap) (sm : Sm s s2) (h : S Yi') (r : VR G Z2 x v) : Stp G Y Z σ s S x v s2
structure Itr (G : Cx) (A : Around) (target : Expr) (it : Value) (xs : List V) (Z0 : Heap) (S : Nat → List (Addr × Obj) → Prop) : Prop where
  step : ∀ i x Y Yi Z σ (s : Shared), xs[i]? = some x → S i Yi → Le Z0 Z → B G (Yi ++ Y) Z σ s.heap →
    wpAny (MM G) A (pyNext it) (fun r s1 => ∃ v, r = some v ∧ wpAny (MM G) A (letOwnedTupleGo target it v) (fun _ s2 => Stp G Y Z σ s (S (i + 1)) x v s2) E0 s1) E0 s
  done : ∀ Y Yi Z σ (s : Shared), S xs.length Yi → Le Z0 Z → B G (Yi ++ Y) Z σ s.heap → wpAny (MM G) A (pyNext it) (fun r s1 => r = none ∧ B G Y Z σ s1.heap ∧ Sm s s1) E0 s
  self : ∀ i Y Yi Z σ (s : Shared) (Q : Value → Shared → Prop), S i Yi → Le Z0 Z → B G (Yi ++ Y) Z σ s.heap → Q it s → wpAny (MM G) A (pyIter it) Q E0 s
/-- what the head of a loop leaves -/
inductive Wi (G : Cx) (A : Around) (target : Expr) (Y : List (Addr × Obj)) (Z : Heap) (s : Shared) (K : List V → Sg → Prop) (it : Value) (s2 : Shared) : Prop
  | i (Z2 : Heap) (σ2 : Sg) (xs : List V) (S : Nat → List (Addr × Obj) → Prop) (Y0 : List (Addr × Obj)) (le : Le Z Z2) (b : B G (Y0 ++ Y) Z2 σ2 s2.heap) (sm : Sm s s2) (h0 : S 0 Y0) (T : Itr G A target it xs Z2 S) (k : K xs σ2) : Wi G A target Y Z s K it s2
/-- between the turns of a loop -/
inductive Lv (G : Cx) (Y : List (Addr × Obj)) (Z : Heap) (s : Shared) (S : Nat → List (Addr × Obj) → Prop) (I : Nat → Sg → Prop) (n : Nat) (k : Nat) (s' : Shared) : Prop
  | i (i : Nat) (Z' : Heap) (σ' : Sg) (Y' : List (Addr × Obj)) (hk : k = n + 1 - i) (hi : i ≤ n) (le : Le Z Z') (b : B G (Y' ++ Y) Z' σ' s'.heap) (sm : Sm s s') (hS : S i Y') (hI : I i σ') : Lv G Y Z s S I n k s'
theorem Lv.next {G : Cx} {Y : List (Addr × Obj)} {Z : Heap} {s : Shared} {S : Nat → List (Addr × Obj) → Prop} {I : Nat → Sg → Prop} {n i : Nat} (hlt : i < n) {Z' : Heap} {σ : Sg} {Y' : List (Addr × Obj)} {s' : Shared} (le : Le Z Z') (b : B G (Y' ++ Y) Z' σ s'.heap) (sm : Sm s s')
    (hS : S (i + 1) Y') (h : ∃ σ', I (i + 1) σ' ∧ ∀ Y Z h, B G Y Z σ h → B G Y Z σ' h) : ∃ m, m < n + 1 - i ∧ Lv G Y Z s S I n m s' :=
  let ⟨σ', hI, se⟩ := h
  ⟨n + 1 - (i + 1), by omega, ⟨i + 1, Z', σ', Y', rfl, hlt, le, se _ _ _ b, sm, hS, hI⟩⟩
def WI (G : Cx) (A : Around) (env : Env) (σ : Sg) (target e : Expr) (K : List V → Sg → Prop) : Prop := ∀ Y Z s, B G Y Z σ s.heap →
  wpAny (MM G) A (eval e env) (fun x s1 => wpAny (MM G) A (pyIter x) (fun it s2 => Wi G A target Y Z s K it s2) E0 s1) E0 s

/-- the private objects have moved on -/
theorem B.mv {h h' : Heap} {Yi Yi' : List (Addr × Obj)} (b : B G (Yi ++ Y) Z σ h) (ha : Yi'.map (·.1) = Yi.map (·.1)) (hi : ∀ p ∈ Yi', h'.get? p.1 = some p.2) (hk : ∀ a o, a ∉ Yi.map (·.1) → h.get? a = some o → h'.get? a = some o) : B G (Yi' ++ Y) Z σ h' := by
  have yn := b.yn
  rw [List.map_append, List.nodup_append] at yn
  have old : ∀ {p : Addr}, p ∈ Yi'.map (·.1) → Z.get? p = none := fun {p} hp => by
    rw [ha] at hp
    obtain ⟨q, hq, rfl⟩ := List.mem_map.mp hp
    exact (b.priv q (List.mem_append_left _ hq)).2
  refine ⟨b.base, fun a o e => hk a o (fun hm => ?_) (b.sub a o e), fun p hp => ?_, fun q hq => ⟨(b.objs q hq).1.le (fun _ _ e => e) fun o e => hk _ o (fun hm => ?_) e, (b.objs q hq).2⟩, b.nd, fun p hp => ?_, ?_⟩
  · rw [old (ha ▸ hm)] at e; cases e
  · rcases List.mem_append.mp hp with hp | hp
    · exact ⟨hi p hp, old (List.mem_map_of_mem hp)⟩
    · exact ⟨hk _ _ (fun hm => yn.2.2 _ hm _ (List.mem_map_of_mem hp) rfl) (b.priv p (List.mem_append_right _ hp)).1, (b.priv p (List.mem_append_right _ hp)).2⟩
  · obtain ⟨p, hp, e'⟩ := List.mem_map.mp hm
    exact b.ap p (List.mem_append_left _ hp) (e' ▸ List.mem_map_of_mem hq)
  · rcases List.mem_append.mp hp with hp | hp
    · have : p.1 ∈ Yi.map (·.1) := ha ▸ List.mem_map_of_mem hp
      obtain ⟨q, hq, e⟩ := List.mem_map.mp this
      rw [← e]
      exact b.ap q (List.mem_append_left _ hq)
    · exact b.ap p (List.mem_append_right _ hp)
  · rw [List.map_append, ha, ← List.map_append]; exact b.yn
/-- the private objects have gone -/
theorem B.gone {h h' : Heap} {Yi : List (Addr × Obj)} (b : B G (Yi ++ Y) Z σ h) (hk : ∀ a o, a ∉ Yi.map (·.1) → h.get? a = some o → h'.get? a = some o) : B G Y Z σ h' := by
  have yn := b.yn
  rw [List.map_append, List.nodup_append] at yn
  refine ⟨b.base, fun a o e => hk a o (fun hm => ?_) (b.sub a o e), fun p hp => ?_, fun q hq => ⟨(b.objs q hq).1.le (fun _ _ e => e) fun o e => hk _ o (fun hm => ?_) e, (b.objs q hq).2⟩, b.nd, fun p hp => b.ap p (List.mem_append_right _ hp), yn.2.1⟩
  · obtain ⟨q, hq, rfl⟩ := List.mem_map.mp hm
    rw [(b.priv q (List.mem_append_left _ hq)).2] at e; cases e
  · exact ⟨hk _ _ (fun hm => yn.2.2 _ hm _ (List.mem_map_of_mem hp) rfl) (b.priv p (List.mem_append_right _ hp)).1, (b.priv p (List.mem_append_right _ hp)).2⟩
  · obtain ⟨p, hp, e'⟩ := List.mem_map.mp hm
    exact b.ap p (List.mem_append_left _ hp) (e' ▸ List.mem_map_of_mem hq)
/-- new private objects -/
theorem B.own {h h' : Heap} (b : B G Y Z σ h) (k : Le h h') {Y0 : List (Addr × Obj)} (hn : ∀ p ∈ Y0, h.objs.size ≤ p.1 ∧ h'.get? p.1 = some p.2) (nd : (Y0.map (·.1)).Nodup) : B G (Y0 ++ Y) Z σ h' := by
  have b' := b.grow k
  refine ⟨b'.base, b'.sub, fun p hp => ?_, b'.objs, b'.nd, fun p hp => ?_, ?_⟩
  · rcases List.mem_append.mp hp with hp | hp
    · exact ⟨(hn p hp).2, (b.fresh (hn p hp).1).2.2⟩
    · exact b'.priv p hp
  · rcases List.mem_append.mp hp with hp | hp
    · exact (b.fresh (hn p hp).1).1
    · exact b.ap p hp
  · rw [List.map_append, List.nodup_append]
    refine ⟨nd, b.yn, fun u hu v hv e => ?_⟩
    obtain ⟨p, hp, rfl⟩ := List.mem_map.mp hu
    exact (b.fresh (hn p hp).1).2.1 (e ▸ hv)

theorem letGo_other {target : Expr} {it : Addr} {v : Value} {o : Obj} {T : String} {Q : Unit → Shared → Prop} {M : Model} {E : Value → Shared → Prop} (e : s.heap.get? it = some o) (hT : o.cls = .type T)
    (hn : (["enumerate", "zip", "dict_itemiterator", "dict_reverseitemiterator", "odict_iterator", "itertools.zip_longest", "itertools.pairwise"].contains T) = false) (k : Q () s) :
    wpAny M A (letOwnedTupleGo target (.ref it) v) Q E s := by
  have main : ∀ a : Addr, wpAny M A (do
      let o ← load it
      match o.cls, o.data with
      | .type n, .fields vs =>
        if ["enumerate", "zip", "dict_itemiterator", "dict_reverseitemiterator", "odict_iterator", "itertools.zip_longest", "itertools.pairwise"].contains n && vs[0]? == some (rawInt a) then
          rule "for.unpacks-the-owned-tuple"
          updateField it 0 .none
      | _, _ => pure () : Sem Unit) Q E s := by
    intro a
    refine wpAny_bind (wpAny_load e ?_)
    rw [hT]
    cases hd : o.data <;> first | exact wpAny_pure k | skip
    dsimp only
    rw [hn]
    exact wpAny_pure k
  unfold letOwnedTupleGo
  cases target <;> first | exact wpAny_pure k | skip
  all_goals
    cases v <;> first | exact wpAny_pure k | exact main _

/-- over a list | a tuple -/
theorem itr_list {it l : Addr} {vs : List Value} {xs : List V} {target : Expr} (rm : Room n A) (h1 : Z.IsList l vs.toArray) (h2 : VRs G Z xs vs) :
    Itr G A target (.ref it) xs Z fun i Yi => ∃ o, Yi = [(it, o)] ∧ o.cls = .type "list_iterator" ∧ o.data = .fields #[.ref l, .int i 0] where
  step := by
    rintro i x Y _ Z1 σ s hx ⟨o, rfl, hc, hd⟩ le b
    obtain ⟨v, hv, rv⟩ := vrs_get h2 hx
    refine wpAny_pyNext_list_item ⟨o, (b.priv _ (.head _)).1, hc, hd⟩ (isList_le (fun c o e => b.sub c o (le c o e)) h1) (by simpa using hv) fun h' ⟨o', e', hc', hd'⟩ hs => ⟨v, rfl, ?_⟩
    refine letGo_other e' hc' (by decide) ⟨Z1, [(it, o')], fun _ _ e => e, ?_, ⟨_, _, rfl⟩, ⟨o', rfl, hc', hd'⟩, rv.le le⟩
    exact b.mv rfl (fun p hp => by simp at hp; subst hp; exact e') fun a o hm e => hs.extBut a o (by simpa using hm) e
  done := by
    rintro Y _ Z1 σ s ⟨o, rfl, hc, hd⟩ le b
    refine wpAny_pyNext_list_end rm.h ⟨o, (b.priv _ (.head _)).1, hc, hd⟩ (isList_le (fun c o e => b.sub c o (le c o e)) h1) (by simp [h2.length]) fun h' hs => ⟨rfl, ?_, ⟨_, _, rfl⟩⟩
    exact b.gone fun a o hm e => hs a o (by simpa using hm) e
  self := by
    rintro i Y _ Z1 σ s Q ⟨o, rfl, hc, hd⟩ le b k
    exact wpAny_pyIter_listiter ⟨o, (b.priv _ (.head _)).1, hc, hd⟩ k
theorem itr_tuple {it l : Addr} {vs : List Value} {xs : List V} {target : Expr} (rm : Room n A) (h1 : Z.IsTuple l vs.toArray) (h2 : VRs G Z xs vs) :
    Itr G A target (.ref it) xs Z fun i Yi => ∃ o, Yi = [(it, o)] ∧ o.cls = .type "tuple_iterator" ∧ o.data = .fields #[.ref l, .int i 0] where
  step := by
    rintro i x Y _ Z1 σ s hx ⟨o, rfl, hc, hd⟩ le b
    obtain ⟨v, hv, rv⟩ := vrs_get h2 hx
    refine wpAny_pyNext_tuple_item ⟨o, (b.priv _ (.head _)).1, hc, hd⟩ (isTuple_le (fun c o e => b.sub c o (le c o e)) h1) (by simpa using hv) fun h' ⟨o', e', hc', hd'⟩ hs => ⟨v, rfl, ?_⟩
    refine letGo_other e' hc' (by decide) ⟨Z1, [(it, o')], fun _ _ e => e, ?_, ⟨_, _, rfl⟩, ⟨o', rfl, hc', hd'⟩, rv.le le⟩
    exact b.mv rfl (fun p hp => by simp at hp; subst hp; exact e') fun a o hm e => hs.extBut a o (by simpa using hm) e
  done := by
    rintro Y _ Z1 σ s ⟨o, rfl, hc, hd⟩ le b
    refine wpAny_pyNext_tuple_end rm.h ⟨o, (b.priv _ (.head _)).1, hc, hd⟩ (isTuple_le (fun c o e => b.sub c o (le c o e)) h1) (by simp [h2.length]) fun h' hs => ⟨rfl, ?_, ⟨_, _, rfl⟩⟩
    exact b.gone fun a o hm e => hs a o (by simpa using hm) e
  self := by
    rintro i Y _ Z1 σ s Q ⟨o, rfl, hc, hd⟩ le b k
    exact wpAny_pyIter_tupleiter ⟨o, (b.priv _ (.head _)).1, hc, hd⟩ k
theorem WI_val {K : List V → Sg → Prop} {target e : Expr} (rm : Room n A) (h : WE G A env σ e fun v σ1 => ∃ xs, Seqs v xs ∧ K xs σ1) : WI G A env σ target e K := by
  intro Y Z s b
  refine h.bind b fun Z1 v σ1 a s1 le1 b1 sm1 r1 ⟨xs, q, k⟩ => ?_
  obtain ⟨l, vs, rfl, h1, h2⟩ := q.at r1
  rcases h1 with h1 | h1
  · refine wpAny_pyIter_list (isList_le b1.sub h1) ⟨Z1, σ1, xs, _, [(_, { cls := .type "list_iterator", data := .fields #[.ref l, .int 0 0] })], le1, ?_, sm1.trans ⟨_, _, rfl⟩, ⟨_, rfl, rfl, rfl⟩, itr_list rm h1 h2, k⟩
    exact b1.own (le_push _ _) (fun p hp => by simp at hp; subst hp; exact ⟨Nat.le_refl _, Heap.get?_push_size _ rfl⟩) (by simp)
  · refine wpAny_pyIter_tuple (isTuple_le b1.sub h1) ⟨Z1, σ1, xs, _, [(_, { cls := .type "tuple_iterator", data := .fields #[.ref l, .int 0 0] })], le1, ?_, sm1.trans ⟨_, _, rfl⟩, ⟨_, rfl, rfl, rfl⟩, itr_tuple rm h1 h2, k⟩
    exact b1.own (le_push _ _) (fun p hp => by simp at hp; subst hp; exact ⟨Nat.le_refl _, Heap.get?_push_size _ rfl⟩) (by simp)

/-! for -/
def FoI (G : Cx) (K : Fl → Sg → Prop) (I : Sg → Prop) : Fl → Sg → Prop
  | .ret v, σ => K (.ret v) σ
  | .brk, σ => K .next σ
  | _, σ => ∃ σ', I σ' ∧ Sees G σ σ'
theorem FoI_next {K : Fl → Sg → Prop} {I : Sg → Prop} {σ'' : Sg} (h : I σ'') (k : Sees G σ σ'') : FoI G K I .next σ := ⟨_, h, k⟩
theorem FoI_ret {K : Fl → Sg → Prop} {I : Sg → Prop} {v : V} (h : K (.ret v) σ) : FoI G K I (.ret v) σ := h
theorem WS_For {K : Fl → Sg → Prop} {target iter : Expr} {body : List Stmt} (I : List V → Nat → Sg → Prop)
    (h : WI G A env σ target iter fun xs σ1 => (∃ σ0, I xs 0 σ0 ∧ Sees G σ1 σ0) ∧ (∀ i x σ2, xs[i]? = some x → I xs i σ2 → WG G A env σ2 target x fun σ3 => WSs G A env σ3 body (FoI G K (I xs (i + 1)))) ∧ (∀ σ2, I xs xs.length σ2 → K .next σ2))
    (hs : ∀ x, foldedSetIterable iter env x = pure x := by intro _; rfl) : WS G A env σ (.For target iter body [] p) K := by
  intro Y Z s b
  refine wpAny_For (wpAny_mono (h Y Z s b) (fun x s1 h1 => wpAny_mono h1 (fun it s2 h2 => ?_) fun _ _ e => e) fun _ _ e => e) hs
  obtain ⟨Z2, σ2, xs, S, Y0, le2, b2, sm2, hS, it, ⟨σ0, h0, se0⟩, ht, hK⟩ := h2
  refine codeAny_forLoop_any (Lv G Y Z2 s S (I xs) xs.length) ?_ (xs.length + 1) ⟨0, Z2, σ0, Y0, rfl, Nat.zero_le _, fun _ _ e => e, se0 _ _ _ b2, sm2, hS, h0⟩
  rintro k s' ⟨i, Z', σ', Y', rfl, hi, le', b', sm', hS', hI⟩
  rcases Nat.lt_or_ge i xs.length with hlt | hge
  · have hx : xs[i]? = some xs[i] := List.getElem?_eq_getElem hlt
    refine wpAny_mono (it.step i xs[i] Y Y' Z' σ' s' hx hS' le' b') (fun r s1 hr => ?_) E0.any
    obtain ⟨v, rfl, hr⟩ := hr
    refine wpAny_mono hr (fun _ s2' hr2 => ?_) E0.any
    obtain ⟨Z3, Y3, le3, b3, sm3, hS3, rv⟩ := hr2
    refine wpAny_mono (ht i xs[i] σ' hx hI (Y3 ++ Y) Z3 s2' v b3 rv) (fun _ s4 ⟨Z4, _, σ4, le4, b4, sm4, _, k4⟩ => ?_) E0.any
    refine wpAny_mono (k4 (Y3 ++ Y) Z4 s4 b4) (fun f s5 ⟨Z5, fl, σ5, le5, b5, sm5, rf, k5⟩ => ?_) E0.any
    have leA : Le Z Z5 := fun c o e => le5 c o (le4 c o (le3 c o (le' c o (le2 c o e))))
    have smA : Sm s s5 := ((sm'.trans sm3).trans sm4).trans sm5
    have gone : B G Y Z5 σ5 s5.heap := b5.gone fun a o _ e => e
    have next := fun h => Lv.next (I := I xs) hlt (fun c o e => le5 c o (le4 c o (le3 c o (le' c o e)))) b5 smA hS3 h
    cases rf with
    | next => exact next k5
    | cont => exact next k5
    | brk => exact ⟨Z5, .next, σ5, leA, gone, smA, .next, k5⟩
    | ret r => exact ⟨Z5, _, σ5, leA, gone, smA, .ret r, k5⟩
  · have e : i = xs.length := Nat.le_antisymm hi hge
    subst e
    refine wpAny_mono (it.done Y Y' Z' σ' s' hS' le' b') (fun r s1 hr => ?_) E0.any
    obtain ⟨rfl, b1, sm1⟩ := hr
    exact wpAny_execs_nil ⟨Z', .next, σ', fun c o e => le' c o (le2 c o e), b1, sm'.trans sm1, .next, hK σ' hI⟩
end
end
-- M7
section
section
variable {α β γ δ : Type} {G : Cx} {A A' : Around} {env : Env} {Y : List (Addr × Obj)} {Z : Heap} {s : Shared} {σ σ' : Sg} {x : Str} {p pos : Pos} {n : Nat}

/-! the tests of a comprehension -/
abbrev tests (ifs : List Expr) (env : Env) : Sem Bool := forIn ifs true fun c r => if r = true then do let ok ← isTrue c env (eval c env); pure (ForInStep.yield ok) else pure (ForInStep.yield r)
abbrev WTs (G : Cx) (A : Around) (env : Env) (σ : Sg) (ifs : List Expr) (K : Bool → Sg → Prop) : Prop := Wt G A σ BRl (tests ifs env) K
theorem WTs_nil {K : Bool → Sg → Prop} (k : K true σ) : WTs G A env σ [] K := fun Y Z s b => wpAny_tests_nil ⟨Z, true, σ, fun _ _ e => e, b, .refl s, rfl, k⟩
theorem WTs_one {K : Bool → Sg → Prop} {c : Expr} (h : WT G A env σ c K) : WTs G A env σ [c] K := fun Y Z s b => wpAny_tests_one (h Y Z s b)

/-- one turn of a comprehension's loop -/
def turnOf (target iter : Expr) (ifs : List Expr) (it : Value) (env : Env) (inner : Sem Unit) (c : Code) : Sem Fin := do
  standAt iter.pos
  match ← pyNext it with
  | none => pure (.done .next)
  | some v =>
    letOwnedTupleGo target it v
    assign target env v
    let ok ← tests ifs env
    if ok then
      inner
    again c

def turnB (target iter : Expr) (ifs : List Expr) (it : Value) (env : Env) (body : Sem Fin) (c : Code) : Sem Fin := do
  standAt iter.pos
  match ← pyNext it with
  | none => pure (.done .next)
  | some v =>
    letOwnedTupleGo target it v
    assign target env v
    let ok ← tests ifs env
    if ok then body else again c
theorem comp_loopB {e : Expr} {d : Nat} {target iter : Expr} {ifs : List Expr} {it acc : Value} {inner : Sem Unit} {R : Result → Shared → Prop} {xs : List V} {S : Nat → List (Addr × Obj) → Prop} {Y0 : List (Addr × Obj)} (I : Nat → Sg → Prop)
    {body : Sem Fin} (heq : compTurn e d it acc env = turnB target iter ifs it env body (.compLoop e d it acc env))
    (hb : ∀ (P : Fin → Shared → Prop) (E : Value → Shared → Prop) (s : Shared), wpAny (MM G) A inner (fun _ s' => wpAny (MM G) A (again (.compLoop e d it acc env)) P E s') E0 s → wpAny (MM G) A body P E s) (hfr : (Code.compLoop e d it acc env).isFrame = false) (hq : (Code.compLoop e d it acc env).quiet = true) (hu : A.under (.compLoop e d it acc env) = A)
    (T : Itr G A target it xs Z S) (b : B G (Y0 ++ Y) Z σ s.heap) (hS : S 0 Y0) (h0 : I 0 σ)
    (turn : ∀ i x σ2, xs[i]? = some x → I i σ2 → WG G A env σ2 target x fun σ3 => WTs G A env σ3 ifs fun ok σ4 => if ok = true then Wt G A σ4 UR inner (fun _ σ5 => ∃ σ', I (i + 1) σ' ∧ Sees G σ5 σ') else ∃ σ', I (i + 1) σ' ∧ Sees G σ4 σ')
    (fin : ∀ Z' σ' s', Le Z Z' → B G Y Z' σ' s'.heap → Sm s s' → I xs.length σ' → R (.ok .next) s') : codeAny (MM G) A (.compLoop e d it acc env) R s := by
  refine codeAny_loop hq (Lv G Y Z s S I xs.length) ?_ (xs.length + 1) ⟨0, Z, σ, Y0, rfl, Nat.zero_le _, fun _ _ e => e, b, .refl s, hS, h0⟩
  rintro k s' ⟨i, Z', σ', Y', rfl, hi, le', b', sm', hS', hI⟩
  rw [hu]
  show wpAny _ A (if (Code.compLoop e d it acc env).isFrame = true then _ else (compTurn e d it acc env).onRaise (fun x => do noteFrame x env; theTreesLotGoes x)) _ _ s'
  rw [hfr, if_neg Bool.false_ne_true]
  refine wpAny_noted ?_
  rw [heq]
  unfold turnB
  refine wpAny_bind (wpAny_standAt (wpAny_bind ?_))
  rcases Nat.lt_or_ge i xs.length with hlt | hge
  · have hx : xs[i]? = some xs[i] := List.getElem?_eq_getElem hlt
    refine wpAny_mono (T.step i xs[i] Y Y' Z' σ' s' hx hS' le' b') (fun r s1 hr => ?_) E0.any
    obtain ⟨v, rfl, hr⟩ := hr
    refine wpAny_bind (wpAny_mono hr (fun _ s2' hr2 => ?_) E0.any)
    obtain ⟨Z3, Y3, le3, b3, sm3, hS3, rv⟩ := hr2
    refine wpAny_bind (wpAny_mono (turn i xs[i] σ' hx hI (Y3 ++ Y) Z3 s2' v b3 rv) (fun _ s4 ⟨Z4, _, σ4, le4, b4, sm4, _, k4⟩ => ?_) E0.any)
    refine wpAny_bind (wpAny_mono (k4 (Y3 ++ Y) Z4 s4 b4) (fun ok s5 ⟨Z5, ok', σ5, le5, b5, sm5, rf, k5⟩ => ?_) E0.any)
    cases rf
    have leA : Le Z Z5 := fun c o e => le5 c o (le4 c o (le3 c o (le' c o e)))
    have smA : Sm s s5 := ((sm'.trans sm3).trans sm4).trans sm5
    cases ok with
    | false => exact wpAny_pure ⟨rfl, Lv.next hlt leA b5 smA hS3 k5⟩
    | true =>
      refine hb _ _ _ (wpAny_mono (k5 (Y3 ++ Y) Z5 s5 b5) (fun _ s6 ⟨Z6, _, σ6, le6, b6, sm6, _, k6⟩ => ?_) E0.any)
      exact wpAny_pure ⟨rfl, Lv.next hlt (fun c o e => le6 c o (leA c o e)) b6 (smA.trans sm6) hS3 k6⟩
  · have e : i = xs.length := Nat.le_antisymm hi hge
    subst e
    refine wpAny_mono (T.done Y Y' Z' σ' s' hS' le' b') (fun r s1 hr => ?_) E0.any
    obtain ⟨rfl, b1, sm1⟩ := hr
    exact wpAny_pure (fin Z' σ' s1 le' b1 (sm'.trans sm1) hI)

theorem comp_loop {e : Expr} {d : Nat} {target iter : Expr} {ifs : List Expr} {it acc : Value} {inner : Sem Unit} {R : Result → Shared → Prop} {xs : List V} {S : Nat → List (Addr × Obj) → Prop} {Y0 : List (Addr × Obj)} (I : Nat → Sg → Prop)
    (heq : compTurn e d it acc env = turnOf target iter ifs it env inner (.compLoop e d it acc env)) (hfr : (Code.compLoop e d it acc env).isFrame = false) (hq : (Code.compLoop e d it acc env).quiet = true) (hu : A.under (.compLoop e d it acc env) = A)
    (T : Itr G A target it xs Z S) (b : B G (Y0 ++ Y) Z σ s.heap) (hS : S 0 Y0) (h0 : I 0 σ)
    (turn : ∀ i x σ2, xs[i]? = some x → I i σ2 → WG G A env σ2 target x fun σ3 => WTs G A env σ3 ifs fun ok σ4 => if ok = true then Wt G A σ4 UR inner (fun _ σ5 => ∃ σ', I (i + 1) σ' ∧ Sees G σ5 σ') else ∃ σ', I (i + 1) σ' ∧ Sees G σ4 σ')
    (fin : ∀ Z' σ' s', Le Z Z' → B G Y Z' σ' s'.heap → Sm s s' → I xs.length σ' → R (.ok .next) s') : codeAny (MM G) A (.compLoop e d it acc env) R s :=
  comp_loopB (inner := inner) (body := inner >>= fun _ => again (.compLoop e d it acc env)) I (heq.trans rfl) (fun P E s h => wpAny_bind (wpAny_mono h (fun _ _ x => x) E0.any)) hfr hq hu T b hS h0 turn fin

/-- an item is put behind -/
theorem W_app {K : Sg → Prop} {D : Addr} {us : List V} {v : V} (u : Up D (.vl us) (.vl (us ++ [v])) σ σ') (hl : us.length ≤ 100000) (k : K σ') : W1 G A σ UR (fun a => (do let _ ← call (.builtin "list.append") [.ref D, a] : Sem Unit)) v (fun _ σ3 => K σ3) := by
  intro Y Z s a b r
  have o := (b.objs _ u.mem).1
  cases o with
  | @vl vs vs' n h1 h2 =>
    refine wpAny_bind (wpAny_list_append_plain ⟨_, h1⟩ (fun h' ⟨n', e'⟩ hs => ?_) (by simp [h2.length]; exact Nat.le_trans hl (by decide)))
    refine wpAny_pure ⟨Z, (), σ', fun _ _ e => e, b.upd u hs.extBut (.vl (vs := vs' ++ [a]) (n := n') (by simpa using e') ?_), ⟨_, _, rfl⟩, trivial, k⟩
    have app : ∀ {xs : List V} {vs : List Value}, VRs G Z xs vs → VRs G Z (xs ++ [v]) (vs ++ [a]) := by
      intro xs vs h
      induction xs generalizing vs with
      | nil => cases h using VRs.cN; exact .cons r .nil
      | cons x xs ih => cases h using VRs.cC with | cons h h' => exact .cons h (ih h')
    exact app h2
theorem W_emit {K : Sg → Prop} {D : Addr} {elt : Expr} (h : WE G A env σ elt fun v σ1 => ∃ us σ2, Up D (.vl us) (.vl (us ++ [v])) σ1 σ2 ∧ us.length ≤ 100000 ∧ K σ2) :
    Wt G A σ UR (do let _ ← call (.builtin "list.append") [.ref D, ← eval elt env] : Sem Unit) (fun _ σ3 => K σ3) := by
  intro Y Z s b
  refine wpAny_bind (h.bind b fun Z1 v σ1 a s1 le1 b1 sm1 r1 ⟨us, σ2, u, hl, k⟩ => ?_)
  exact wpBack le1 sm1 (W_app u hl k Y Z1 s1 a b1 r1)

/-- the new frame of a comprehension that has no cell of its own -/
theorem comp_env {scope : Scope} {cl : List (Str × Addr)} {Q : Env → Shared → Prop} {E : Value → Shared → Prop} {M : Model} (b : B G Y Z σ s.heap) (hc : ∀ y ∈ scope.names, y.2 ≠ .cell) (hk : scope.kind = .function)
    (k : ∀ C s', B G Y Z ((C, .ns []) :: σ) s'.heap → Sm s s' → Q (newEnv scope C env.globals cl env.qual none .none (some env) builtinsNs) s') :
    wpAny M A (newFunctionEnv scope env.globals cl [] env.qual none .none (some env)) Q E s := by
  refine wpAny_newFunctionEnv hc (by intro y hy; simp at hy) (fun h' hn hs => k _ _ ?_ ⟨_, _, rfl⟩) hk
  have le : Le s.heap h' := fun c o e => hs.extBut c o (Nat.ne_of_lt (Heap.lt_size e)) (Heap.get?_push_of_some _ e)
  exact b.add le (Nat.le_refl _) (.ns hn fun _ _ e => nomatch e)

theorem codeAny_compStart_any {R : Result → Shared → Prop} {e : Expr} {d : Nat} {target iter : Expr} {ifs : List Expr} {it acc : Value} (hg : (clausesOf e)[d]? = some ⟨target, iter, ifs, 0⟩) (hfr : (Code.compStart e d it acc env).isFrame = false)
    (hu : A.under (.compStart e d it acc env) = A) (hq : ∀ it', (Code.compLoop e d it' acc env).quiet = true)
    (h0 : codeAny (MM G) A (.compLoop e d it acc env) R s)
    (h : wpAny (MM G) A (pyIter it) (fun it' s' => codeAny (MM G) A (.compLoop e d it' acc env) R s') E0 s) :
    codeAny (MM G) A (.compStart e d it acc env) R s := by
  refine codeAny_of_tree ?_
  rw [hu]
  show wpAny _ _ (if (Code.compStart e d it acc env).isFrame = true then _ else (compStart e d it acc env).onRaise (fun x => do noteFrame x env; standAt theWindowsPlace)) _ _ s
  rw [hfr, if_neg Bool.false_ne_true]
  refine wpAny_notedAt ?_
  unfold compStart
  rw [hg]
  show wpAny _ _ (ask >>= _) _ _ s
  refine wpAny_bind (wpAny_askSetting (wpAny_ite ?_))
  split
  · first
      | exact wpAny_bind (wpAny_pure (wpAny_pure (And.intro (hq _) h0)))
      | exact wpAny_pure (And.intro (hq _) h0)
  · refine wpAny_bind (wpAny_rule ?_)
    show wpAny _ _ (standAt iter.pos >>= _) _ _ s
    exact wpAny_bind (wpAny_standAt (wpAny_bind (wpAny_mono h (fun it' s' h' => wpAny_pure (And.intro (hq _) h')) E0.any)))

inductive FzV : MO → V → Prop
  | vl (xs : List V) : FzV (.vl xs) (.vl xs)
  | vd (xs : List PyData) : FzV (.vl (xs.map .d)) (.d (.list xs))
theorem vrs_dats {xs : List PyData} {vs : List Value} (h : VRs G Z (xs.map .d) vs) : RdAll Z vs xs :=
  VRs.ind (P := fun us vs => ∀ xs : List PyData, us = xs.map V.d → RdAll Z vs xs) (fun xs e => by cases xs with | nil => exact .nil | cons _ _ => cases e)
    (fun {x v us vs} h _ ih xs e => by cases xs with | nil => cases e | cons y xs => rw [List.map_cons, List.cons.injEq] at e; rw [e.1] at h; cases h using VR.cD with | d h => exact .cons h (ih xs e.2)) h xs rfl
theorem FzV.vr {a : Addr} {m : MO} {v : V} (f : FzV m v) (o : OR G Z Z a m) : VR G Z v (.ref a) := by
  cases f with
  | vl xs => cases o using OR.cVl with | vl h1 h2 => exact .vl ⟨_, h1, rfl, _, rfl⟩ h2
  | vd xs => cases o using OR.cVl with | vl h1 h2 => exact .d (.list h1 (vrs_dats h2))

theorem vl_new {h : Heap} (b : B G Y Z σ h) : B G Y Z ((h.objs.size, .vl []) :: σ) (h.push { cls := .type "list", data := .seq ([] : List Value).toArray }) :=
  b.add (le_push _ _) (Nat.le_refl _) (.vl (Heap.get?_push_size _ rfl) .nil)

theorem LC_coreG {elt target iter : Expr} {ifs : List Expr} {rest : List Comprehension} {scope : Scope} {cl : List (Str × Addr)} {pos' : Pos} {use : Option (Value → Sem Unit)} {Q : Value → Shared → Prop} (inner : Value → Env → Sem Unit) (body : Value → Value → Env → Sem Fin) (I : List V → Nat → List V → Sg → Prop)
    (heq : ∀ it acc env, compTurn (.ListComp elt (⟨target, iter, ifs, 0⟩ :: rest) scope pos) 0 it acc env = turnB target iter ifs it env (body it acc env) (.compLoop (.ListComp elt (⟨target, iter, ifs, 0⟩ :: rest) scope pos) 0 it acc env))
    (hb : ∀ it C D (P : Fin → Shared → Prop) (E : Value → Shared → Prop) (s : Shared), wpAny (MM G) A (inner (.ref D) (compEnvC scope cl C env)) (fun _ s' => wpAny (MM G) A (again (.compLoop (.ListComp elt (⟨target, iter, ifs, 0⟩ :: rest) scope pos) 0 it (.ref D) (compEnvC scope cl C env))) P E s') E0 s → wpAny (MM G) A (body it (.ref D) (compEnvC scope cl C env)) P E s)
    (hWI : WI G A env σ target iter fun xs σ1 => (∃ σ0, I xs 0 [] σ0 ∧ Sees G σ1 σ0) ∧ (∀ C D i x us σ2, xs[i]? = some x → I xs i us σ2 → WG G A (compEnvC scope cl C env) ((C, .ns []) :: (D, .vl us) :: σ2) target x fun σ3 => WTs G A (compEnvC scope cl C env) σ3 ifs fun ok σ4 =>
        if ok = true then Wt G A σ4 UR (inner (.ref D) (compEnvC scope cl C env)) (fun _ σ5 => ∃ us' σ6, I xs (i + 1) us' σ6 ∧ Sees G σ5 ((C, .ns []) :: (D, .vl us') :: σ6)) else ∃ σ6, I xs (i + 1) us σ6 ∧ Sees G σ4 ((C, .ns []) :: (D, .vl us) :: σ6)) ∧
      ∀ us σ', I xs xs.length us σ' → ∃ v', FzV (.vl us) v' ∧ ∀ C Z' s' a, Le Z Z' → B G Y Z' ((C, .ns []) :: σ') s'.heap → Sm s s' → VR G Z' v' a → compPost (MM G) A E0 use Q a C (.ok .next) s')
    (b : B G Y Z σ s.heap) (hs : ∀ x, foldedSetIterable iter env x = pure x) (hclos : closureFor scope env = pure cl) (hc : ∀ y ∈ scope.names, y.2 ≠ .cell) (hkind : scope.kind = .function)
    (hnames : ∀ x ∈ scope.names, x.2 = .local → scope.names.lookup x.1 = some .local) :
    wpAny (MM G) A (comprehension (.ListComp elt (⟨target, iter, ifs, 0⟩ :: rest) scope pos) scope env pos' (newList []) false (eval iter env) use) Q E0 s := by
  refine wpAny_comprehension_free (g := ⟨target, iter, ifs, 0⟩) (gs := rest) rfl hs hclos hkind hnames (wpAny_mono (hWI Y Z s b) (fun x s1 h1 => wpAny_mono h1 (fun it s2 h2 => ?_) E0.any) E0.any)
  obtain ⟨Z2, σ2, xs, S, Y0, le2, b2, sm2, hS, T, ⟨σ0, h0, se0⟩, ht, hfin⟩ := h2
  replace b2 := se0 _ _ _ b2
  refine wpAny_newList (comp_env (vl_new b2) hc hkind fun C s4 b4 sm4 => ?_)
  have smA : Sm s s4 := sm2.trans (Sm.trans ⟨_, _, rfl⟩ sm4)
  generalize hD : s2.heap.objs.size = D at b4 ⊢
  have loop : codeAny (MM G) A (.compLoop (.ListComp elt (⟨target, iter, ifs, 0⟩ :: rest) scope pos) 0 it (.ref D) (compEnvC scope cl C env)) (compPost (MM G) A E0 use Q (.ref D) C) s4 := by
    refine comp_loopB (target := target) (iter := iter) (ifs := ifs) (fun i σ' => ∃ us σ3, σ' = (C, .ns []) :: (D, .vl us) :: σ3 ∧ I xs i us σ3) (heq _ _ _) (hb it C D) rfl rfl rfl T b4 hS ⟨[], _, rfl, h0⟩ ?_ ?_
    · rintro i x _ hx ⟨us, σ3, rfl, hI⟩
      refine (ht C D i x us σ3 hx hI).mono fun _ σ3 h3 => h3.mono fun ok σ4 h4 => ?_
      cases ok with
      | true => exact Wt.mono h4 fun _ σ5 ⟨us', σ6, hI, se⟩ => ⟨_, ⟨us', σ6, rfl, hI⟩, se⟩
      | false =>
        obtain ⟨σ6, hI, se⟩ := h4
        exact ⟨_, ⟨us, σ6, rfl, hI⟩, se⟩
    · rintro Z' σ' s' le' b' sm' ⟨us, σ3, rfl, hI⟩
      obtain ⟨v', f, k⟩ := hfin us σ3 hI
      obtain ⟨Z5, le5, b5, o5⟩ := b'.freeze (q := (D, .vl us)) (.tail (.head _))
      exact k C Z5 s' (.ref D) (fun c o e => le5 c o (le' c o (le2 c o e))) b5 (smA.trans sm') (f.vr o5)
  exact codeAny_compStart_any rfl rfl rfl (fun _ => rfl) loop (T.self 0 Y Y0 Z2 _ s4 _ hS (fun _ _ e => e) (b4.drop ((List.Sublist.refl _))) loop)
end
end
-- M8
section
section
variable {α β γ δ : Type} {G : Cx} {A A' : Around} {env : Env} {Y : List (Addr × Obj)} {Z : Heap} {s : Shared} {σ σ' : Sg} {x : Str} {p pos : Pos} {n : Nat}

theorem B.but {h h' : Heap} {q : Addr × MO} (b : B G Y Z (q :: σ) h) (hs : Heap.ExtBut q.1 h h') : B G Y Z σ h' := by
  have nd := b.nd
  simp only [List.map_cons, List.nodup_cons] at nd
  refine ⟨b.base, fun c o e => hs c o (fun hq => ?_) (b.sub c o e), fun p hp => ⟨hs _ _ (fun hq => ?_) (b.priv p hp).1, (b.priv p hp).2⟩, fun q' hq' => ⟨(b.objs q' (.tail _ hq')).1.le (fun _ _ e => e) fun o e => hs _ o (fun hq => ?_) e, (b.objs q' (.tail _ hq')).2⟩, nd.2, fun p hp hm => b.ap p hp (.tail _ hm), b.yn⟩
  · rw [hq, (b.objs q (.head _)).2] at e; cases e
  · exact b.ap p hp (by rw [hq]; exact .head _)
  · exact nd.1 (hq ▸ List.mem_map_of_mem hq')
theorem WI.mono {target e : Expr} {K K' : List V → Sg → Prop} (h : WI G A env σ target e K) (k : ∀ xs σ', K xs σ' → K' xs σ') : WI G A env σ target e K' := fun Y Z s b =>
  wpAny_mono (h Y Z s b) (fun x s1 h1 => wpAny_mono h1 (fun it s2 ⟨Z2, σ2, xs, S, Y0, h1, h2, h3, h4, h5, h6⟩ => ⟨Z2, σ2, xs, S, Y0, h1, h2, h3, h4, h5, k _ _ h6⟩) E0.any) E0.any
theorem LC_core {elt target iter : Expr} {ifs : List Expr} {scope : Scope} {cl : List (Str × Addr)} {pos' : Pos} {use : Option (Value → Sem Unit)} {Q : Value → Shared → Prop} (I : List V → Nat → List V → Sg → Prop)
    (hWI : WI G A env σ target iter fun xs σ1 => (∃ σ0, I xs 0 [] σ0 ∧ Sees G σ1 σ0) ∧ xs.length ≤ 1000 ∧ (∀ C D i x us σ2, xs[i]? = some x → us.length ≤ i → I xs i us σ2 → WG G A (compEnvC scope cl C env) ((C, .ns []) :: (D, .vl us) :: σ2) target x fun σ3 => WTs G A (compEnvC scope cl C env) σ3 ifs fun ok σ4 =>
        if ok = true then WE G A (compEnvC scope cl C env) σ4 elt fun v σ5 => ∃ σ6, I xs (i + 1) (us ++ [v]) σ6 ∧ Sees G σ5 ((C, .ns []) :: (D, .vl us) :: σ6) else ∃ σ6, I xs (i + 1) us σ6 ∧ Sees G σ4 ((C, .ns []) :: (D, .vl us) :: σ6)) ∧
      ∀ us σ', I xs xs.length us σ' → ∃ v', FzV (.vl us) v' ∧ ∀ C Z' s' a, Le Z Z' → B G Y Z' ((C, .ns []) :: σ') s'.heap → Sm s s' → VR G Z' v' a → compPost (MM G) A E0 use Q a C (.ok .next) s')
    (b : B G Y Z σ s.heap) (hs : ∀ x, foldedSetIterable iter env x = pure x) (hclos : closureFor scope env = pure cl) (hc : ∀ y ∈ scope.names, y.2 ≠ .cell) (hkind : scope.kind = .function)
    (hnames : ∀ x ∈ scope.names, x.2 = .local → scope.names.lookup x.1 = some .local) :
    wpAny (MM G) A (comprehension (.ListComp elt [⟨target, iter, ifs, 0⟩] scope pos) scope env pos' (newList []) false (eval iter env) use) Q E0 s := by
  refine LC_coreG (inner := fun acc env => (do let _ ← call (.builtin "list.append") [acc, ← eval elt env])) (fun it acc env' => (do let _ ← call (.builtin "list.append") [acc, ← eval elt env'] : Sem Unit) >>= fun _ => again (.compLoop (.ListComp elt [⟨target, iter, ifs, 0⟩] scope pos) 0 it acc env'))
    (fun xs i us σ' => xs.length ≤ 1000 ∧ us.length ≤ i ∧ I xs i us σ') (fun _ _ _ => rfl) (fun it C D P E s h => wpAny_bind (wpAny_mono h (fun _ _ x => x) E0.any)) (hWI.mono fun xs σ1 ⟨⟨σ0, h0, se0⟩, h1, h2, h3⟩ => ⟨⟨σ0, ⟨h1, Nat.le_refl _, h0⟩, se0⟩, fun C D i x us σ2 hx ⟨_, hl, hI⟩ => ?_, fun us σ' hI => h3 us σ' hI.2.2⟩) b hs hclos hc hkind hnames
  refine (h2 C D i x us σ2 hx hl hI).mono fun _ σ3 h3 => h3.mono fun ok σ4 h4 => ?_
  cases ok with
  | true =>
    refine W_emit (Wt.mono (Wt.post (K' := fun v σ'' => ∃ σ6, σ'' = (C, .ns []) :: (D, .vl us) :: σ6 ∧ I xs (i + 1) (us ++ [v]) σ6) h4 ?_) ?_)
    · rintro v σ5 ⟨σ6, hI, se⟩
      exact ⟨_, ⟨σ6, rfl, hI⟩, se⟩
    · rintro v _ ⟨σ6, rfl, hI⟩
      have hi : i < xs.length := (List.getElem?_eq_some_iff.mp hx).1
      exact ⟨us, _, .tail (.head _), by omega, us ++ [v], σ6, ⟨h1, by simp; omega, hI⟩, .refl _⟩
  | false =>
    obtain ⟨σ6, hI, se⟩ := h4
    exact ⟨σ6, ⟨h1, by omega, hI⟩, se⟩
/-- the turn of a comprehension -/
def LCt (G : Cx) (A : Around) (env : Env) (scope : Scope) (cl : List (Str × Addr)) (target elt : Expr) (ifs : List Expr) (I : List V → Nat → List V → Sg → Prop) (xs : List V) : Prop :=
  ∀ C D i x us σ2, xs[i]? = some x → us.length ≤ i → I xs i us σ2 → WG G A (compEnvC scope cl C env) ((C, .ns []) :: (D, .vl us) :: σ2) target x fun σ3 => WTs G A (compEnvC scope cl C env) σ3 ifs fun ok σ4 =>
        if ok = true then WE G A (compEnvC scope cl C env) σ4 elt fun v σ5 => ∃ σ6, I xs (i + 1) (us ++ [v]) σ6 ∧ Sees G σ5 ((C, .ns []) :: (D, .vl us) :: σ6) else ∃ σ6, I xs (i + 1) us σ6 ∧ Sees G σ4 ((C, .ns []) :: (D, .vl us) :: σ6)
theorem WE_LC {elt target iter : Expr} {ifs : List Expr} {scope : Scope} {cl : List (Str × Addr)} {K : V → Sg → Prop} (I : List V → Nat → List V → Sg → Prop)
    (hWI : WI G A env σ target iter fun xs σ1 => (∃ σ0, I xs 0 [] σ0 ∧ Sees G σ1 σ0) ∧ xs.length ≤ 1000 ∧ LCt G A env scope cl target elt ifs I xs ∧ ∀ us σ', I xs xs.length us σ' → ∃ v', FzV (.vl us) v' ∧ K v' σ')
    (hs : ∀ x, foldedSetIterable iter env x = pure x := by intro _; rfl) (hclos : closureFor scope env = pure cl := by with_unfolding_all rfl) (hc : ∀ y ∈ scope.names, y.2 ≠ .cell := by decide) (hkind : scope.kind = .function := by with_unfolding_all rfl)
    (hnames : ∀ x ∈ scope.names, x.2 = .local → scope.names.lookup x.1 = some .local := by decide) :
    WE G A env σ (.ListComp elt [⟨target, iter, ifs, 0⟩] scope pos) K := by
  intro Y Z s b
  show wpAny _ A (eval _ env) _ _ _
  rw [eval_ListComp]
  refine LC_core (cl := cl) I (hWI.mono fun xs σ1 ⟨h0, h1, h2, h3⟩ => ⟨h0, h1, h2, fun us σ' hI => ?_⟩) b hs hclos hc hkind hnames
  obtain ⟨v', f, k⟩ := h3 us σ' hI
  refine ⟨v', f, fun C Z' s' a le' b' sm' r => ?_⟩
  cases (b'.objs _ (.head _)).1 with
  | ns hn _ => exact ⟨_, hn, fun h' hs' => ⟨Z', v', σ', le', b'.but hs'.extBut, sm'.trans ⟨_, _, rfl⟩, r, k⟩⟩
/-- ... put into a name at once -/
theorem WS_AsgLC {elt target iter : Expr} {ifs : List Expr} {scope : Scope} {cl : List (Str × Addr)} {K : Fl → Sg → Prop} {px : Pos} (I : List V → Nat → List V → Sg → Prop)
    (hWI : WI G A env σ target iter fun xs σ1 => (∃ σ0, I xs 0 [] σ0 ∧ Sees G σ1 σ0) ∧ xs.length ≤ 1000 ∧ LCt G A env scope cl target elt ifs I xs ∧ ∀ us σ', I xs xs.length us σ' → ∃ v', FzV (.vl us) v' ∧ ∀ C, WG G A env ((C, .ns []) :: σ') (.Name x px) v' fun σ3 => ∃ σ4, σ3 = (C, .ns []) :: σ4 ∧ K .next σ4)
    (hsw : swapsWith (.ListComp elt [⟨target, iter, ifs, 0⟩] scope pos) (some (.Name x px)) p.line env = pure true := by with_unfolding_all rfl)
    (hs : ∀ x, foldedSetIterable iter env x = pure x := by intro _; rfl) (hclos : closureFor scope env = pure cl := by with_unfolding_all rfl) (hc : ∀ y ∈ scope.names, y.2 ≠ .cell := by decide) (hkind : scope.kind = .function := by with_unfolding_all rfl)
    (hnames : ∀ x ∈ scope.names, x.2 = .local → scope.names.lookup x.1 = some .local := by decide) :
    WS G A env σ (.Assign [.Name x px] (.ListComp elt [⟨target, iter, ifs, 0⟩] scope pos) p) K := by
  intro Y Z s b
  rw [exec_Assign_Name_used _ _ _ _ hsw]
  refine wpAny_bind (wpAny_standAt (wpAny_bind (m := evalThenUse _ env _) ?_))
  show wpAny _ A (comprehension (.ListComp elt [⟨target, iter, ifs, 0⟩] scope pos) scope env (firstIterPos [⟨target, iter, ifs, 0⟩] pos) (newList []) false (eval iter env) (some (assign (.Name x px) env)) >>= fun _ => pure ()) _ _ s
  refine wpAny_bind (LC_core (cl := cl) I (hWI.mono fun xs σ1 ⟨h0, h1, h2, h3⟩ => ⟨h0, h1, h2, fun us σ' hI => ?_⟩) b hs hclos hc hkind hnames)
  obtain ⟨v', f, k⟩ := h3 us σ' hI
  refine ⟨v', f, fun C Z' s' a le' b' sm' r => ?_⟩
  refine wpAny_mono (k C Y Z' s' a b' r) (fun _ s2 ⟨Z2, _, σ2, le2, b2, sm2, _, σ4, e, kk⟩ => ?_) fun _ _ e => e
  subst e
  cases (b2.objs _ (.head _)).1 with
  | ns hn _ => exact ⟨_, hn, fun h' hs' => wpAny_pure (wpAny_pure ⟨Z2, .next, σ4, fun c o e => le2 c o (le' c o e), b2.but hs'.extBut, (sm'.trans sm2).trans ⟨_, _, rfl⟩, .next, kk⟩)⟩

/-! calls of builtins, whatever comes after -/
theorem call_blt (P : Pg G) {fp : Pos} {e : Expr} {es : List Expr} {v : Value} {K : List V → Sg → Prop} {Q : Value → Shared → Prop} (h : WEs G A env p σ (e :: es) K) (b : B G Y Z σ s.heap)
    (k : ∀ Z2 vs σ2 as s2, Le Z Z2 → B G Y Z2 σ2 s2.heap → Sm s s2 → VRs G Z2 vs as → K vs σ2 → wpAny (MM G) A (call v as) Q E0 s2)
    (hi : bl.lookup x = some v) (hc : Callee G v) (he : starEach (e :: es) env = (false, eval e env) :: starEach es env) (hplain : (backTo p (starEach es env)).any (·.1) = false)
    (hg : env.globals = mainGlobals) (hb : env.builtins = builtinsNs) (hk : env.scope.kind = .function) (hx : env.kindOf x = some .globalImplicit) (hd : (x == ("__debug__" : Str)) = false) :
    wpAny (MM G) A (eval (.Call (.Name x fp) (e :: es) [] p) env) Q E0 s := by
  refine wpAny_Call_NameR (Name_function_global hk hx (loadGlobal_builtin (by rw [hg]; exact P.T.g.keeps b.up) (P.hb x v hi).1 (by rw [hb]; exact P.T.b.keeps b.up) (P.hb x v hi).2 ?_) hd)
  have he' : backTo p (starEach (e :: es) env) = (false, eval e env) :: backTo p (starEach es env) := by rw [he]; rfl
  refine callWith_of (P := fun h => Le G.H0 h) ?_ (fun h le => hc h le) ?_
  · rw [he']; show ((false || (backTo p (starEach es env)).any (·.1)) || false) = false; rw [hplain]; rfl
  · rw [he']
    refine evalArgs_plain ?_
    rw [← he']
    exact h.bind b fun Z2 vs σ2 as s2 le2 b2 sm2 r2 k2 => ⟨b2.up, k Z2 vs σ2 as s2 le2 b2 sm2 r2 k2⟩
end
end
-- M9
section
open Sem (wp)
section
variable {α β γ δ : Type} {G : Cx} {A A' : Around} {env : Env} {Y : List (Addr × Obj)} {Z : Heap} {s : Shared} {σ σ' : Sg} {x : Str} {p pos : Pos} {n : Nat}

/-! range -/
def rangeV (k : Int) : List V := (List.range k.toNat).map fun (i : Nat) => V.d (.int (i : Int))
theorem rangeV_len (k : Int) : (rangeV k).length = k.toNat := by simp [rangeV]
theorem rangeV_get {k : Int} {i : Nat} {v : V} (h : (rangeV k)[i]? = some v) : (i : Int) < k ∧ v = .d (.int i) := by
  unfold rangeV at h
  rw [List.getElem?_map] at h
  cases q : (List.range k.toNat)[i]? with
  | none => rw [q] at h; cases h
  | some j =>
    rw [q] at h
    obtain ⟨hi, e⟩ := List.getElem?_eq_some_iff.mp q
    simp at hi e
    subst e
    exact ⟨by omega, by simpa using h.symm⟩
theorem itr_range {it : Addr} {k : Int} {target : Expr} (rm : Room n A) :
    Itr G A target (.ref it) (rangeV k) Z fun i Yi => Yi = [(it, { cls := .type "range_iterator", dict := none, data := .fields #[rawInt i, rawInt ((k.toNat : Int) - i), rawInt 1], slots := #[] })] where
  step := by
    rintro i x Y _ Z1 σ s hx rfl le b
    obtain ⟨hi, rfl⟩ := rangeV_get hx
    refine wpAny_pyNext_range_item (b.priv _ (.head _)).1 (by omega) fun h' e' hs => ⟨_, rfl, ?_⟩
    refine letGo_other e' rfl (by decide) ⟨Z1, [(it, _)], fun _ _ e => e, ?_, ⟨_, _, rfl⟩, by rw [show (k.toNat : Int) - ((i + 1 : Nat) : Int) = (k.toNat : Int) - i - 1 by omega, show ((i + 1 : Nat) : Int) = (i : Int) + 1 by omega], .d (.int _ _)⟩
    exact b.mv rfl (fun p hp => by rw [List.mem_singleton.mp hp]; exact e') fun a o hm e => hs.extBut a o (by simpa using hm) e
  done := by
    rintro Y _ Z1 σ s rfl le b
    refine wpAny_pyNext_range_end rm.h (b.priv _ (.head _)).1 (by rw [rangeV_len]; omega) fun h' hs => ⟨rfl, ?_, ⟨_, _, rfl⟩⟩
    exact b.gone fun a o hm e => hs a o (by simpa using hm) e
  self := by
    rintro i Y _ Z1 σ s Q rfl le b k
    exact wpAny_pyIter_rangeiter (b.priv _ (.head _)).1 k
theorem WI_range (P : Pg G) {K : List V → Sg → Prop} {target e : Expr} {fp : Pos} (rm : Room n A) (h : WEs G A env p σ [e] fun vs σ1 => ∃ k : Int, vs = [.d (.int k)] ∧ 0 ≤ k ∧ k ≤ 1000 ∧ K (rangeV k) σ1)
    (he : starEach [e] env = (false, eval e env) :: starEach [] env := by with_unfolding_all rfl) (hplain : (backTo p (starEach [] env)).any (·.1) = false := by with_unfolding_all rfl)
    (hg : env.globals = mainGlobals := by with_unfolding_all rfl) (hb : env.builtins = builtinsNs := by with_unfolding_all rfl) (hk : env.scope.kind = .function := by with_unfolding_all rfl) (hx : env.kindOf "range" = some .globalImplicit := by with_unfolding_all rfl) :
    WI G A env σ target (.Call (.Name "range" fp) [e] [] p) K := by
  intro Y Z s b
  refine call_blt P h b (fun Z2 vs σ2 as s2 le2 b2 sm2 r2 ⟨k, ev, hk0, hk1, kk⟩ => ?_) (v := .type "range") rfl (.typ _) he hplain hg hb hk hx (by decide)
  subst ev
  cases r2 using VRs.cC with | cons r r' => cases r' using VRs.cN; cases r using VR.cD with | d r =>
    cases r using Rd.cI
    refine call_range_1 ?_
    refine wpAny_pyIter_range (IsRange.new _ _ _ _ _ _ _) (small_one (by decide) (by decide) (by omega) (by omega)) ?_
    refine ⟨Z2, σ2, rangeV k, _, _, le2, ?_, sm2.trans ⟨_, _, rfl⟩, rfl, itr_range rm, kk⟩
    refine (b2.grow (le_push _ _)).own (le_push _ _) (fun p hp => ?_) (by simp)
    rw [List.mem_singleton.mp hp]
    refine ⟨Nat.le_refl _, Heap.get?_push_size _ ?_ |>.trans ?_⟩
    · rfl
    · rw [rangeSize_one, show ((k.toNat : Int) - ((0 : Nat) : Int)) = (if 0 < k then k - 0 else 0) by split <;> omega]
      rfl

/-! enumerate -/
def enumV (xs : List PyData) : List V := xs.mapIdx fun i x => .d (.tuple [.int i, x])
theorem enumV_get {xs : List PyData} {i : Nat} {v : V} (h : (enumV xs)[i]? = some v) : ∃ x, xs[i]? = some x ∧ v = .d (.tuple [.int i, x]) := by
  unfold enumV at h
  rw [List.getElem?_mapIdx] at h
  cases q : xs[i]? with
  | none => rw [q] at h; cases h
  | some x => rw [q] at h; exact ⟨x, rfl, by simpa using h.symm⟩
theorem enumV_len (xs : List PyData) : (enumV xs).length = xs.length := by simp [enumV]
theorem itr_enum {e it l : Addr} {vs : List Value} {xs : List PyData} {elts : List Expr} {c : Nat} (rm : Room n A) (hne : e ≠ it) (h1 : Z.IsList l vs.toArray) (h2 : RdAll Z vs xs) :
    Itr G A (.Tuple elts c p) (.ref e) (enumV xs) Z fun i Yi => ∃ oi old, Yi = [(e, { cls := .type "enumerate", dict := none, data := .fields #[.none, .bool false, .ref it, rawInt i, .none, old], slots := #[] }), (it, oi)] ∧ oi.cls = .type "list_iterator" ∧ oi.data = .fields #[.ref l, .int i 0] where
  step := by
    rintro i x Y _ Z1 σ s hx ⟨oi, old, rfl, hc, hd⟩ le b
    obtain ⟨u, hu, rfl⟩ := enumV_get hx
    obtain ⟨v, hv, rv⟩ := reads_get h2 hu
    refine wpAny_pyNext_enum_item (b.priv _ (.head _)).1 ⟨oi, (b.priv _ (.tail _ (.head _))).1, hc, hd⟩ (isList_le (fun c o e => b.sub c o (le c o e)) h1) (by simpa using hv) hne fun h' e1 ⟨oi', e2, hc', hd'⟩ e3 e4 hk => ⟨_, rfl, ?_⟩
    refine wpAny_letOwnedTupleGo_enum e1 fun h'' e5 hs => ?_
    have hlt : e < s.heap.objs.size := Heap.lt_size (b.priv _ (.head _)).1
    have hlt2 : it < s.heap.objs.size := Heap.lt_size (b.priv _ (.tail _ (.head _))).1
    have hk' : ∀ a o, a ≠ e → a ≠ it → s.heap.get? a = some o → h''.get? a = some o := fun a o n1 n2 q => hs.extBut a o n1 (hk a o n1 n2 q)
    have e3' := hs.extBut _ _ (Nat.ne_of_gt hlt) e3
    have b2 : B G ([(e, { cls := .type "enumerate", dict := none, data := .fields #[.none, .bool false, .ref it, rawInt ((i : Int) + 1), .none, v], slots := #[] }), (it, oi')] ++ Y) Z1 σ h'' := by
      refine b.mv rfl (fun p hp => ?_) fun a o hm q => hk' a o (fun x => hm (by simp [x])) (fun x => hm (by simp [x])) q
      rcases List.mem_cons.mp hp with rfl | hp
      · exact e5
      · rw [List.mem_singleton.mp hp]; exact hs.extBut _ _ hne.symm e2
    obtain ⟨Z2, le2, b3, fz⟩ := b2.max
    have fr := b.fresh (Nat.le_refl _)
    refine ⟨Z2, _, le2, b3, ⟨_, _, rfl⟩, ⟨oi', v, rfl, hc', hd'⟩, .d (.tuple (n := 0) (vs := [.int i s.toks, v]) (fz _ _ ?_ fr.1 (fun hm => fr.2.1 (by simpa using hm))) (.cons (.int _ _) (.cons (rv.le fun c o q => le2 c o (le c o q)) .nil)))⟩
    exact e3'
  done := by
    rintro Y _ Z1 σ s ⟨oi, old, rfl, hc, hd⟩ le b
    refine wpAny_pyNext_enum_end rm.h (b.priv _ (.head _)).1 ⟨oi, (b.priv _ (.tail _ (.head _))).1, hc, hd⟩ (isList_le (fun c o e => b.sub c o (le c o e)) h1) (by rw [enumV_len]; simp [rd_length h2]) fun h' hs => ⟨rfl, ?_, ⟨_, _, rfl⟩⟩
    exact b.gone fun a o hm e => hs a o (fun x => hm (by simp [x])) e
  self := by
    rintro i Y _ Z1 σ s Q ⟨oi, old, rfl, hc, hd⟩ le b k
    exact wpAny_pyIter_enum (b.priv _ (.head _)).1 k
theorem WI_enum (P : Pg G) {K : List V → Sg → Prop} {e : Expr} {fp tp : Pos} {elts : List Expr} {c : Nat} (rm : Room n A) (h : WEs G A env p σ [e] fun vs σ1 => ∃ xs : List PyData, vs = [.d (.list xs)] ∧ K (enumV xs) σ1)
    (he : starEach [e] env = (false, eval e env) :: starEach [] env := by with_unfolding_all rfl) (hplain : (backTo p (starEach [] env)).any (·.1) = false := by with_unfolding_all rfl)
    (hg : env.globals = mainGlobals := by with_unfolding_all rfl) (hb : env.builtins = builtinsNs := by with_unfolding_all rfl) (hk : env.scope.kind = .function := by with_unfolding_all rfl) (hx : env.kindOf "enumerate" = some .globalImplicit := by with_unfolding_all rfl) :
    WI G A env σ (.Tuple elts c tp) (.Call (.Name "enumerate" fp) [e] [] p) K := by
  intro Y Z s b
  refine call_blt P h b (fun Z2 vs σ2 as s2 le2 b2 sm2 r2 ⟨xs, ev, kk⟩ => ?_) (v := .type "enumerate") rfl (.typ _) he hplain hg hb hk hx (by decide)
  subst ev
  cases r2 using VRs.cC with | cons r r' =>
    cases r' using VRs.cN
    obtain ⟨l, vs, n, rfl, h1, h2⟩ := r.list
    refine call_enumerate_list (isL (b2.sub _ _ h1)) fun h' e1 ⟨oi, e2, hc, hd⟩ e3 hk => ?_
    refine wpAny_pyIter_enum e1 ⟨Z2, σ2, enumV xs, _, _, le2, ?_, sm2.trans ⟨_, _, rfl⟩, ⟨oi, .none, rfl, hc, hd⟩, itr_enum rm (Nat.succ_ne_self _) (isL h1) h2, kk⟩
    refine b2.own hk (fun p hp => ?_) (by simp)
    rcases List.mem_cons.mp hp with rfl | hp
    · exact ⟨Nat.le_succ _, e1⟩
    · rw [List.mem_singleton.mp hp]; exact ⟨Nat.le_refl _, e2⟩
end
end
-- M10
section
open Sem (wp)
section
variable {prog : Program} {w : World} {A : Around} {E : Value → Shared → Prop} {s : Shared}
theorem nextOf_tuple_item {it t : Addr} {i : Nat} {items} {x : Value} {Q : Value → Shared → Prop} (hit : s.heap.IsTupleIter it t i)
    (ht : s.heap.IsTuple t items) (hx : items[i]? = some x)
    (hQ : ∀ h', h'.IsTupleIter it t (i + 1) → Heap.SameBut it s.heap h' → Q x { s with heap := h' }) :
    wpAny (model prog w) A (Builtin.SmallTypes.nextOf (.ref it)) Q E s := by
  obtain ⟨o, ho, hc, hd⟩ := id hit
  obtain ⟨ol, hol, _, nl, hdl⟩ := ht
  unfold Builtin.SmallTypes.nextOf
  refine wpAny_bind (wpAny_callSpecial?_slot (name := Str.ofString "__next__") hit.typeIs F.slot_tuple_iterator_next
    (wpAny_call_entry F.slot_tuple_iterator_next hit.typeIs F.entry_tuple_iterator_next ?_ (F.args_tuple_iterator_next_1 _)))
  show wpAny _ _ (field (.ref it) 0 >>= _) _ _ s
  refine wpAny_bind (wpAny_field ho hd (x := .ref t) rfl ?_)
  show wpAny _ _ (if (Value.ref t == Value.none) = true then _ else _) _ _ s
  rw [if_neg (show ¬ ((Value.ref t == Value.none) = true) from Bool.false_ne_true)]
  show wpAny _ _ (field (.ref it) 1 >>= _) _ _ s
  refine wpAny_bind (wpAny_field ho hd (x := .int i 0) rfl ?_)
  show wpAny _ _ (seqItems? (.ref t) >>= _) _ _ s
  refine wpAny_bind (wpAny_seqItems hol hdl ?_)
  simp only [Int.toNat_natCast, hx]
  refine wpAny_bind (wpAny_setField ho hd (by simp) (wpAny_pure ⟨x, rfl, wpAny_pure (hQ _ ?_ (Heap.SameBut.update ..))⟩))
  exact ⟨_, Heap.get?_update_self _ ho (Obj.isFreed_of_fields (Obj.data_mapFields hd _)), (Obj.cls_mapFields ..).trans hc, by
    rw [Obj.data_mapFields hd]; simp [rawInt]⟩
theorem nextOf_tuple_end {it t : Addr} {i : Nat} {items} {Q : Value → Shared → Prop} (hh : A.handled = none)
    (hit : s.heap.IsTupleIter it t i) (ht : s.heap.IsTuple t items) (hx : items[i]? = none)
    (hE : ∀ h' e, Heap.ExtBut it s.heap h' → (∃ o, h'.get? e = some o ∧ o.cls = .type "StopIteration") → E (.ref e) { s with heap := h' }) :
    wpAny (model prog w) A (Builtin.SmallTypes.nextOf (.ref it)) Q E s := by
  obtain ⟨o, ho, hc, hd⟩ := id hit
  obtain ⟨ol, hol, _, nl, hdl⟩ := ht
  unfold Builtin.SmallTypes.nextOf
  refine wpAny_bind (wpAny_callSpecial?_slot (name := Str.ofString "__next__") hit.typeIs F.slot_tuple_iterator_next
    (wpAny_call_entry F.slot_tuple_iterator_next hit.typeIs F.entry_tuple_iterator_next ?_ (F.args_tuple_iterator_next_1 _)))
  show wpAny _ _ (field (.ref it) 0 >>= _) _ _ s
  refine wpAny_bind (wpAny_field ho hd (x := .ref t) rfl ?_)
  show wpAny _ _ (if (Value.ref t == Value.none) = true then _ else _) _ _ s
  rw [if_neg (show ¬ ((Value.ref t == Value.none) = true) from Bool.false_ne_true)]
  show wpAny _ _ (field (.ref it) 1 >>= _) _ _ s
  refine wpAny_bind (wpAny_field ho hd (x := .int i 0) rfl ?_)
  show wpAny _ _ (seqItems? (.ref t) >>= _) _ _ s
  refine wpAny_bind (wpAny_seqItems hol hdl ?_)
  simp only [Int.toNat_natCast, hx]
  refine wpAny_bind (wpAny_rule (wpAny_bind (wpAny_setField ho hd (by simp) ?_)))
  show wpAny _ _ (newExc (.type "StopIteration") [] >>= _) _ _ _
  refine wpAny_bind ?_
  simp only [newExc, newTuple]
  refine wpAny_bind (wpAny_newObj_type ?_ (by size_fits))
  refine wpAny_bind (m := firstArgMember _ _) (wpAny_of_eq (a := Value.none) (by first | rfl | (simp only [firstArgMember]; rfl)) ?_)
  refine wpAny_newObj_type ?_ (by size_fits)
  simp only [raiseNew]
  refine wpAny_bind (wpAny_handled ?_)
  first | rw [show A.in1.handled = none from hh] | rw [hh]
  refine wpAny_bind (wpAny_pure (wpAny_throw ?_))
  exact hE _ _ (((Heap.SameBut.update ..).extBut.push _).push _) ⟨_, Heap.get?_push_size _ rfl, rfl⟩

/-! both kinds of source -/
def SIt (T : Bool) (h : Heap) (it l : Addr) (i : Nat) : Prop := if T = true then h.IsListIter it l i else h.IsTupleIter it l i
def SIs (T : Bool) (h : Heap) (l : Addr) (xs : Array Value) : Prop := if T = true then h.IsList l xs else h.IsTuple l xs
def itc (T : Bool) : String := if T = true then "list_iterator" else "tuple_iterator"
theorem SIt.iff {T : Bool} {h : Heap} {it l : Addr} {i : Nat} : SIt T h it l i ↔ ∃ o, h.get? it = some o ∧ o.cls = .type (itc T) ∧ o.data = .fields #[.ref l, .int i 0] := by cases T <;> exact Iff.rfl
theorem SIt.at {T : Bool} {h h' : Heap} {it l : Addr} {i : Nat} (x : SIt T h it l i) (e : ∀ o, h.get? it = some o → h'.get? it = some o) : SIt T h' it l i := by
  obtain ⟨o, h1, h2⟩ := SIt.iff.mp x
  exact SIt.iff.mpr ⟨o, e o h1, h2⟩
theorem SIs.at {T : Bool} {h h' : Heap} {l : Addr} {xs : Array Value} (x : SIs T h l xs) (e : ∀ o, h.get? l = some o → h'.get? l = some o) : SIs T h' l xs := by
  cases T <;> exact let ⟨o, h1, h2⟩ := x; ⟨o, e o h1, h2⟩
theorem nextOf_item {T : Bool} {it l : Addr} {i : Nat} {items} {x : Value} {Q : Value → Shared → Prop} (hit : SIt T s.heap it l i) (hl : SIs T s.heap l items) (hx : items[i]? = some x)
    (hQ : ∀ h', SIt T h' it l (i + 1) → Heap.SameBut it s.heap h' → Q x { s with heap := h' }) : wpAny (model prog w) A (Builtin.SmallTypes.nextOf (.ref it)) Q E s := by
  cases T with
  | true => exact wpAny_nextOf_list_item hit hl hx hQ
  | false => exact nextOf_tuple_item hit hl hx hQ
theorem nextOf_end {T : Bool} {it l : Addr} {i : Nat} {items} {Q : Value → Shared → Prop} (hh : A.handled = none) (hit : SIt T s.heap it l i) (hl : SIs T s.heap l items) (hx : items[i]? = none)
    (hE : ∀ h' e, Heap.ExtBut it s.heap h' → (∃ o, h'.get? e = some o ∧ o.cls = .type "StopIteration") → E (.ref e) { s with heap := h' }) : wpAny (model prog w) A (Builtin.SmallTypes.nextOf (.ref it)) Q E s := by
  cases T with
  | true => exact wpAny_nextOf_list_end hh hit hl hx hE
  | false => exact nextOf_tuple_end hh hit hl hx hE

theorem zipT_next_item {T : Bool} {z TI TO i1 i2 l1 l2 : Addr} {k1 k2 : Nat} {xs ys : Array Value} {x y a b : Value} {Q : Option Value → Shared → Prop} (D : ZipApart z TI TO i1 i2 l1 l2)
    (hz : IsZip s.heap z TI TO .none) (hTI : IsPair s.heap TI (.ref i1) (.ref i2)) (hTO : IsPair s.heap TO a b)
    (h1 : SIt T s.heap i1 l1 k1) (h2 : SIt T s.heap i2 l2 k2) (hl1 : SIs T s.heap l1 xs) (hl2 : SIs T s.heap l2 ys) (hx : xs[k1]? = some x) (hy : ys[k2]? = some y)
    (hQ : ∀ h', IsZip h' z TI TO (rawInt s.heap.objs.size) → IsPair h' TO x y → SIt T h' i1 l1 (k1 + 1) → SIt T h' i2 l2 (k2 + 1) → IsPair h' s.heap.objs.size x y → h'.objs.size = s.heap.objs.size + 1 →
      (∀ c o, c ≠ z → c ≠ TO → c ≠ i1 → c ≠ i2 → s.heap.get? c = some o → h'.get? c = some o) → Q (some (.ref s.heap.objs.size)) { s with heap := h' }) :
    wpAny (model prog w) A (pyNext (.ref z)) Q E s := by
  have hT : s.TypeIs (.ref z) "zip" := ⟨_, hz, rfl⟩
  unfold pyNext
  refine wpAny_bind (wpAny_attempt (wpAny_callSpecial?_slot (name := Str.ofString "__next__") hT F.slot_zip_next
    (wpAny_call_entry F.slot_zip_next hT F.entry_zip_next ?_ (F.args_zip_next_1 _))))
  show wpAny _ _ (field (.ref z) 2 >>= _) _ _ _
  refine wpAny_bind (wpAny_field hz rfl (x := .bool false) rfl ?_)
  show wpAny _ _ (field (.ref z) 3 >>= _) _ _ _
  refine wpAny_bind (wpAny_field hz rfl (x := .ref TI) rfl ?_)
  refine wpAny_bind (wpAny_seqItems hTI rfl ?_)
  show wpAny _ _ (Builtin.SmallTypes.ownedTupleIsFree (.ref z) >>= _) _ _ _
  refine wpAny_bind ?_
  unfold Builtin.SmallTypes.ownedTupleIsFree
  refine wpAny_bind (wpAny_field hz rfl (x := .none) rfl (wpAny_pure ?_))
  simp only [if_true]
  refine wpAny_bind (wpAny_rule ?_)
  refine wpAny_bind (wpAny_field hz rfl (x := .ref TO) rfl ?_)
  refine wpAny_bind (wpAny_setField_rec hz (by simp) fun h₁ hz₁ hs₁ => ?_)
  replace hz₁ : IsZip h₁ z TI TO .ellipsis := hz₁
  refine wpAny_bind ?_
  simp only [List.zipIdx_cons, List.zipIdx_nil, List.forIn_cons, List.forIn_nil]
  refine wpAny_bind (wpAny_bind (wpAny_onRaise ?_))
  show wpAny _ _ (Builtin.SmallTypes.nextOf (.ref i1) >>= _) _ _ _
  refine wpAny_bind (nextOf_item (T := T) (h1.at fun o e => hs₁.extBut _ _ D.i1z e) (hl1.at fun o e => hs₁.extBut _ _ D.l1z e) hx fun h₂ h1₂ hs₂ => wpAny_pure ?_)
  have hTO₂ : IsPair h₂ TO a b := hs₂.extBut _ _ D.TOi1 (hs₁.extBut _ _ D.TOz hTO)
  refine wpAny_bind (wpAny_seqItems hTO₂ rfl ?_)
  refine wpAny_bind (wpAny_updateSeq_pair hTO₂ fun h₃ hTO₃ hs₃ => ?_)
  replace hTO₃ : IsPair h₃ TO x b := hTO₃
  refine wpAny_bind (wpAny_letGo (wpAny_pure ?_))
  refine wpAny_bind (wpAny_bind (wpAny_onRaise ?_))
  show wpAny _ _ (Builtin.SmallTypes.nextOf (.ref i2) >>= _) _ _ _
  refine wpAny_bind (nextOf_item (T := T) (h2.at fun o e => hs₃.extBut _ _ D.TOi2.symm (hs₂.extBut _ _ D.i12.symm (hs₁.extBut _ _ D.i2z e)))
    (hl2.at fun o e => hs₃.extBut _ _ D.l2TO (hs₂.extBut _ _ D.l2i1 (hs₁.extBut _ _ D.l2z e))) hy fun h₄ h2₄ hs₄ => wpAny_pure ?_)
  have hTO₄ : IsPair h₄ TO x b := hs₄.extBut _ _ D.TOi2 hTO₃
  refine wpAny_bind (wpAny_seqItems hTO₄ rfl ?_)
  refine wpAny_bind (wpAny_updateSeq_pair hTO₄ fun h₅ hTO₅ hs₅ => ?_)
  replace hTO₅ : IsPair h₅ TO x y := hTO₅
  refine wpAny_bind (wpAny_letGo (wpAny_pure (wpAny_pure ?_)))
  refine wpAny_bind (wpAny_seqItems hTO₅ rfl ?_)
  refine wpAny_bind (wpAny_newTuple ?_)
  have hsz : h₅.objs.size = s.heap.objs.size := by rw [hs₅.1, hs₄.1, hs₃.1, hs₂.1, hs₁.1]
  have hz₅ : IsZip h₅ z TI TO .ellipsis := hs₅.extBut _ _ D.TOz.symm (hs₄.extBut _ _ D.i2z.symm (hs₃.extBut _ _ D.TOz.symm (hs₂.extBut _ _ D.i1z.symm hz₁)))
  have hk₅ : ∀ c o, c ≠ z → c ≠ TO → c ≠ i1 → c ≠ i2 → s.heap.get? c = some o → h₅.get? c = some o := fun c o c1 c2 c3 c4 e =>
    hs₅.extBut _ _ c2 (hs₄.extBut _ _ c4 (hs₃.extBut _ _ c2 (hs₂.extBut _ _ c3 (hs₁.extBut _ _ c1 e))))
  have h1₅ : SIt T h₅ i1 l1 (k1 + 1) := h1₂.at fun o e => hs₅.extBut _ _ D.TOi1.symm (hs₄.extBut _ _ D.i12 (hs₃.extBut _ _ D.TOi1.symm e))
  have h2₅ : SIt T h₅ i2 l2 (k2 + 1) := h2₄.at fun o e => hs₅.extBut _ _ D.TOi2.symm e
  have hzlt : z < h₅.objs.size := Heap.lt_size hz₅
  have hTOlt : TO < h₅.objs.size := Heap.lt_size hTO₅
  show wpAny _ _ (Builtin.SmallTypes.ownedTupleHandOut (.ref z) (.ref h₅.objs.size) >>= _) _ _ _
  refine wpAny_bind ?_
  unfold Builtin.SmallTypes.ownedTupleHandOut
  have hz₆ : IsZip (h₅.push { cls := .type "tuple", data := .seq #[x, y] }) z TI TO .ellipsis := Heap.get?_push_of_some _ hz₅
  refine wpAny_bind (wpAny_setField_rec hz₆ (by simp) fun h₇ hz₇ hs₇ => ?_)
  replace hz₇ : IsZip h₇ z TI TO (rawInt h₅.objs.size) := hz₇
  refine wpAny_setField_rec hz₇ (by simp) fun h₈ hz₈ hs₈ => ?_
  replace hz₈ : IsZip h₈ z TI TO (rawInt h₅.objs.size) := hz₈
  have up : ∀ c o, c ≠ z → h₅.get? c = some o → h₈.get? c = some o := fun c o c1 e => hs₈.extBut _ _ c1 (hs₇.extBut _ _ c1 (Heap.get?_push_of_some _ e))
  have hT₈ : IsPair h₈ h₅.objs.size x y := hs₈.extBut _ _ (Nat.ne_of_gt hzlt) (hs₇.extBut _ _ (Nat.ne_of_gt hzlt) (Heap.get?_push_size _ rfl))
  have hz8 : h₈.objs.size = h₅.objs.size + 1 := by rw [hs₈.1, hs₇.1, Heap.size_push]
  rw [hsz] at hz₈ hT₈ hz8
  refine wpAny_pure ⟨_, rfl, wpAny_pure ?_⟩
  show Q (some (.ref h₅.objs.size)) _
  rw [hsz]
  exact hQ h₈ hz₈ (up _ _ D.TOz hTO₅) (h1₅.at fun o e => up _ o D.i1z e) (h2₅.at fun o e => up _ o D.i2z e) hT₈ hz8 fun c o c1 c2 c3 c4 e => up c o c1 (hk₅ c o c1 c2 c3 c4 e)

theorem zipT_end0 {T : Bool} {z TI TO i1 i2 l1 l2 : Addr} {k1 k2 : Nat} {xs ys : Array Value} {a b : Value} {Q : Fin → Shared → Prop} (hh : A.handled = none) (D : ZipApart z TI TO i1 i2 l1 l2)
    (hz : IsZip s.heap z TI TO .none) (hTI : IsPair s.heap TI (.ref i1) (.ref i2)) (hTO : IsPair s.heap TO a b)
    (h1 : SIt T s.heap i1 l1 k1) (h2 : SIt T s.heap i2 l2 k2) (hl1 : SIs T s.heap l1 xs) (hl2 : SIs T s.heap l2 ys) (hend : xs[k1]? = none ∨ ys[k2]? = none)
    (hE : ∀ h' e, (∀ c o, c ≠ z → c ≠ TO → c ≠ i1 → c ≠ i2 → s.heap.get? c = some o → h'.get? c = some o) → (∃ o, h'.get? e = some o ∧ o.cls = .type "StopIteration") → E (.ref e) { s with heap := h' }) :
    wpAny (model prog w) A (Builtin.«zip.__next__» ⟨[.ref z], []⟩) Q E s := by
  show wpAny _ _ (field (.ref z) 2 >>= _) _ _ _
  refine wpAny_bind (wpAny_field hz rfl (x := .bool false) rfl ?_)
  show wpAny _ _ (field (.ref z) 3 >>= _) _ _ _
  refine wpAny_bind (wpAny_field hz rfl (x := .ref TI) rfl ?_)
  refine wpAny_bind (wpAny_seqItems hTI rfl ?_)
  show wpAny _ _ (Builtin.SmallTypes.ownedTupleIsFree (.ref z) >>= _) _ _ _
  refine wpAny_bind ?_
  unfold Builtin.SmallTypes.ownedTupleIsFree
  refine wpAny_bind (wpAny_field hz rfl (x := .none) rfl (wpAny_pure ?_))
  simp only [if_true]
  refine wpAny_bind (wpAny_rule ?_)
  refine wpAny_bind (wpAny_field hz rfl (x := .ref TO) rfl ?_)
  refine wpAny_bind (wpAny_setField_rec hz (by simp) fun h₁ hz₁ hs₁ => ?_)
  replace hz₁ : IsZip h₁ z TI TO .ellipsis := hz₁
  refine wpAny_bind ?_
  simp only [List.zipIdx_cons, List.zipIdx_nil, List.forIn_cons, List.forIn_nil]
  refine wpAny_bind (wpAny_bind (wpAny_onRaise ?_))
  show wpAny _ _ (Builtin.SmallTypes.nextOf (.ref i1) >>= _) _ _ _
  cases hx : xs[k1]? with
  | none =>
    refine wpAny_bind (nextOf_end (T := T) hh (h1.at fun o e => hs₁.extBut _ _ D.i1z e) (hl1.at fun o e => hs₁.extBut _ _ D.l1z e) hx fun h₂ e hs₂ he => ?_)
    obtain ⟨oe, hoe, hce⟩ := he
    have hz₂ : IsZip h₂ z TI TO .ellipsis := hs₂ _ _ D.i1z.symm hz₁
    have hez : e ≠ z := fun x => by subst x; rw [hz₂] at hoe; cases hoe; simp at hce
    refine wpAny_setField_rec hz₂ (by simp) fun h₃ _ hs₃ => hE h₃ e (fun c o c1 _ c3 _ x => hs₃.extBut _ _ c1 (hs₂ _ _ c3 (hs₁.extBut _ _ c1 x))) ⟨oe, hs₃.extBut _ _ hez hoe, hce⟩
  | some x =>
    have hy : ys[k2]? = none := by rcases hend with h | h; rw [hx] at h; cases h; exact h
    refine wpAny_bind (nextOf_item (T := T) (h1.at fun o e => hs₁.extBut _ _ D.i1z e) (hl1.at fun o e => hs₁.extBut _ _ D.l1z e) hx fun h₂ h1₂ hs₂ => wpAny_pure ?_)
    have hTO₂ : IsPair h₂ TO a b := hs₂.extBut _ _ D.TOi1 (hs₁.extBut _ _ D.TOz hTO)
    refine wpAny_bind (wpAny_seqItems hTO₂ rfl ?_)
    refine wpAny_bind (wpAny_updateSeq_pair hTO₂ fun h₃ hTO₃ hs₃ => ?_)
    refine wpAny_bind (wpAny_letGo (wpAny_pure ?_))
    refine wpAny_bind (wpAny_bind (wpAny_onRaise ?_))
    show wpAny _ _ (Builtin.SmallTypes.nextOf (.ref i2) >>= _) _ _ _
    refine wpAny_bind (nextOf_end (T := T) hh (h2.at fun o e => hs₃.extBut _ _ D.TOi2.symm (hs₂.extBut _ _ D.i12.symm (hs₁.extBut _ _ D.i2z e)))
      (hl2.at fun o e => hs₃.extBut _ _ D.l2TO (hs₂.extBut _ _ D.l2i1 (hs₁.extBut _ _ D.l2z e))) hy fun h₄ e hs₄ he => ?_)
    obtain ⟨oe, hoe, hce⟩ := he
    have hz₄ : IsZip h₄ z TI TO .ellipsis := hs₄ _ _ D.i2z.symm (hs₃.extBut _ _ D.TOz.symm (hs₂.extBut _ _ D.i1z.symm hz₁))
    have hez : e ≠ z := fun x => by subst x; rw [hz₄] at hoe; cases hoe; simp at hce
    refine wpAny_setField_rec hz₄ (by simp) fun h₅ _ hs₅ => hE h₅ e (fun c o c1 c2 c3 c4 x => hs₅.extBut _ _ c1 (hs₄ _ _ c4 (hs₃.extBut _ _ c2 (hs₂.extBut _ _ c3 (hs₁.extBut _ _ c1 x))))) ⟨oe, hs₅.extBut _ _ hez hoe, hce⟩
theorem zipT_next_end {T : Bool} {z TI TO i1 i2 l1 l2 : Addr} {k1 k2 : Nat} {xs ys : Array Value} {a b : Value} {Q : Option Value → Shared → Prop} (hh : A.handled = none) (D : ZipApart z TI TO i1 i2 l1 l2)
    (hz : IsZip s.heap z TI TO .none) (hTI : IsPair s.heap TI (.ref i1) (.ref i2)) (hTO : IsPair s.heap TO a b)
    (h1 : SIt T s.heap i1 l1 k1) (h2 : SIt T s.heap i2 l2 k2) (hl1 : SIs T s.heap l1 xs) (hl2 : SIs T s.heap l2 ys) (hend : xs[k1]? = none ∨ ys[k2]? = none)
    (hQ : ∀ h', (∀ c o, c ≠ z → c ≠ TO → c ≠ i1 → c ≠ i2 → s.heap.get? c = some o → h'.get? c = some o) → Q none { s with heap := h' }) :
    wpAny (model prog w) A (pyNext (.ref z)) Q E s := by
  have hT : s.TypeIs (.ref z) "zip" := ⟨_, hz, rfl⟩
  unfold pyNext
  refine wpAny_bind (wpAny_attempt (wpAny_callSpecial?_slot (name := Str.ofString "__next__") hT F.slot_zip_next
    (wpAny_call_entry F.slot_zip_next hT F.entry_zip_next (zipT_end0 (T := T) hh D hz hTI hTO h1 h2 hl1 hl2 hend fun h' e hk he => ?_) (F.args_zip_next_1 _))))
  obtain ⟨o, ho, hc⟩ := he
  refine wpAny_bind (wpAny_isInstance (T := "StopIteration") (b := true) ⟨o, ho, hc⟩ isSubtype_stop ?_)
  exact wpAny_pure (hQ _ hk)
/-- over a heap: five new objects -/
def zh1 (T : Bool) (h : Heap) (l1 : Addr) : Heap := h.push { cls := .type (itc T), data := .fields #[.ref l1, .int 0 0] }
def zh2 (T : Bool) (h : Heap) (l1 l2 : Addr) : Heap := (zh1 T h l1).push { cls := .type (itc T), data := .fields #[.ref l2, .int 0 0] }
def zh3 (T : Bool) (h : Heap) (l1 l2 : Addr) : Heap := (zh2 T h l1 l2).push { cls := .type "tuple", data := .seq #[.ref h.objs.size, .ref (zh1 T h l1).objs.size] }
def zh4 (T : Bool) (h : Heap) (l1 l2 : Addr) : Heap := (zh3 T h l1 l2).push { cls := .type "tuple", data := .seq #[.none, .none] }
def zh5 (T : Bool) (h : Heap) (l1 l2 : Addr) : Heap := (zh4 T h l1 l2).push { cls := .type "zip", data := .fields #[.none, .bool false, .bool false, .ref (zh2 T h l1 l2).objs.size, .ref (zh3 T h l1 l2).objs.size] }
theorem meets_zipt (l1 l2 : Addr) (xs ys : Array Value) :
    Meets (Builtin.«zip.__new__» ⟨[.type "zip", .ref l1, .ref l2], []⟩) (fun _ R s => s.heap.IsTuple l1 xs ∧ s.heap.IsTuple l2 ys ∧
      R (.ok (.ret (.ref (zh4 false s.heap l1 l2).objs.size))) { s with heap := zh5 false s.heap l1 l2 }) :=
  .of_wp fun prog w A R s h => by
    obtain ⟨hp, g, d, tk, os⟩ := s; obtain ⟨hl1, hl2, h⟩ := h
    have hsub := sub_zip
    have hL1 : Heap.IsTuple (Shared.heap ⟨hp, g, d, tk, os⟩) l1 xs := hl1
    have hL2 : Heap.IsTuple (Shared.heap ⟨hp.push { cls := .type "tuple_iterator", data := .fields #[.ref l1, .int 0 0] }, g, d, tk, os⟩) l2 ys := Heap.IsTuple.push hl2 _
    wp_walk using wpAny_pyIter_tuple hL1, wpAny_pyIter_tuple hL2
    exact ⟨_, rfl, h⟩
theorem call_zipT {T : Bool} {l1 l2 : Addr} {xs ys : Array Value} {Q : Value → Shared → Prop} (hl1 : SIs T s.heap l1 xs) (hl2 : SIs T s.heap l2 ys)
    (h : ∀ h', IsZip h' (s.heap.objs.size + 4) (s.heap.objs.size + 2) (s.heap.objs.size + 3) .none → IsPair h' (s.heap.objs.size + 2) (.ref s.heap.objs.size) (.ref (s.heap.objs.size + 1)) →
      IsPair h' (s.heap.objs.size + 3) .none .none → SIt T h' s.heap.objs.size l1 0 → SIt T h' (s.heap.objs.size + 1) l2 0 → h'.objs.size = s.heap.objs.size + 5 →
      (∀ c o, s.heap.get? c = some o → h'.get? c = some o) → Q (.ref (s.heap.objs.size + 4)) { s with heap := h' }) :
    wpAny (model prog w) A (call (.type "zip") [.ref l1, .ref l2]) Q E s := by
  cases T with
  | true => exact call_zip_2 hl1 hl2 h
  | false =>
    refine callType_new F.called_zip (by decide) (F.typeCall_zip_2 _ _) (F.newCall_zip_2 _ _) (fun obj => F.args_object_init_3 obj _ _) F.entry_zip_new
      (meets_zipt l1 l2 xs ys) ⟨hl1, hl2, ?_⟩
    have z1 : (zh1 false s.heap l1).objs.size = s.heap.objs.size + 1 := Heap.size_push ..
    have z2 : (zh2 false s.heap l1 l2).objs.size = s.heap.objs.size + 2 := (Heap.size_push ..).trans (by rw [z1])
    have z3 : (zh3 false s.heap l1 l2).objs.size = s.heap.objs.size + 3 := (Heap.size_push ..).trans (by rw [z2])
    have z4 : (zh4 false s.heap l1 l2).objs.size = s.heap.objs.size + 4 := (Heap.size_push ..).trans (by rw [z3])
    have z5 : (zh5 false s.heap l1 l2).objs.size = s.heap.objs.size + 5 := (Heap.size_push ..).trans (by rw [z4])
    have g5 : (zh5 false s.heap l1 l2).get? (zh4 false s.heap l1 l2).objs.size = some _ := Heap.get?_push_size _ rfl
    have g4 : (zh5 false s.heap l1 l2).get? (zh3 false s.heap l1 l2).objs.size = some _ := Heap.get?_push_of_some _ (Heap.get?_push_size _ rfl)
    have g3 : (zh5 false s.heap l1 l2).get? (zh2 false s.heap l1 l2).objs.size = some _ := Heap.get?_push_of_some _ (Heap.get?_push_of_some _ (Heap.get?_push_size _ rfl))
    have g2 : (zh5 false s.heap l1 l2).get? (zh1 false s.heap l1).objs.size = some _ := Heap.get?_push_of_some _ (Heap.get?_push_of_some _ (Heap.get?_push_of_some _ (Heap.get?_push_size _ rfl)))
    have g1 : (zh5 false s.heap l1 l2).get? s.heap.objs.size = some _ := Heap.get?_push_of_some _ (Heap.get?_push_of_some _ (Heap.get?_push_of_some _ (Heap.get?_push_of_some _ (Heap.get?_push_size _ rfl))))
    show _ ∧ _
    rw [z2, z3, z4] at g5
    rw [z1, z2] at g3
    rw [z3] at g4
    rw [z1] at g2
    rw [z4]
    exact ⟨⟨_, g5, rfl⟩, h _ g5 g3 g4 ⟨_, g1, rfl, rfl⟩ ⟨_, g2, rfl, rfl⟩ z5 fun c o x =>
      Heap.get?_push_of_some _ (Heap.get?_push_of_some _ (Heap.get?_push_of_some _ (Heap.get?_push_of_some _ (Heap.get?_push_of_some _ x))))⟩
end
end
-- M11
section
section
variable {α β γ δ : Type} {G : Cx} {A A' : Around} {env : Env} {Y : List (Addr × Obj)} {Z : Heap} {s : Shared} {σ σ' : Sg} {x : Str} {p pos : Pos} {n : Nat}
def zipV (xs ys : List PyData) : List V := (xs.zip ys).map fun q => .d (.tuple [q.1, q.2])
theorem zipV_len (xs ys : List PyData) : (zipV xs ys).length = min xs.length ys.length := by simp [zipV]
theorem zipV_get {xs ys : List PyData} {i : Nat} {v : V} (h : (zipV xs ys)[i]? = some v) : ∃ x y, xs[i]? = some x ∧ ys[i]? = some y ∧ v = .d (.tuple [x, y]) := by
  unfold zipV at h
  rw [List.getElem?_map] at h
  cases q : (xs.zip ys)[i]? with
  | none => rw [q] at h; cases h
  | some u =>
    rw [q] at h
    have := List.getElem?_zip_eq_some.mp q
    exact ⟨u.1, u.2, this.1, this.2, by simpa using h.symm⟩
def ZSt (T : Bool) (z TI TO i1 i2 l1 l2 : Addr) (i : Nat) (Yi : List (Addr × Obj)) : Prop :=
  ∃ o1 o2 a b, Yi = [(z, { cls := .type "zip", dict := none, data := .fields #[.none, .bool false, .bool false, .ref TI, .ref TO], slots := #[] }), (TI, { cls := .type "tuple", data := .seq #[.ref i1, .ref i2] }), (TO, { cls := .type "tuple", data := .seq #[a, b] }), (i1, o1), (i2, o2)] ∧
    o1.cls = .type (itc T) ∧ o1.data = .fields #[.ref l1, .int i 0] ∧ o2.cls = .type (itc T) ∧ o2.data = .fields #[.ref l2, .int i 0]
theorem sis_le {T : Bool} {Z Z' : Heap} (le : Le Z Z') {l : Addr} {xs : Array Value} (h : SIs T Z l xs) : SIs T Z' l xs := h.at fun o e => le _ _ e
theorem itr_zip {T : Bool} {z TI TO i1 i2 l1 l2 : Addr} {as bs : List Value} {xs ys : List PyData} {elts : List Expr} {c : Nat} (rm : Room n A) (D : ZipApart z TI TO i1 i2 l1 l2) (h1 : SIs T Z l1 as.toArray) (h2 : SIs T Z l2 bs.toArray) (r1 : RdAll Z as xs) (r2 : RdAll Z bs ys) :
    Itr G A (.Tuple elts c p) (.ref z) (zipV xs ys) Z (ZSt T z TI TO i1 i2 l1 l2) where
  step := by
    rintro i x Y _ Z1 σ s hx ⟨o1, o2, a, b', rfl, hc1, hd1, hc2, hd2⟩ le b
    obtain ⟨u, v, hu, hv, rfl⟩ := zipV_get hx
    obtain ⟨ua, hua, ru⟩ := reads_get r1 hu
    obtain ⟨va, hva, rv⟩ := reads_get r2 hv
    have pz := (b.priv _ (.head _)).1
    have pI := (b.priv _ (.tail _ (.head _))).1
    have pO := (b.priv _ (.tail _ (.tail _ (.head _)))).1
    have p1 := (b.priv _ (.tail _ (.tail _ (.tail _ (.head _))))).1
    have p2 := (b.priv _ (.tail _ (.tail _ (.tail _ (.tail _ (.head _)))))).1
    refine zipT_next_item (T := T) D pz pI pO (SIt.iff.mpr ⟨o1, p1, hc1, hd1⟩) (SIt.iff.mpr ⟨o2, p2, hc2, hd2⟩) (sis_le (fun c o e => b.sub c o (le c o e)) h1) (sis_le (fun c o e => b.sub c o (le c o e)) h2) (by simpa using hua) (by simpa using hva) fun h' e1 e2 e3 e4 e5 e6 hk => ⟨_, rfl, ?_⟩
    refine wpAny_letOwnedTupleGo_zip e1 fun h'' e7 hs => ?_
    obtain ⟨o1', e3, hc1', hd1'⟩ := SIt.iff.mp e3
    obtain ⟨o2', e4, hc2', hd2'⟩ := SIt.iff.mp e4
    have hlt : z < s.heap.objs.size := Heap.lt_size pz
    have hk' : ∀ a o, a ≠ z → a ≠ TO → a ≠ i1 → a ≠ i2 → s.heap.get? a = some o → h''.get? a = some o := fun a o n1 n2 n3 n4 q => hs.extBut a o n1 (hk a o n1 n2 n3 n4 q)
    have e5' := hs.extBut _ _ (Nat.ne_of_gt hlt) e5
    have b2 : B G ([(z, { cls := .type "zip", dict := none, data := .fields #[.none, .bool false, .bool false, .ref TI, .ref TO], slots := #[] }), (TI, { cls := .type "tuple", data := .seq #[.ref i1, .ref i2] }), (TO, { cls := .type "tuple", data := .seq #[ua, va] }), (i1, o1'), (i2, o2')] ++ Y) Z1 σ h'' := by
      refine b.mv rfl (fun p hp => ?_) fun a o hm q => hk' a o (fun x => hm (by simp [x])) (fun x => hm (by simp [x])) (fun x => hm (by simp [x])) (fun x => hm (by simp [x])) q
      rcases List.mem_cons.mp hp with rfl | hp
      · exact e7
      rcases List.mem_cons.mp hp with rfl | hp
      · exact hk' _ _ D.TIz D.TITO D.TIi1 D.TIi2 pI
      rcases List.mem_cons.mp hp with rfl | hp
      · exact hs.extBut _ _ D.TOz e2
      rcases List.mem_cons.mp hp with rfl | hp
      · exact hs.extBut _ _ D.i1z e3
      · rw [List.mem_singleton.mp hp]; exact hs.extBut _ _ D.i2z e4
    obtain ⟨Z2, le2, b3, fz⟩ := b2.max
    have fr := b.fresh (Nat.le_refl _)
    refine ⟨Z2, _, le2, b3, ⟨_, _, rfl⟩, ⟨o1', o2', ua, va, rfl, hc1', hd1', hc2', hd2'⟩, .d (.tuple (n := 0) (vs := [ua, va]) (fz _ _ ?_ fr.1 (fun hm => fr.2.1 (by simpa using hm))) (.cons (ru.le fun c o q => le2 c o (le c o q)) (.cons (rv.le fun c o q => le2 c o (le c o q)) .nil)))⟩
    exact e5'
  done := by
    rintro Y _ Z1 σ s ⟨o1, o2, a, b', rfl, hc1, hd1, hc2, hd2⟩ le b
    have pz := (b.priv _ (.head _)).1
    have pI := (b.priv _ (.tail _ (.head _))).1
    have pO := (b.priv _ (.tail _ (.tail _ (.head _)))).1
    have p1 := (b.priv _ (.tail _ (.tail _ (.tail _ (.head _))))).1
    have p2 := (b.priv _ (.tail _ (.tail _ (.tail _ (.tail _ (.head _)))))).1
    refine zipT_next_end (T := T) rm.h D pz pI pO (SIt.iff.mpr ⟨o1, p1, hc1, hd1⟩) (SIt.iff.mpr ⟨o2, p2, hc2, hd2⟩) (sis_le (fun c o e => b.sub c o (le c o e)) h1) (sis_le (fun c o e => b.sub c o (le c o e)) h2) ?_ fun h' hk => ⟨rfl, ?_, ⟨_, _, rfl⟩⟩
    · rw [zipV_len]
      rcases Nat.le_total xs.length ys.length with h | h
      · exact .inl (by simp [rd_length r1, Nat.min_eq_left h])
      · exact .inr (by simp [rd_length r2, Nat.min_eq_right h])
    · exact b.gone fun a o hm e => hk a o (fun x => hm (by simp [x])) (fun x => hm (by simp [x])) (fun x => hm (by simp [x])) (fun x => hm (by simp [x])) e
  self := by
    rintro i Y _ Z1 σ s Q ⟨o1, o2, a, b', rfl, hc1, hd1, hc2, hd2⟩ le b k
    exact wpAny_pyIter_zip (b.priv _ (.head _)).1 k
def seqD (T : Bool) (xs : List PyData) : V := if T = true then .d (.list xs) else .d (.tuple xs)
theorem seqD.at {T : Bool} {xs : List PyData} {a : Value} (r : VR G Z (seqD T xs) a) : ∃ l vs, a = .ref l ∧ SIs T Z l vs.toArray ∧ RdAll Z vs xs := by
  cases T with
  | true => obtain ⟨l, vs, n, e, h1, h2⟩ := VR.list (show VR G Z (.d (.list xs)) a from r); exact ⟨l, vs, e, isL h1, h2⟩
  | false => obtain ⟨l, vs, n, e, h1, h2⟩ := VR.tup (show VR G Z (.d (.tuple xs)) a from r); exact ⟨l, vs, e, isT h1, h2⟩
theorem sis_lt {T : Bool} {h : Heap} {l : Addr} {xs : Array Value} (x : SIs T h l xs) : l < h.objs.size := by
  cases T <;> exact let ⟨o, e, _⟩ := x; Heap.lt_size e
theorem WI_zip (T : Bool) (P : Pg G) {K : List V → Sg → Prop} {e e' : Expr} {fp tp : Pos} {elts : List Expr} {c : Nat} (rm : Room n A) (h : WEs G A env p σ [e, e'] fun vs σ1 => ∃ xs ys : List PyData, vs = [seqD T xs, seqD T ys] ∧ K (zipV xs ys) σ1)
    (he : starEach [e, e'] env = (false, eval e env) :: starEach [e'] env := by with_unfolding_all rfl) (hplain : (backTo p (starEach [e'] env)).any (·.1) = false := by with_unfolding_all rfl)
    (hg : env.globals = mainGlobals := by with_unfolding_all rfl) (hb : env.builtins = builtinsNs := by with_unfolding_all rfl) (hk : env.scope.kind = .function := by with_unfolding_all rfl) (hx : env.kindOf "zip" = some .globalImplicit := by with_unfolding_all rfl) :
    WI G A env σ (.Tuple elts c tp) (.Call (.Name "zip" fp) [e, e'] [] p) K := by
  intro Y Z s b
  refine call_blt P h b (fun Z2 vs σ2 as s2 le2 b2 sm2 r2 ⟨xs, ys, ev, kk⟩ => ?_) (v := .type "zip") rfl (.typ _) he hplain hg hb hk hx (by decide)
  subst ev
  cases r2 using VRs.cC with | cons r r' => cases r' using VRs.cC with | cons r' r'' =>
    cases r'' using VRs.cN
    obtain ⟨l1, as, rfl, h1, r1⟩ := seqD.at r
    obtain ⟨l2, bs, rfl, h2, r2⟩ := seqD.at r'
    refine call_zipT (T := T) (sis_le b2.sub h1) (sis_le b2.sub h2) fun h' e1 e2 e3 e4 e5 e6 hk => ?_
    obtain ⟨o1, e4, hc1, hd1⟩ := SIt.iff.mp e4
    obtain ⟨o2, e5, hc2, hd2⟩ := SIt.iff.mp e5
    refine wpAny_pyIter_zip e1 ⟨Z2, σ2, zipV xs ys, _, _, le2, ?_, sm2.trans ⟨_, _, rfl⟩, ⟨o1, o2, .none, .none, rfl, hc1, hd1, hc2, hd2⟩, itr_zip (T := T) rm (zipApart_new (sis_lt (sis_le b2.sub h1)) (sis_lt (sis_le b2.sub h2))) h1 h2 r1 r2, kk⟩
    refine b2.own hk (fun p hp => ?_) ?_
    · rcases List.mem_cons.mp hp with rfl | hp
      · exact ⟨Nat.le_add_right _ _, e1⟩
      rcases List.mem_cons.mp hp with rfl | hp
      · exact ⟨Nat.le_add_right _ _, e2⟩
      rcases List.mem_cons.mp hp with rfl | hp
      · exact ⟨Nat.le_add_right _ _, e3⟩
      rcases List.mem_cons.mp hp with rfl | hp
      · exact ⟨Nat.le_refl _, e4⟩
      · rw [List.mem_singleton.mp hp]; exact ⟨Nat.le_add_right _ _, e5⟩
    · simp
end
end
-- M12
section
section
variable {α β γ δ : Type} {G : Cx} {A A' : Around} {env : Env} {Y : List (Addr × Obj)} {Z : Heap} {s : Shared} {σ σ' : Sg} {x : Str} {p pos : Pos} {n : Nat}

/-- the receiver of a method: an object of the machine's type T without attributes -/
def Rcv (G : Cx) (σ : Sg) (v : V) (T : String) : Prop := ∀ Y Z h a, B G Y Z σ h → VR G Z v a → ∃ b o, a = .ref b ∧ h.get? b = some o ∧ o.cls = .type T ∧ o.dict = none
theorem rcv_l {l : Addr} {xs : List PyData} (hm : (l, MO.l xs) ∈ σ) : Rcv G σ (.r l) "list" := fun Y Z h a b r => by
  cases r using VR.cR
  obtain ⟨vs, n, e, _⟩ := (b.objs _ hm).1.lst
  exact ⟨_, _, rfl, e, rfl, rfl⟩
theorem WE_Meth {K : V → Sg → Prop} {o e : Expr} {es : List Expr} {name : Str} {apos : Pos} (T id : String) (pa : PlainAttrs T) (slot : Slot T name id) (hty : typeOf (.builtin id) = pure (.type "method_descriptor"))
    (h : WE G A env σ o fun v σ1 => Rcv G σ1 v T ∧ WEs G A env p σ1 (e :: es) fun vs σ2 => Wn G A σ2 (VR G) (cl (.builtin id)) (v :: vs) K)
    (hbase : attributeBase o name env (eval o env) = eval o env := by with_unfolding_all rfl)
    (hfew : ((backTo p (starEach (e :: es) env)).all (fun x => !x.1) && (backToKw p (keywordEach [] env)).all (fun x => x.1.isSome)
      && decide ((e :: es).length + ([] : List Keyword).length + (if ([] : List Keyword).isEmpty then 0 else 1) < 30)) = true := by with_unfolding_all rfl)
    (hline : (apos.endLine == p.line) = true := by with_unfolding_all rfl)
    (he : starEach (e :: es) env = (false, eval e env) :: starEach es env := by with_unfolding_all rfl) (hplain : (backTo p (starEach es env)).any (·.1) = false := by with_unfolding_all rfl) :
    WE G A env σ (.Call (.Attribute o name apos) (e :: es) [] p) K := by
  intro Y Z s b
  refine wpAny_Call_method hbase hfew hline pa slot hty (h.bind b fun Z1 v σ1 a s1 le1 b1 sm1 r1 ⟨rc, k1⟩ => ?_)
  obtain ⟨c, ob, rfl, e1, e2, e3⟩ := rc Y Z1 s1.heap a b1 r1
  refine ⟨⟨_, e1, e2⟩, fun a' q => ?_, ?_⟩
  · cases q; exact ⟨_, e1, e3⟩
  · have he' : backTo p (starEach (e :: es) env) = (false, eval e env) :: backTo p (starEach es env) := by rw [he]; rfl
    refine callWith_builtin ?_ ?_
    · rw [he']; show (false || (backTo p (starEach es env)).any (·.1)) = false; rw [hplain]; rfl
    · rw [he']
      refine evalArgs_plain ?_
      rw [← he']
      refine Wt.bind k1 b1 fun Z2 vs σ2 as s2 le2 b2 sm2 r2 k2 => ?_
      exact wpBack (fun c o e => le2 c o (le1 c o e)) (sm1.trans sm2) (k2 Y Z2 s2 _ b2 (.cons (r1.le le2) r2))

theorem rdall_app {Z : Heap} {vs us : List Value} {xs ys : List PyData} (r : RdAll Z vs xs) (k : RdAll Z us ys) : RdAll Z (vs ++ us) (xs ++ ys) := RdAll.ind (P := fun vs xs => RdAll Z (vs ++ us) (xs ++ ys)) k (fun h _ ih => .cons h ih) r
theorem app_l {K : V → Sg → Prop} {l : Addr} {xs : List PyData} {u : PyData} (up : Up l (.l xs) (.l (xs ++ [u])) σ σ') (hl : xs.length ≤ 100000) (k : K (.d .none) σ') : Wn G A σ (VR G) (cl (.builtin "list.append")) [.r l, .d u] K := by
  intro Y Z s vs b r
  cases r using VRs.cC with | cons r r' => cases r' using VRs.cC with | cons r' r'' => cases r'' using VRs.cN; cases r using VR.cR; cases r' using VR.cD with | d r' =>
    have o := (b.objs _ up.mem).1
    cases o using OR.cLs with
    | @l vs n h1 h2 =>
      refine wpAny_list_append_plain ⟨_, h1⟩ (fun h' ⟨n', e'⟩ hs => ?_) (by simp [rd_length h2]; exact Nat.le_trans hl (by decide))
      exact ⟨Z, _, σ', fun _ _ e => e, b.upd up hs.extBut (.l (vs := vs ++ _) (n := n') (by simpa using e') (rdall_app h2 (.cons r' .nil))), ⟨_, _, rfl⟩, .d .none, k⟩
theorem ext_l {K : V → Sg → Prop} {l : Addr} {xs us : List PyData} (up : Up l (.l xs) (.l (xs ++ us)) σ σ') (hl : xs.length ≤ 100000) (hl2 : us.length ≤ 100000) (k : K (.d .none) σ') : Wn G A σ (VR G) (cl (.builtin "list.extend")) [.r l, .d (.list us)] K := by
  intro Y Z s vs b r
  cases r using VRs.cC with | cons r r' => cases r' using VRs.cC with | cons r' r'' =>
    cases r'' using VRs.cN; cases r using VR.cR
    obtain ⟨l2, bs, n2, rfl, g1, g2⟩ := r'.list
    have o := (b.objs _ up.mem).1
    cases o using OR.cLs with
    | @l vs n h1 h2 =>
      have e1 := rd_length h2
      have e2 := rd_length g2
      have hsl : (1000000 : Nat) ≤ sizeLine := by decide
      refine call_meets F.slot_list_extend ⟨_, h1, rfl⟩ F.entry_list_extend (F.args_list_extend_2 _ _) (AutoSeq1.list_extend_list_list_0 l vs.toArray n l2 bs.toArray n2 ?_ (by simp; omega) (by simp; omega)) ⟨h1, b.sub _ _ g1, ?_⟩
      · simp [Builtin.List.listTooLong]; intro _; omega
      · refine ⟨Z, _, σ', fun _ _ e => e, b.upd up (Heap.SameBut.update ..).extBut ?_, ⟨_, _, rfl⟩, .d .none, k⟩
        exact .l (vs := vs ++ bs) (n := _) (Heap.get?_update_self _ h1 rfl |>.trans (by simp [Obj.mapSeq]; rfl)) (rdall_app h2 g2)
theorem pop_l {K : V → Sg → Prop} {l : Addr} {xs : List PyData} {u : PyData} (up : Up l (.l (u :: xs)) (.l xs) σ σ') (hl : xs.length ≤ 100000) (k : K (.d u) σ') : Wn G A σ (VR G) (cl (.builtin "list.pop")) [.r l, .d (.int 0)] K := by
  intro Y Z s vs b r
  cases r using VRs.cC with | cons r r' => cases r' using VRs.cC with | cons r' r'' =>
    cases r'' using VRs.cN; cases r using VR.cR; cases r' using VR.cD with | d r' =>
      cases r' using Rd.cI
      have o := (b.objs _ up.mem).1
      cases o using OR.cLs with
      | @l vs n h1 h2 =>
        cases h2 using RdAll.cC with
        | @cons v vs hv h2 =>
          have e1 := rd_length h2
          have hsl : (1000000 : Nat) ≤ sizeLine := by decide
          refine call_meets F.slot_list_pop ⟨_, h1, rfl⟩ F.entry_list_pop (F.args_list_pop_2 _ _) (MeetsSeq.list_pop_at l (v :: vs).toArray n 0 _ 0 v (by decide) ?_ rfl (by simp; omega)) ⟨h1, ?_⟩
          · unfold seqIndex?; simp
          · refine ⟨Z, _, σ', fun _ _ e => e, b.upd up (Heap.SameBut.update ..).extBut ?_, ⟨_, _, rfl⟩, .d hv, k⟩
            exact .l (vs := vs) (n := _) (Heap.get?_update_self _ h1 rfl |>.trans (by simp [Obj.mapSeq]; rfl)) h2
theorem ints_are {Z : Heap} {vs : List Value} {ns : List Int} (h : RdAll Z vs (ns.map .int)) : IntsAre vs ns :=
  RdAll.ind (P := fun vs xs => ∀ ns, xs = ns.map PyData.int → IntsAre vs ns) (fun ns e => by cases ns with | nil => exact .nil | cons _ _ => cases e)
    (fun {v x vs xs} h _ ih ns e => by cases ns with | nil => cases e | cons n ns => rw [List.map_cons, List.cons.injEq] at e; rw [e.1] at h; cases h using Rd.cI; exact .cons _ _ (ih ns e.2)) h ns rfl
theorem index_l {K : V → Sg → Prop} {l : Addr} {ns : List Int} {j : Int} (hm : (l, MO.l (ns.map .int)) ∈ σ) (hj : j ∈ ns) (hlay : PyData.layable0 (.list (ns.map .int)) = true) (k : K (.d (.int (ns.idxOf j : Nat))) σ) : Wn G A σ (VR G) (cl (.builtin "list.index")) [.r l, .d (.int j)] K := by
  intro Y Z s vs b r
  cases r using VRs.cC with | cons r r' => cases r' using VRs.cC with | cons r' r'' =>
    cases r'' using VRs.cN; cases r using VR.cR; cases r' using VR.cD with | d r' =>
      cases r' using Rd.cI
      obtain ⟨vs, n, h1, h2⟩ := (b.objs _ hm).1.lst
      exact index_list_ints (isL h1) (ints_are h2) hlay hj (po_keep b ⟨_, _, rfl⟩ rfl (.d (.int _ _)) k)
end
end
-- M13
section
section
variable {α β γ δ : Type} {G : Cx} {A A' : Around} {env : Env} {Y : List (Addr × Obj)} {Z : Heap} {s : Shared} {σ σ' : Sg} {x : Str} {p pos : Pos} {n : Nat}

/-! texts, lists -/
theorem add_ss {K : V → Sg → Prop} {u v : Str} (h : u.length + v.length ≤ 100000) (k : K (.d (.str (u ++ v))) σ) : W2 G A σ (VR G) (binaryOp .Add) (.d (.str u)) (.d (.str v)) K := by
  intro Y Z s a b bb ra rb
  cases ra using VR.cD with | d ra => cases rb using VR.cD with | d rb => cases ra using Rd.cS; cases rb using Rd.cS; exact PyProof.Rows.add_str (fun t' tk => po_keep bb ⟨_, _, rfl⟩ rfl (.d (.str _ _)) k) (Nat.le_trans h (by decide))
theorem add_ll {K : V → Sg → Prop} {xs ys : List PyData} (h : xs.length + ys.length ≤ 100000) (k : K (.d (.list (xs ++ ys))) σ) : W2 G A σ (VR G) (binaryOp .Add) (.d (.list xs)) (.d (.list ys)) K := by
  intro Y Z s a b bb ra rb
  obtain ⟨l1, vs, n1, rfl, h1, h2⟩ := ra.list
  obtain ⟨l2, us, n2, rfl, g1, g2⟩ := rb.list
  have e1 := rd_length h2
  have e2 := rd_length g2
  refine P.add_list (bb.sub _ _ h1) (bb.sub _ _ g1) ?_ (Nat.le_trans (by simp; omega) (show (100000 : Nat) ≤ sizeLine by decide))
  refine po_new (tk := s.toks) bb (le_push _ _) (fun Z' le fz => ?_) k
  exact .d (.list (vs := vs ++ us) (n := 0) (fz _ _ ((Heap.get?_push_size _ rfl).trans (by simp)) (Nat.le_refl _)) (rdall_app (h2.le le) (g2.le le)))
def repD : Nat → List PyData → List PyData
  | 0, _ => []
  | n + 1, xs => xs ++ repD n xs
theorem mul_l2 {K : V → Sg → Prop} {u : PyData} (k : K (.d (.list [u, u])) σ) : W2 G A σ (VR G) (binaryOp .Mult) (.d (.list [u])) (.d (.int 2)) K := by
  intro Y Z s a b bb ra rb
  obtain ⟨l1, vs, n1, rfl, h1, h2⟩ := ra.list
  cases rb using VR.cD with | d rb =>
    cases rb using Rd.cI with | int t =>
      cases h2 using RdAll.cC with | @cons v vs hv h2 =>
        cases h2 using RdAll.cN
        have hl := bb.sub _ _ h1
        refine wpAny_binaryOp_repeat_ref (T := "list") (U := "int") (by decide) ⟨_, hl, rfl⟩ (fun s' => typeIs_int s' 2 t) noFill_list_mul F.fills_int_mul F.slot_int_rmul repeat_list F.slot_int_index.lookup
          (call_meets F.slot_int_rmul (typeIs_int s 2 t) F.entry_int_rmul (F.args_int_rmul_2 _ _) (int___rmul___int_list 2 t l1 [v].toArray n1)
            ⟨hl, rfl, ⟨_, hl, rfl⟩, call_meets F.slot_list_mul ⟨_, hl, rfl⟩ F.entry_list_mul (F.args_list_mul_2 _ _)
              (AutoListH.list___mul___list_int_3 l1 [v].toArray n1 2 t (by decide) (by simp) (by simp [Builtin.List.listTooLong, sizeLine])) ⟨hl, ?_⟩⟩)
        refine po_new (tk := s.toks) bb (le_push _ _) (fun Z' le fz => ?_) k
        exact .d (.list (vs := [v, v]) (n := 0) (fz _ _ ((Heap.get?_push_size _ rfl).trans (by simp)) (Nat.le_refl _)) (.cons (hv.le le) (.cons (hv.le le) .nil)))
theorem str_i {K : V → Sg → Prop} {i : Int} (h : i.natAbs.log2 < 1920) (k : K (.d (.str (toString i))) σ) : Wn G A σ (VR G) (cl (.type "str")) [.d (.int i)] K := by
  intro Y Z s vs b r
  cases r using VRs.cC with | cons r r' => cases r' using VRs.cN; cases r using VR.cD with | d r => cases r using Rd.cI; exact P.str_of_int h (po_keep b ⟨_, _, rfl⟩ rfl (.d (.str _ _)) k)
theorem list_d {K : V → Sg → Prop} {xs : List PyData} (h : xs.length ≤ 100000) (k : ∀ a, K (.r a) ((a, .l xs) :: σ)) : Wn G A σ (VR G) (cl (.type "list")) [.d (.list xs)] K := by
  intro Y Z s vs b r
  cases r using VRs.cC with | cons r r' =>
    cases r' using VRs.cN
    obtain ⟨l1, vs, n1, rfl, h1, h2⟩ := r.list
    have e1 := rd_length h2
    refine call_list_seq l1 (T := "list") (items := vs.toArray) (n := n1) (.inl rfl) (b.sub _ _ h1) rfl rfl (fun h' c' hk e => ?_) (Nat.le_trans (by simp; omega) (show (100000 : Nat) ≤ sizeLine by decide))
    exact ⟨Z, _, _, fun _ _ e => e, b.add hk (Nat.le_refl _) (.l e h2), ⟨_, _, rfl⟩, .r _, k _⟩
theorem tuple_l {K : V → Sg → Prop} {l : Addr} {xs : List PyData} (hm : (l, MO.l xs) ∈ σ) (h : xs.length ≤ 100000) (k : K (.d (.tuple xs)) σ) : Wn G A σ (VR G) (cl (.type "tuple")) [.r l] K := by
  intro Y Z s vs b r
  cases r using VRs.cC with | cons r r' =>
    cases r' using VRs.cN; cases r using VR.cR
    obtain ⟨vs, n1, h1, h2⟩ := (b.objs _ hm).1.lst
    have e1 := rd_length h2
    refine call_tuple_list (isL h1) (fun h' hk => ?_) (Nat.le_trans (by simp; omega) (show (100000 : Nat) ≤ sizeLine by decide))
    refine Po.back (Z1 := Z) (s1 := { s with heap := h' }) (fun _ _ e => e) ⟨_, _, rfl⟩ (po_new (s := { s with heap := h' }) (tk := s.toks) (b.grow hk) (le_push _ _) (fun Z' le fz => ?_) k)
    exact .d (.tuple (vs := vs) (n := 0) (fz _ _ (Heap.get?_push_size _ rfl) (Nat.le_refl _)) (h2.le le))
/-! kinds -/
def isTupD : PyData → Bool
  | .tuple _ => true
  | _ => false
def isStrD : PyData → Bool
  | .str _ => true
  | _ => false
theorem isi_tup {K : V → Sg → Prop} {u : PyData} (k : K (.d (.bool (isTupD u))) σ) : Wn G A σ (VR G) (cl (.builtin "isinstance")) [.d u, .raw (.type "tuple")] K := by
  intro Y Z s vs b r
  cases r using VRs.cC with | cons r r' => cases r' using VRs.cC with | cons r' r'' => cases r'' using VRs.cN; cases r' using VR.cRaw; cases r using VR.cD with | d r =>
    cases r with
    | none => exact call_isinstance (isinstance_false_none (by decide) F.isi_meta_tuple F.sub_NoneType_tuple) (po_keep b ⟨_, _, rfl⟩ rfl (.d (.bool _)) k)
    | bool x => exact call_isinstance (isinstance_false_bool (by decide) F.isi_meta_tuple F.sub_bool_tuple) (po_keep b ⟨_, _, rfl⟩ rfl (.d (.bool _)) k)
    | int x t => exact call_isinstance (isinstance_false_int (by decide) F.isi_meta_tuple F.sub_int_tuple) (po_keep b ⟨_, _, rfl⟩ rfl (.d (.bool _)) k)
    | str x t => exact call_isinstance (isinstance_false_str (by decide) F.isi_meta_tuple F.sub_str_tuple) (po_keep b ⟨_, _, rfl⟩ rfl (.d (.bool _)) k)
    | list h1 h2 => exact call_isinstance (isinstance_false_list (by decide) F.isi_meta_tuple F.sub_list_tuple) ⟨⟨_, b.sub _ _ h1, rfl⟩, po_keep b ⟨_, _, rfl⟩ rfl (.d (.bool _)) k⟩
    | tuple h1 h2 => exact call_isinstance (isinstance_true (Tx := "tuple") F.isi_meta_tuple F.sub_tuple_tuple) ⟨⟨_, b.sub _ _ h1, rfl⟩, po_keep b (.refl s) rfl (.d (.bool _)) k⟩
theorem isi_str {K : V → Sg → Prop} {u : PyData} (k : K (.d (.bool (isStrD u))) σ) : Wn G A σ (VR G) (cl (.builtin "isinstance")) [.d u, .raw (.type "str")] K := by
  intro Y Z s vs b r
  cases r using VRs.cC with | cons r r' => cases r' using VRs.cC with | cons r' r'' => cases r'' using VRs.cN; cases r' using VR.cRaw; cases r using VR.cD with | d r =>
    cases r with
    | none => exact call_isinstance (isinstance_false_none (by decide) F.isi_meta_str F.sub_NoneType_str) (po_keep b ⟨_, _, rfl⟩ rfl (.d (.bool _)) k)
    | bool x => exact call_isinstance (isinstance_false_bool (by decide) F.isi_meta_str F.sub_bool_str) (po_keep b ⟨_, _, rfl⟩ rfl (.d (.bool _)) k)
    | int x t => exact call_isinstance (isinstance_false_int (by decide) F.isi_meta_str F.sub_int_str) (po_keep b ⟨_, _, rfl⟩ rfl (.d (.bool _)) k)
    | str x t => exact call_isinstance (isinstance_true (Tx := "str") F.isi_meta_str F.sub_str_str) ⟨typeIs_str .., po_keep b (.refl s) rfl (.d (.bool _)) k⟩
    | list h1 h2 => exact call_isinstance (isinstance_false_list (by decide) F.isi_meta_str F.sub_list_str) ⟨⟨_, b.sub _ _ h1, rfl⟩, po_keep b ⟨_, _, rfl⟩ rfl (.d (.bool _)) k⟩
    | tuple h1 h2 => exact call_isinstance (isinstance_false_tuple (by decide) F.isi_meta_str F.sub_tuple_str) ⟨⟨_, b.sub _ _ h1, rfl⟩, po_keep b ⟨_, _, rfl⟩ rfl (.d (.bool _)) k⟩
/-! one of numbers -/
theorem notin_l {K : V → Sg → Prop} {l : Addr} {xs : List PyData} {u : PyData} (rm : Room n A) (hm : (l, MO.l xs) ∈ σ) (hxs : PyData.canLayAll0 xs = true) (hd : u.canLay0 = true) (h2 : u.depth ≤ 100) (k : K (.d (.bool (!xs.any fun y => PyData.eqv y u))) σ) : W2 G A σ (VR G) (compareOp .NotIn) (.d u) (.r l) K := by
  intro Y Z s a b bb ra rb
  cases ra using VR.cD with | d ra =>
  cases rb using VR.cR
  obtain ⟨vs, n1, h1, g2⟩ := (bb.objs _ hm).1.lst
  obtain ⟨as, g2⟩ := g2.reads
  obtain ⟨bs, ra⟩ := ra.reads
  refine SeqAt.notIn_list_reads (as := l :: as) (.list h1 rfl rfl (ReadsAll.keeps bb.sub g2)) (Reads.keeps bb.sub ra) hxs hd ?_ (po_keep bb (.refl s) rfl (.d (.bool _)) k)
  have := rm.u; have := Nat.min_le_right (PyData.depthAll xs) u.depth; rw [cLine_eq]; omega

/-! slices: x[:k] -/
theorem rdall_take {Z : Heap} {vs : List Value} {xs : List PyData} (r : RdAll Z vs xs) : ∀ k, RdAll Z (vs.take k) (xs.take k) :=
  RdAll.ind (P := fun vs xs => ∀ k, RdAll Z (vs.take k) (xs.take k)) (fun k => by rw [List.take_nil, List.take_nil]; exact .nil) (fun a r ih k => match k with | 0 => .nil | k + 1 => .cons a (ih k)) r
theorem WE_take {K : V → Sg → Prop} {o u : Expr} {q : Pos} (h : WE G A env σ o fun v σ1 => ∃ xs : List PyData, (v = .d (.list xs) ∨ v = .vl (xs.map .d)) ∧ xs.length ≤ 100000 ∧ WE G A env σ1 u fun v' σ2 => ∃ k : Int, v' = .d (.int k) ∧ 0 ≤ k ∧ K (.d (.list (xs.take k.toNat))) σ2)
    (hs : ∀ l sl, subscripted (.Slice none (some u) none q) false (.ref l) (.ref sl) = operate [.ref sl, .ref l] (getItem (.ref l) (.ref sl)) := by intros; with_unfolding_all rfl)
    (ht : ∀ l r, letTemporaryGo o (.ref l) r = pure () := by intro _ _; with_unfolding_all rfl) : WE G A env σ (.Subscript o (.Slice none (some u) none q) p) K := by
  intro Y Z s b
  refine Subscript_ (h.bind b fun Z1 v σ1 a s1 le1 b1 sm1 r1 k1 => ?_)
  obtain ⟨xs, hv, hl, k1⟩ := k1
  obtain ⟨l, vs, rfl, hL, hR⟩ : ∃ l vs, a = .ref l ∧ Z1.IsList l vs.toArray ∧ RdAll Z1 vs xs := by
    rcases hv with rfl | rfl
    · obtain ⟨l, vs, n, e, h1, h2⟩ := r1.list; exact ⟨l, vs, e, isL h1, h2⟩
    · cases r1 using VR.cVl with | vl h1 h2 => exact ⟨_, _, rfl, h1, vrs_dats h2⟩
  refine wpAny_Slice (evalPart_none_step (evalPart_some_step (Wt.bind k1 b1 fun Z2 v' σ2 a2 s2 le2 b2 sm2 r2 k2 => evalPart_none_step ?_)))
  obtain ⟨k, rfl, h0, k2⟩ := k2
  cases r2 using VR.cD with | d r2 => cases r2 using Rd.cI with | int t =>
    have le12 : Le Z1 s2.heap := fun c o e => b2.sub c o (le2 c o e)
    have e1 := rd_length hR
    refine slice_listK (isList_le le12 hL) .none (.int k t) ?_ (hs _ _) (ht _) (Nat.le_trans (by simp; omega) (show (100000 : Nat) ≤ sizeLine by decide))
    refine Po.back (fun c o e => le2 c o (le1 c o e)) (sm1.trans sm2) (Po.back (Z1 := Z2) (s1 := { s2 with heap := s2.heap.push _ }) (fun _ _ e => e) ⟨_, _, rfl⟩ (po_new (s := { s2 with heap := s2.heap.push _ }) (tk := s2.toks) (b2.grow (le_push _ _)) (le_push _ _) (fun Z' le fz => ?_) k2))
    have e2 : slicePick vs.toArray none (some k) none = (vs.take k.toNat).toArray := by
      have := slicePick_upto' vs.toArray k.toNat
      rw [Int.toNat_of_nonneg h0] at this
      rw [this]; try simp
    refine .d (.list (vs := vs.take k.toNat) (n := 0) (fz _ _ ?_ (by rw [Heap.size_push]; exact Nat.le_refl _)) (rdall_take ((hR.le le2).le le) _))
    rw [← e2]
    have := Heap.get?_push_size (s2.heap.push { cls := .type "slice", data := .fields #[Value.none, .int k t, .none] }) (o := { cls := .type "list", data := .seq (slicePick vs.toArray none (some k) none) }) rfl
    rw [Heap.size_push] at this
    exact this
end
end
-- M14
section
section
variable {prog : Program} {w : World} {A : Around} {E : Value → Shared → Prop} {s : Shared}
theorem adjust_upto (b n : Nat) (hb : b ≤ n) : Builtin.Slice.sliceAdjust none (some (b : Int)) 1 (n : Int) = (0, (b : Int)) := by
  unfold Builtin.Slice.sliceAdjust
  have h1 : ¬ ((1 : Int) < 0) := by omega
  have h2 : ¬ ((b : Int) < 0) := by omega
  simp only [h1, h2, if_false]
  congr 1
  omega
theorem places_upto (b : Nat) : Builtin.Slice.slicePlaces 0 (b : Int) 1 = b := by
  unfold Builtin.Slice.slicePlaces
  have h1 : (1 : Int) > 0 := by omega
  simp only [h1, if_true, Int.ediv_one]
  split <;> omega
theorem sliceApplied_upto {sl : Addr} {b n : Nat} {u : Tok} {Q : Int × Int × Nat → Shared → Prop} (hs : s.heap.IsSliceOf sl .none (.int b u) .none) (hb : b ≤ n) (h : Q (0, 1, b) s) :
    wpAny (model prog w) A (Builtin.Slice.sliceApplied (.ref sl) (pure (n : Int))) Q E s := by
  obtain ⟨os, hos, hcs, hds⟩ := id hs
  unfold Builtin.Slice.sliceApplied Builtin.Slice.sliceFields
  refine wpAny_bind (wpAny_bind (wpAny_field hos hds (x := .none) rfl (wpAny_bind (wpAny_field hos hds (x := .int b u) rfl (wpAny_bind (wpAny_field hos hds (x := .none) rfl (wpAny_pure ?_)))))))
  refine wpAny_bind (slicePart_none ?_)
  show wpAny _ _ (if ((1 : Int) == 0) = true then _ else _) _ _ s
  rw [if_neg (by decide)]
  refine wpAny_bind (slicePart_none (wpAny_bind (slicePart_int (wpAny_bind (wpAny_pure ?_)))))
  show wpAny _ _ (match Builtin.Slice.sliceAdjust none (some (b : Int)) 1 (n : Int) with | (lo, hi) => pure (lo, (1 : Int), Builtin.Slice.slicePlaces lo hi 1)) _ _ s
  rw [adjust_upto b n hb]
  show wpAny _ _ (pure ((0 : Int), (1 : Int), Builtin.Slice.slicePlaces (0 : Int) (b : Int) 1)) _ _ s
  rw [places_upto b]
  exact wpAny_pure h
theorem pick_upto (xs : Array Value) (b : Nat) (hb : b ≤ xs.size) : ((List.range b).filterMap fun (k : Nat) => xs[((0 : Int) + (k : Int) * 1).toNat]?).toArray = (xs.toList.take b).toArray := by
  have e : (fun (k : Nat) => xs[((0 : Int) + (k : Int) * 1).toNat]?) = fun k => xs[k]? := by
    funext k
    have : ((0 : Int) + (k : Int) * 1).toNat = k := by omega
    rw [this]
  rw [e]
  have := pick_run xs 0 b
  simp only [Nat.zero_add, List.drop_zero] at this
  have e2 : List.map (fun x => x) (List.range b) = List.range b := by simp
  rw [e2] at this
  rw [this]
/-- a tuple's first items: the tuple itself when it is all of it -/
theorem getItem_tuple_upto {t sl : Addr} {items : Array Value} {b : Nat} {u : Tok} {Q : Value → Shared → Prop} (ht : IsTup s.heap t items) (hs : s.heap.IsSliceOf sl .none (.int b u) .none) (hb : b ≤ items.size)
    (h1 : b = items.size → Q (.ref t) s) (h : Q (.ref s.heap.objs.size) { s with heap := s.heap.push { cls := .type "tuple", data := .seq (items.toList.take b).toArray } })
    (hsz : items.size ≤ sizeLine := by size_fits) : wpAny (model prog w) A (getItem (.ref t) (.ref sl)) Q E s := by
  have hdrop : sizeOk (.seq (items.toList.take b).toArray) := by
    show (items.toList.take b).toArray.size ≤ sizeLine
    rw [List.size_toArray, List.length_take, Array.length_toList]
    omega
  obtain ⟨os, hos, hcs, hds⟩ := id hs
  have hTs : s.TypeIs (.ref sl) "slice" := ⟨os, hos, hcs⟩
  unfold getItem
  try with_reducible refine wpAny_holding ?_
  first | refine wpAny_bind (wpAny_pure ?_) | skip
  refine wpAny_bind (wpAny_sequenceKey ht.typeIs (by decide) ?_)
  refine wpAny_bind (wpAny_callSpecial?_slot (name := Str.ofString "__getitem__") ht.typeIs slot_tuple_getitem
    (wpAny_call_entry slot_tuple_getitem ht.typeIs entry_tuple_getitem ?_ (args_tuple_getitem _ _)))
  show wpAny _ _ (Builtin.Tuple.tupleItemsOf (.ref t) >>= _) _ _ s
  refine wpAny_bind (tupleItemsOf_ ht ?_)
  refine wpAny_bind (wpAny_typeOf hTs ?_)
  rw [if_pos (by decide)]
  refine wpAny_bind (sliceApplied_upto hs hb ?_)
  show wpAny _ _ (if ((0 : Int) == 0 && (1 : Int) == 1 && b == items.size) = true then _ else _) _ _ s
  by_cases hq : b = items.size
  · rw [if_pos (by simp [hq])]
    unfold Builtin.Tuple.tupleIsExact
    refine wpAny_bind (wpAny_bind (wpAny_typeOf ht.typeIs (wpAny_pure ?_)))
    rw [if_pos (by decide)]
    refine wpAny_bind (wpAny_rule ?_)
    exact wpAny_pure ⟨_, rfl, wpAny_pure (h1 hq)⟩
  · rw [if_neg (by simp [hq]), pick_upto items b hb]
    first
      | exact wpAny_bind (m := Builtin.Tuple.tupleExact _) (wpAny_newObj_type (wpAny_pure ⟨_, rfl, wpAny_pure h⟩) hdrop)
      | exact wpAny_bind (m := Builtin.Tuple.tupleExact _) (wpAny_newObj_type (wpAny_bind (wpAny_pure (wpAny_pure ⟨_, rfl, wpAny_pure h⟩))) hdrop)
      | exact wpAny_bind (wpAny_bind (m := Builtin.Tuple.tupleExact _) (wpAny_newObj_type (wpAny_pure (wpAny_pure ⟨_, rfl, wpAny_pure h⟩)) hdrop))
      | exact wpAny_bind (wpAny_bind (m := Builtin.Tuple.tupleExact _) (wpAny_newObj_type (wpAny_pure ⟨_, rfl, wpAny_pure h⟩) hdrop))
end
section
variable {α β γ δ : Type} {G : Cx} {A A' : Around} {env : Env} {Y : List (Addr × Obj)} {Z : Heap} {s : Shared} {σ σ' : Sg} {x : Str} {p pos : Pos} {n : Nat}
/-! x[-1] -/
theorem WE_neg {K : V → Sg → Prop} {e : Expr} (h : WE G A env σ e fun v σ1 => ∃ i : Int, v = .d (.int i) ∧ K (.d (.int (-i))) σ1) : WE G A env σ (.UnaryOp .USub e p) K := by
  intro Y Z s b
  refine wpAny_UnaryOp (h.bind b fun Z1 v σ1 a s1 le1 b1 sm1 r1 k1 => ?_)
  obtain ⟨i, rfl, k1⟩ := k1
  cases r1 using VR.cD with | d r1 => cases r1 using Rd.cI; exact PyProof.Rows.neg_int ⟨Z1, _, σ1, le1, b1, sm1.trans ⟨_, _, rfl⟩, .d (.int _ _), k1⟩
theorem sub_last {K : V → Sg → Prop} {o sl : Expr} {l : Addr} {xs : List PyData} {u : PyData} (hm : (l, MO.l (xs ++ [u])) ∈ σ) (hlen : xs.length < 2 ^ 60) (q : K (.d u) σ)
    (hs : ∀ a t, subscripted sl false (.ref a) (.int (-1) t) = operate [.ref a, .int (-1) t] (getItem (.ref a) (.int (-1) t)) := by intros; with_unfolding_all rfl)
    (hg : ∀ l r, letTemporaryGo o (.ref l) r = pure () := by intro _ _; with_unfolding_all rfl) : W2 G A σ (VR G) (subscriptTail o sl) (.r l) (.d (.int (-1))) K := by
  intro Y Z s a b bb ra rb
  cases ra using VR.cR; cases rb using VR.cD with | d rb =>
    cases rb using Rd.cI
    obtain ⟨vs, n, h1, h2⟩ := (bb.objs _ hm).1.lst
    have e1 := rd_length h2
    obtain ⟨v, hv, hr⟩ := reads_get h2 (k := xs.length) (x := u) (by simp)
    have hL := isL h1
    have e1 : vs.length = xs.length + 1 := by simpa using e1
    refine subscriptTail_ops hL.typeIs list_getitem_lookup (wpAny_getItem_list_neg hL (by decide) (by simp [e1]; omega) (by decide) (x := v) ?_ (po_keep bb (.refl s) rfl (.d hr) q)) (hs _ _) (hg _)
    simp only [List.size_toArray, e1]
    have e3 : ((-1 : Int) + ((xs.length + 1 : Nat) : Int)).toNat = xs.length := by omega
    rw [e3]; simpa using hv
end
end
-- M15
section
section
variable {prog : Program} {w : World} {K : Type} [DecidableEq K] {knd : PySem.KeyKind prog w K}
variable {A : Around} {E : Value → Shared → Prop} {s : Shared}
theorem stored_new {kvs : List (K × Value)} {k : K} {v : Value} (h : valueAt kvs k = none) : stored kvs k v = kvs ++ [(k, v)] ∧ k ∉ kvs.map (·.1) := by
  have h' : kvs.find? (fun kv => decide (kv.1 = k)) = none := by
    unfold valueAt at h; simpa using h
  have hn : k ∉ kvs.map (·.1) := fun hm => by
    obtain ⟨kv, h1, h2⟩ := List.mem_map.mp hm
    have := List.find?_eq_none.mp h' kv h1
    simp [h2] at this
  refine ⟨?_, hn⟩
  unfold stored
  rw [if_neg]
  intro ha
  obtain ⟨kv, h1, h2⟩ := List.any_eq_true.mp ha
  exact hn (List.mem_map.mpr ⟨kv, h1, of_decide_eq_true h2⟩)
theorem dictSetDefault_pairs {d : Addr} {kvs : List (K × Value)} {k : K} {key dflt : Value} {Q : Value → Shared → Prop} (hkey : knd.is k key = true) (hm : s.heap.DictOf knd d kvs)
    (hthere : ∀ v, valueAt kvs k = some v → Q v { s with toks := s.toks + 1 })
    (hnew : valueAt kvs k = none → ∀ h', h'.DictOf knd d (kvs ++ [(k, dflt)]) → Heap.SameBut d s.heap h' → Q dflt { s with heap := h', toks := s.toks + 1 })
    (hsz : kvs.length ≤ sizeLine) : wpAny (model prog w) A (dictSetDefault d key dflt) Q E s := by
  have hmap := hm.mapOf
  obtain ⟨o, es, ep, ho, hc, hd, hk, hp, hn⟩ := hm
  have hf := hmap
  obtain ⟨o', es', ep', ho', hc', hd', hk', hf⟩ := hf
  rw [ho] at ho'; cases ho'
  rw [hd] at hd'; cases hd'
  have hes : es.size ≤ sizeLine := by have e1 := hp.length; have e2 : es.toList.length = es.size := by simp
                                      omega
  unfold dictSetDefault
  try with_reducible refine wpAny_holding ?_
  refine wpAny_bind (knd.pyHash hkey ?_)
  refine wpAny_bind (wpAny_dictFind_of (s := { s with toks := s.toks + 1 }) hkey ho hd hk ?_)
  cases hi : es.findIdx? fun e => knd.is k e.key with
  | some i =>
    have hfk : valueAt kvs k = (es[i]?).map (·.val) := by rw [← hf k, findBy_of_findIdx?, hi]
    refine wpAny_bind (wpAny_dictEntries (s := { s with toks := s.toks + 1 }) ho hd ?_)
    cases he : es[i]? with
    | none =>
      exfalso
      have := Array.findIdx?_eq_some_iff_findIdx_eq.mp hi
      have hlt : i < es.size := this.1
      rw [Array.getElem?_eq_getElem hlt] at he
      exact nomatch he
    | some e =>
      rw [he] at hfk
      exact wpAny_bind (wpAny_rule (wpAny_pure (hthere e.val hfk)))
  | none =>
    have hfk : valueAt kvs k = none := by rw [← hf k, findBy_of_findIdx?, hi]
    have hnk := (stored_new (v := dflt) hfk).2
    refine wpAny_bind (wpAny_rule (wpAny_bind (wpAny_updateDictKeys (hz := hes) (s := { s with toks := s.toks + 1 }) ho hd (wpAny_pure (hnew hfk _ ⟨_, _, ep + 1, Heap.get?_update_self _ ho (Obj.isFreed_of_dict (Obj.data_mapDictKeys hd _)),
      hc.mapDictKeys _, Obj.data_mapDictKeys hd _, hk.push hkey _, ?_, ?_⟩ (Heap.SameBut.update ..))))))
    · have := hp.append hkey (knd.hash k) dflt
      obtain ⟨l⟩ := es
      simpa using this
    · rw [List.map_append, List.nodup_append]
      refine ⟨hn, by simp, ?_⟩
      intro a ha b hb
      simp only [List.map_cons, List.map_nil, List.mem_singleton] at hb
      subst hb
      exact fun e => hnk (e ▸ ha)
theorem nodupN : ∀ (n : Nat) {l : List Int}, l.Nodup → (∀ k ∈ l, 0 ≤ k ∧ k < n) → l.length ≤ n
  | 0, l, _, hb => by
    cases l with
    | nil => simp
    | cons a r => have := hb a (.head _); omega
  | n + 1, l, hn, hb => by
    by_cases hm : (n : Int) ∈ l
    · have h1 := nodupN n (l := l.erase (n : Int)) (hn.erase _) fun k hk => by
        have := hn.mem_erase_iff.mp hk
        have h2 := hb k this.2
        have h3 := this.1
        omega
      rw [List.length_erase_of_mem hm] at h1
      omega
    · have h1 := nodupN n hn fun k hk => by
        have h2 := hb k hk
        have h3 : k ≠ n := fun e => hm (e ▸ hk)
        omega
      omega
theorem nodup3 {l : List Int} (h : l.Nodup) (hb : ∀ k ∈ l, 0 ≤ k ∧ k < 3) : l.length ≤ 3 := nodupN 3 h hb
end
section
variable {α β γ δ : Type} {G : Cx} {A A' : Around} {env : Env} {Y : List (Addr × Obj)} {Z : Heap} {s : Shared} {σ σ' : Sg} {x : Str} {p pos : Pos} {n : Nat}
/-! setdefault on a table of numbers -/
def setD (f : Int → Option Int) (k i : Int) : Int → Option Int := fun x => if x = k then some ((f k).getD i) else f x
theorem valueAt_app {K : Type} [DecidableEq K] {kvs : List (K × Value)} {k : K} {v : Value} (h : valueAt kvs k = none) (x : K) : valueAt (kvs ++ [(k, v)]) x = if x = k then some v else valueAt kvs x := by
  unfold valueAt at h ⊢
  rw [List.find?_append]
  by_cases hx : x = k
  · subst hx
    rw [if_pos rfl]
    have h' : kvs.find? (fun kv => decide (kv.1 = x)) = none := by simpa using h
    rw [h']; simp
  · rw [if_neg hx]
    cases q : kvs.find? (fun kv => decide (kv.1 = x)) with
    | some y => simp
    | none => simp [Ne.symm hx]
theorem setd_im {K : V → Sg → Prop} {d : Addr} {f : Int → Option Int} {k i : Int} (up : Up d (.im f) (.im (setD f k i)) σ σ') (hk0 : 0 ≤ k) (hk1 : k < 3) (q : K (.d (.int ((f k).getD i))) σ') :
    Wn G A σ (VR G) (cl (.builtin "dict.setdefault")) [.r d, .d (.int k), .d (.int i)] K := by
  intro Y Z s vs b r
  cases r using VRs.cC with | cons r r' => cases r' using VRs.cC with | cons r' r'' => cases r'' using VRs.cC with | cons r'' r3 =>
    cases r3 using VRs.cN; cases r using VR.cR; cases r' using VR.cD with | d r' => cases r'' using VR.cD with | d r'' =>
      cases r' using Rd.cI with | int tk => cases r'' using Rd.cI with | int ti =>
        have o := (b.objs _ up.mem).1
        cases o with
        | @im _ ks hsys hd h1 h2 h3 =>
          have hlen : ks.length ≤ 3 := by
            obtain ⟨_, _, _, _, _, _, _, _, hn⟩ := hd
            have := nodup3 hn (fun k hk => by obtain ⟨p, hp, rfl⟩ := List.mem_map.mp hk; exact h3 p hp)
            simpa using this
          have hT : s.TypeIs (.ref d) "dict" := by
            obtain ⟨o, _, _, ho, hc, _⟩ := hd
            exact ⟨o, ho, hc.1⟩
          refine wpAny_call_entry F.slot_dict_setdefault hT F.entry_dict_setdefault ?_ (F.args_dict_setdefault_3 _ _ _)
          unfold Builtin.«dict.setdefault»
          refine wpAny_bind ?_
          unfold Builtin.Dict.keyAndDefault
          refine wpAny_bind (wpAny_notOrdered_dict hT ?_)
          show wpAny _ _ (pure (d, _, some _)) _ _ s
          refine wpAny_pure ?_
          show wpAny _ _ (if (d == sysModules) = true then _ else (dictSetDefault d _ _ >>= _)) _ _ s
          rw [if_neg (by rw [hsys]; exact Bool.false_ne_true)]
          refine wpAny_bind (dictSetDefault_pairs (knd := PySem.intKind G.prog G.w) (k := k) (by simp [PySem.intKind, Value.isInt]) hd (fun v hv => ?_) (fun hv h' hd' hs => ?_) (Nat.le_trans hlen (by decide)))
          · obtain ⟨j, t, rfl, hf⟩ := h1 k v hv
            refine wpAny_pure ⟨_, rfl, Z, _, σ', fun _ _ e => e, b.upd up (fun _ _ _ e => e) ?_, ⟨_, _, rfl⟩, .d (.int _ _), by rw [hf] at q; exact q⟩
            have e : setD f k i = f := by funext y; unfold setD; split <;> simp_all
            rw [e]
            exact .im hsys hd h1 h2 h3
          · have hf := h2 k hv
            refine wpAny_pure ⟨_, rfl, Z, _, σ', fun _ _ e => e, b.upd up hs.extBut ?_, ⟨_, _, rfl⟩, .d (.int _ _), by rw [hf] at q; exact q⟩
            refine .im hsys hd' (fun y v hy => ?_) (fun y hy => ?_) fun p hp => ?_
            · rw [valueAt_app hv] at hy
              unfold setD
              split at hy
              · next e => cases hy; rw [if_pos e, hf]; exact ⟨_, _, rfl, rfl⟩
              · next e => rw [if_neg e]; exact h1 y v hy
            · rw [valueAt_app hv] at hy
              unfold setD
              split at hy
              · cases hy
              · next e => rw [if_neg e]; exact h2 y hy
            · rcases List.mem_append.mp hp with hp | hp
              · exact h3 p hp
              · rw [List.mem_singleton.mp hp]; exact ⟨hk0, hk1⟩
end
end
-- M16
section
section
variable {α β γ δ : Type} {G : Cx} {A A' : Around} {env : Env} {Y : List (Addr × Obj)} {Z : Heap} {s : Shared} {σ σ' : Sg} {x : Str} {p pos : Pos} {n : Nat}
theorem rd_unmap {Z : Heap} {ks : List (Str × Value)} {kvs : List (Str × PyData)} (h1 : ks.map (·.1) = kvs.map (·.1)) (h2 : RdAll Z (ks.map (·.2)) (kvs.map (·.2))) (k : Str) : (valueAt ks k = none ∧ kvs.lookup k = none) ∨ ∃ v u, valueAt ks k = some v ∧ kvs.lookup k = some u ∧ Rd Z v u := by
  induction ks generalizing kvs with
  | nil => cases kvs with | nil => exact .inl ⟨rfl, rfl⟩ | cons _ _ => cases h1
  | cons q ks ih =>
    cases kvs with
    | nil => cases h1
    | cons q' kvs =>
      obtain ⟨a, v⟩ := q
      obtain ⟨b, u⟩ := q'
      simp only [List.map_cons, List.cons.injEq] at h1
      obtain ⟨rfl, h1⟩ := h1
      cases h2 using RdAll.cC with
      | cons hv h2 =>
        by_cases h : a = k
        · subst h
          exact .inr ⟨v, u, by simp [valueAt], by simp [List.lookup], hv⟩
        · have e1 : valueAt ((a, v) :: ks) k = valueAt ks k := by simp [valueAt, h]
          have e2 : ((a, u) :: kvs).lookup k = kvs.lookup k := by
            rw [List.lookup_cons]
            have : (k == a) = false := by simpa using fun q => h q.symm
            rw [this]
          rw [e1, e2]; exact ih h1 h2
theorem lookup_none_of {kvs : List (Str × PyData)} {k : Str} (h : k ∉ kvs.map (·.1)) : kvs.lookup k = none := by
  induction kvs with
  | nil => rfl
  | cons q r ih =>
    rw [List.map_cons, List.mem_cons] at h
    rw [List.lookup_cons]
    have : (k == q.1) = false := by simpa using fun e => h (.inl e)
    rw [this]; exact ih fun hm => h (.inr hm)
theorem set_sd {K : Sg → Prop} {d : Addr} {kvs : List (Str × PyData)} {k : Str} {u : PyData} (up : Up d (.sd kvs) (.sd (kvs ++ [(k, u)])) σ σ') (hk : k ∉ kvs.map (·.1)) (hlen : kvs.length ≤ 1000) (q : K σ') :
    W3 G A σ UR (fun a b c => setItem a b c) (.r d) (.d (.str k)) (.d u) (fun _ σ3 => K σ3) := by
  intro Y Z s a b c bb ra rb rc
  cases ra using VR.cR; cases rb using VR.cD with | d rb => cases rc using VR.cD with | d rc =>
    cases rb using Rd.cS with | str t =>
      have o := (bb.objs _ up.mem).1
      cases o using OR.cSd with
      | sd hsys hs =>
        obtain ⟨ks, h1, h2, h3⟩ := hs
        have hl : ks.length = kvs.length := by simpa using congrArg List.length h2
        refine wpAny_setItem_pairs (knd := PySem.strKind G.prog G.w) (k := k) (by simp [PySem.strKind, Value.isStrOf]) h1 (fun h' hd' hs' => ?_) (by rw [hl]; exact Nat.le_trans hlen (by decide))
        have hn : valueAt ks k = none := by
          rcases rd_unmap h2 h3 k with h | ⟨v, w, h, h', _⟩
          · exact h.1
          · rw [lookup_none_of hk] at h'; cases h'
        rw [(stored_new hn).1] at hd'
        exact ⟨Z, (), σ', fun _ _ e => e, bb.upd up hs'.extBut (.sd hsys ⟨_, hd', by simp [h2], by simpa using rdall_app h3 (.cons rc .nil)⟩), ⟨_, _, rfl⟩, trivial, q⟩
theorem notin_sd {K : V → Sg → Prop} {kvs : List (Str × PyData)} {k : Str} (q : K (.d (.bool (!(kvs.lookup k).isSome))) σ) : W2 G A σ (VR G) (compareOp .NotIn) (.d (.str k)) (.sd kvs) K := by
  intro Y Z s a b bb ra rb
  cases ra using VR.cD with | d ra =>
  cases ra using Rd.cS with | str t =>
  cases rb using VR.cSd with | sd hsys rb =>
    obtain ⟨ks, h1, h2, h3⟩ := rb
    have h1 := h1.at fun o e => bb.sub _ _ e
    refine wpAny_notIn_of (knd := PySem.strKind G.prog G.w) (k := k) (by simp [PySem.strKind, Value.isStrOf]) hsys h1.mapOf ?_
    have e : (valueAt ks k).isSome = (kvs.lookup k).isSome := by
      rcases rd_unmap h2 h3 k with ⟨e1, e2⟩ | ⟨v, w, e1, e2, _⟩ <;> rw [e1, e2] <;> rfl
    rw [e]
    exact po_keep bb ⟨_, _, rfl⟩ rfl (.d (.bool _)) q
theorem strs_of {ks : List (Str × Value)} {vs : List Value} (hl : vs.length = ks.length) (h : ∀ (j : Nat) v, vs[j]? = some v → ∃ k x, ks[j]? = some (k, x) ∧ (PySem.strKind G.prog G.w).is k v = true) : StrsAre vs (ks.map (·.1)) := by
  induction vs generalizing ks with
  | nil => cases ks with | nil => exact .nil | cons _ _ => simp at hl
  | cons v vs ih =>
    cases ks with
    | nil => simp at hl
    | cons q ks =>
      obtain ⟨k, x, e, hk⟩ := h 0 v rfl
      simp at e; subst e
      obtain ⟨t, rfl⟩ := Value.isStrOf_shape hk
      exact .cons _ t (ih (by simpa using hl) fun j u hj => by simpa using h (j + 1) u (by simpa using hj))
theorem rd_strs {Z : Heap} {vs : List Value} {ss : List Str} (h : StrsAre vs ss) : RdAll Z vs (ss.map .str) := by
  induction h with
  | nil => exact .nil
  | cons y t _ ih => exact .cons (.str y t) ih
theorem sorted_sd {K : V → Sg → Prop} {kvs : List (Str × PyData)} (rm : Room n A) (hlen : kvs.length < 64) (q : ∀ ss : List Str, ss.Perm (kvs.map (·.1)) → sortedS ss = true → K (.d (.list (ss.map .str))) σ) :
    Wn G A σ (VR G) (cl (.builtin "sorted")) [.sd kvs] K := by
  intro Y Z s vs b r
  cases r using VRs.cC with | cons r r' => cases r' using VRs.cN; cases r using VR.cSd with | sd hsys rs =>
    obtain ⟨ks, h1, h2, h3⟩ := rs
    have hl : ks.length = kvs.length := by simpa using congrArg List.length h2
    have h1 := h1.at fun o e => b.sub _ _ e
    obtain ⟨ep, hat⟩ := h1.dictAt
    refine call_function_entry kind_sorted plain_sorted entry_sorted (args_sorted1 _) ?_
    unfold Builtin.«sorted»
    refine wpAny_bind (m := checkCount "sorted" 1 1 _) (wpAny_pure ?_)
    refine wpAny_bind (kdu_collect (A := A.in1) (kdl_dict (knd := PySem.strKind G.prog G.w) (kvs := ks) (ep := ep) hsys) rm.h hat (Nat.le_trans (by omega) (show (64 : Nat) ≤ sizeLine by decide)) fun h' tk acc hk hacc => ?_)
    have hla : acc.toList.length = ks.length := by rw [Array.length_toList]; exact hacc.1
    refine wpAny_bind (wpAny_newList ?_ (by rw [hla]; exact Nat.le_trans (by omega) (show (64 : Nat) ≤ sizeLine by decide)))
    have hS : StrsAre acc.toList (ks.map (·.1)) := strs_of hla fun j v e => hacc.2 j v (by rw [← Array.getElem?_toList]; exact e)
    generalize acc.toList = vs at hla hS ⊢
    have hoL : (h'.push (seqObj "list" vs.toArray 0)).get? h'.objs.size = some (seqObj "list" vs.toArray 0) := Heap.get?_push_size _ rfl
    refine wpAny_bind (wpAny_holding (wpAny_call_entry F.slot_list_sort ⟨_, hoL, rfl⟩ F.entry_list_sort (list_sort_treeK strKind_oneLt hoL hS.keysOf (fun v₁ v₂ rest e => keyKind_strs (by rw [← e]; exact hS)) (by omega) fun st' hp hs => ⟨_, rfl, ?_⟩) (F.args_list_sort_1 _)))
    obtain ⟨ss', e1, e2, e3⟩ := sorted_out_str hS hp hs
    refine wpAny_pure ⟨_, rfl, ?_⟩
    obtain ⟨e, he⟩ := sortedHeap_at (out := (arrOf st').map (·.2)) hoL
    have b1 := b.grow hk
    have hkeep : ∀ c o, h'.get? c = some o → (sortedHeap (h'.push (seqObj "list" vs.toArray 0)) h'.objs.size vs ((arrOf st').map (·.2))).get? c = some o := fun c o q => by
      have hlt := Heap.lt_size q
      rw [sortedHeap_old (Nat.ne_of_lt hlt) (by rw [size_push']; exact Nat.lt_succ_of_lt hlt)]
      exact Heap.get?_push_of_some _ q
    refine Po.back (Z1 := Z) (s1 := { s with heap := h', toks := tk }) (fun _ _ e => e) ⟨_, _, rfl⟩ (po_new (s := { s with heap := h', toks := tk }) (tk := tk) b1 hkeep (fun Z' le fz => ?_) (q ss' (by rw [← h2]; exact e2) e3))
    exact .d (.list (vs := ((arrOf st').map (·.2)).toList) (n := e) (fz _ _ (by rw [Array.toArray_toList]; exact he) (Nat.le_refl _)) (rd_strs e1))

/-! stores into names, the last first -/
abbrev WB (G : Cx) (A : Around) (env : Env) (σ : Sg) (x : Str) (v : V) (K : Sg → Prop) : Prop := W1 G A σ UR (fun a => bindName env x a) v (fun _ σ' => K σ')
theorem WB_local {K : Sg → Prop} {loc : List (Str × V)} {v : V} {L : Addr} (u : Up L (.ns loc) (.ns (st x v loc)) σ σ') (k : K σ') (hL : env.locals = L := by with_unfolding_all rfl)
    (hx : env.kindOf x = some .local := by with_unfolding_all rfl) (hp : (env.scope.kind == .class || (env.scope.kind == .module && env.locals != env.globals)) = false := by with_unfolding_all rfl) : WB G A env σ x v K := by
  intro Y Z s a b r
  subst hL
  exact wpAny_bindName (wpStore b r u hx hp fun s' b' sm => ⟨Z, (), σ', fun _ _ e => e, b', sm, trivial, k⟩)
def WBs (G : Cx) (A : Around) (env : Env) (σ : Sg) (xs : List Str) (vs : List V) (K : Sg → Prop) : Prop :=
  Wn G A σ UR (fun as => assignInOrder (xs.map fun n => bindName env n) as) vs fun _ σ' => K σ'
theorem WBs_nil {K : Sg → Prop} (k : K σ) : WBs G A env σ [] [] K := by
  intro Y Z s as b r
  cases r using VRs.cN
  exact wpAny_assignInOrder_none ⟨Z, (), σ, fun _ _ e => e, b, .refl s, trivial, k⟩
theorem WBs_cons {K : Sg → Prop} {x : Str} {xs : List Str} {v : V} {vs : List V} (h : WB G A env σ x v fun σ1 => WBs G A env σ1 xs vs K) : WBs G A env σ (x :: xs) (v :: vs) K := by
  intro Y Z s as b r
  cases r using VRs.cC with | cons r r' =>
    refine wpAny_assignInOrder_more (wpAny_mono (h Y Z s _ b r) (fun _ s1 ⟨Z1, _, σ1, le1, b1, sm1, _, k1⟩ => ?_) fun _ _ e => e)
    exact wpBack le1 sm1 (k1 Y Z1 s1 _ b1 (r'.le le1))
theorem vrs_rev {xs : List V} {vs : List Value} (r : VRs G Z xs vs) : VRs G Z xs.reverse vs.reverse := by
  have app : ∀ {xs ys : List V} {vs us : List Value}, VRs G Z xs vs → VRs G Z ys us → VRs G Z (xs ++ ys) (vs ++ us) := fun h k => VRs.ind (P := fun xs vs => VRs G Z (xs ++ _) (vs ++ _)) k (fun h _ ih => .cons h ih) h
  refine VRs.ind (P := fun xs vs => VRs G Z xs.reverse vs.reverse) .nil (fun h _ ih => ?_) r
  rw [List.reverse_cons, List.reverse_cons]; exact app ih (.cons h .nil)
theorem WS_Swap {K : Fl → Sg → Prop} {elts es : List Expr} {k c : Nat} {tpos q : Pos} {names : List Str} (rm : Room n A) (h : WEs G A env q σ es fun vs σ1 => vs.length ≤ 1000 ∧ vs.length = names.length ∧ WBs G A env σ1 names.reverse vs.reverse fun σ2 => K .next σ2)
    (hw : swappedStores [.Tuple elts k tpos] (.Tuple es c q) env = pure (some names) := by with_unfolding_all rfl)
    (hs : swapsWithSole [.Tuple elts k tpos] (.Tuple es c q) p.line env = pure false := by with_unfolding_all rfl) : WS G A env σ (.Assign [.Tuple elts k tpos] (.Tuple es c q) p) K := by
  intro Y Z s b
  refine Assign_Tuple_swapped (wpAny_Tuple (h.bind b fun Z1 vs σ1 as s1 le1 b1 sm1 r1 ⟨k1, k2, k3⟩ => ⟨Nat.le_trans (r1.length ▸ k1) (by decide), ?_⟩)) hs hw
  have e : as.toArray.size = names.length := by simp [r1.length, k2]
  have hT : Heap.IsTuple (Shared.heap { s1 with heap := s1.heap.push { cls := .type "tuple", data := .seq as.toArray } }) s1.heap.objs.size as.toArray := ⟨_, Heap.get?_push_size _ rfl, rfl, _, rfl⟩
  rw [← e]
  refine wpAny_unpackItems_tuple rm.h hT fun h' hx => ?_
  have b2 : B G Y Z1 σ1 h' := (b1.grow (le_push _ _)).grow (le_of_extBut hx)
  refine wpAny_mono (k3 Y Z1 { s1 with heap := h' } _ b2 (by simpa using vrs_rev r1)) (fun _ s2 ⟨Z2, _, σ2, le2, b3, sm2, _, k4⟩ => ?_) fun _ _ e => e
  exact ⟨Z2, .next, σ2, fun c o e => le2 c o (le1 c o e), b3, sm1.trans (Sm.trans ⟨_, _, rfl⟩ sm2), .next, k4⟩
end
end
-- D1
section
/-! the runs of the law, in plain Lean -/
inductive Lf where
  | poi | int (n : Fin 4) | nul | glo (f : Fin 2) | al (o : Fin 3) (f : Fin 2)
  deriving DecidableEq
inductive Ty where
  | i2 | ptr | v2
  deriving DecidableEq
def Lf.py : Lf → PyData
  | .poi => .none
  | .int n => .int (n.val : Int)
  | .nul => .tuple [.str "null", .int 0, .int 1]
  | .glo f => .tuple [.str "global", .str "a", .int (f.val : Int)]
  | .al o f => .tuple [.str "alloca", .int (o.val : Int), .int (f.val : Int)]
def Ty.py : Ty → PyData
  | .i2 => .str "i2"
  | .ptr => .str "ptr"
  | .v2 => .str "v2"
abbrev Sig := Str × List Ty
def sigPy (c : Sig) : PyData := .tuple [.str c.1, .list (c.2.map Ty.py)]
structure Fm where
  res : Ty
  calls : List Sig
  cells : List Sig
def Fm.py (f : Fm) : PyData := .tuple [f.res.py, .list (f.calls.map sigPy), .list (f.cells.map sigPy)]
structure Rn where
  word : Str
  form : Fm
  gr : List Lf
def Rn.py (r : Rn) : PyData := .tuple [.str r.word, r.form.py, .list (r.gr.map Lf.py)]
def Ty.flat : Ty → List Ty
  | .v2 => [.i2, .i2]
  | k => [k]
def Fm.told (f : Fm) : List Ty := f.res :: (f.calls ++ f.cells).flatMap (·.2)
def Fm.types (f : Fm) : List Ty := f.told.flatMap Ty.flat

/-- may stand in an equation -/
def Ok (d : PyData) : Prop := d.canLay0 = true ∧ d.depth ≤ 50
def OkN (n : Nat) (d : PyData) : Prop := d.canLay0 = true ∧ d.depth ≤ n
theorem OkN.ok {n : Nat} {d : PyData} (h : OkN n d) (hn : n ≤ 50 := by decide) : Ok d := ⟨h.1, Nat.le_trans h.2 hn⟩
def OkA (n : Nat) (ds : List PyData) : Prop := PyData.canLayAll0 ds = true ∧ PyData.depthAll ds ≤ n
theorem OkA.nil (n : Nat) : OkA n [] := ⟨rfl, Nat.zero_le _⟩
theorem OkA.cons {n : Nat} {d : PyData} {ds : List PyData} (h : OkN n d) (k : OkA n ds) : OkA n (d :: ds) := ⟨by simp [PyData.canLayAll0, h.1, k.1], by simp [PyData.depthAll]; exact Nat.max_le.mpr ⟨h.2, k.2⟩⟩
theorem OkA.of {n : Nat} : ∀ {ds : List PyData}, (∀ d ∈ ds, OkN n d) → OkA n ds
  | [], _ => .nil n
  | d :: ds, h => .cons (h d (.head _)) (OkA.of fun x hx => h x (.tail _ hx))
theorem OkN.list {n : Nat} {ds : List PyData} (h : OkA n ds) : OkN (n + 1) (.list ds) := ⟨by simp [PyData.canLay0, h.1], by simp [PyData.depth, h.2]⟩
theorem OkN.tuple {n : Nat} {ds : List PyData} (h : OkA n ds) : OkN (n + 1) (.tuple ds) := ⟨by simp [PyData.canLay0, h.1], by simp [PyData.depth, h.2]⟩
theorem OkN.le {n m : Nat} {d : PyData} (h : OkN n d) (hn : n ≤ m) : OkN m d := ⟨h.1, Nat.le_trans h.2 hn⟩
theorem OkN.str {n : Nat} {x : Str} (h : PyData.strOk x = true) : OkN n (.str x) := ⟨by simp [PyData.canLay0, h], by simp [PyData.depth]⟩
theorem OkN.int {n : Nat} (i : Int) : OkN n (.int i) := ⟨by simp [PyData.canLay0], by simp [PyData.depth]⟩
theorem OkN.bool {n : Nat} (i : Bool) : OkN n (.bool i) := ⟨by simp [PyData.canLay0], by simp [PyData.depth]⟩
theorem OkN.none {n : Nat} : OkN n .none := ⟨by simp [PyData.canLay0], by simp [PyData.depth]⟩
theorem Lf.ok (x : Lf) : OkN 1 x.py := by
  cases x with
  | poi => exact .none
  | int n => exact .int _
  | nul => exact .tuple (.cons (.str (by decide +kernel)) (.cons (.int _) (.cons (.int _) (.nil _))))
  | glo f => exact .tuple (.cons (.str (by decide +kernel)) (.cons (.str (by decide +kernel)) (.cons (.int _) (.nil _))))
  | al o f => exact .tuple (.cons (.str (by decide +kernel)) (.cons (.int _) (.cons (.int _) (.nil _))))
theorem Ty.ok (x : Ty) : OkN 0 x.py := by cases x <;> exact .str (by decide +kernel)
theorem sig_ok {c : Sig} (h : PyData.strOk c.1 = true) : OkN 2 (sigPy c) :=
  .tuple (.cons (.str h) (.cons (.list (.of fun d hd => by obtain ⟨t, _, rfl⟩ := List.mem_map.mp hd; exact t.ok)) (.nil _)))
theorem sigs_ok {l : List Sig} (h : ∀ c ∈ l, PyData.strOk c.1 = true) : OkN 3 (.list (l.map sigPy)) :=
  .list (.of fun d hd => by obtain ⟨t, ht, rfl⟩ := List.mem_map.mp hd; exact sig_ok (h t ht))
theorem lfs_ok (l : List Lf) : OkN 2 (.list (l.map Lf.py)) := .list (.of fun d hd => by obtain ⟨t, ht, rfl⟩ := List.mem_map.mp hd; exact t.ok)

/-! what == tells -/
theorem Ty.eqv (a b : Ty) : PyData.eqv a.py b.py = decide (a = b) := by cases a <;> cases b <;> rfl
theorem Lf.eqv (a b : Lf) : PyData.eqv a.py b.py = decide (a = b) := by
  cases a <;> cases b <;> decide +kernel +revert
theorem eqvAll_map {α : Type} [DecidableEq α] {e : α → PyData} (h : ∀ a b, PyData.eqv (e a) (e b) = decide (a = b)) : ∀ as bs : List α, PyData.eqvAll (as.map e) (bs.map e) = decide (as = bs)
  | [], [] => by simp [PyData.eqvAll]
  | [], _ :: _ => by simp [PyData.eqvAll]
  | _ :: _, [] => by simp [PyData.eqvAll]
  | a :: as, b :: bs => by simp [PyData.eqvAll, h, eqvAll_map h as bs, Bool.decide_and]
theorem sig_eqv (a b : Sig) : PyData.eqv (sigPy a) (sigPy b) = decide (a = b) := by
  obtain ⟨x, ks⟩ := a
  obtain ⟨y, ls⟩ := b
  simp only [sigPy, PyData.eqv, PyData.eqvAll, eqvAll_map Ty.eqv, Bool.and_true, Prod.mk.injEq, Bool.decide_and]
  rfl
end
-- D2
section
section
variable {α β γ δ : Type} {G : Cx} {A A' : Around} {env : Env} {Y : List (Addr × Obj)} {Z : Heap} {s : Shared} {σ σ' : Sg} {x : Str} {p pos : Pos} {n : Nat}
/-! further forms for the walk -/
theorem WE_bltN (P : Pg G) {K : V → Sg → Prop} {v : Value} (k : K (.raw v) σ) (hi : bl.lookup x = some v := by with_unfolding_all rfl)
    (hg : env.globals = mainGlobals := by with_unfolding_all rfl) (hb : env.builtins = builtinsNs := by with_unfolding_all rfl) (hk : env.scope.kind = .function := by with_unfolding_all rfl) (hx : env.kindOf x = some .globalImplicit := by with_unfolding_all rfl) (hd : (x == ("__debug__" : Str)) = false := by decide) : WE G A env σ (.Name x p) K :=
  WE_blt P.T (P.hb x v hi).1 (P.hb x v hi).2 k hg hb hk hx hd
theorem if_bt {p q : Prop} {c : Bool} (h : p) (hc : c = true) : if c = true then p else q := by rw [if_pos hc]; exact h
theorem if_bf {p q : Prop} {c : Bool} (h : q) (hc : c = false) : if c = true then p else q := by rw [if_neg (by rw [hc]; decide)]; exact h
theorem eq_ok {K : V → Sg → Prop} {u v : PyData} {n : Nat} (r : Room n A) (hu : Ok u) (hv : Ok v) (k : K (.d (.bool (PyData.eqv u v))) σ) : W2 G A σ (VR G) (compareOp .Eq) (.d u) (.d v) K := eq_dd r hu.1 hv.1 (Nat.le_trans hu.2 (by decide)) k
theorem ne_ok {K : V → Sg → Prop} {u v : PyData} {n : Nat} (r : Room n A) (hu : Ok u) (hv : Ok v) (k : K (.d (.bool (!PyData.eqv u v))) σ) : W2 G A σ (VR G) (compareOp .NotEq) (.d u) (.d v) K := ne_dd r hu.1 hv.1 (Nat.le_trans hu.2 (by decide)) k
/-- for, with what it may return told apart -/
def FoR (G : Cx) (Rt : V → Prop) (I : Sg → Prop) : Fl → Sg → Prop
  | .ret v, _ => Rt v
  | .brk, _ => False
  | _, σ => ∃ σ', I σ' ∧ Sees G σ σ'
theorem FoR_next {Rt : V → Prop} {I : Sg → Prop} {σ'' : Sg} (h : I σ'') (k : Sees G σ σ'') : FoR G Rt I .next σ := ⟨_, h, k⟩
theorem FoR_ret {Rt : V → Prop} {I : Sg → Prop} {v : V} (h : Rt v) : FoR G Rt I (.ret v) σ := h
theorem WS_ForR {K : Fl → Sg → Prop} {target iter : Expr} {body : List Stmt} (Rt : V → Prop) (I : List V → Nat → Sg → Prop)
    (h : WI G A env σ target iter fun xs σ1 => (∃ σ0, I xs 0 σ0 ∧ Sees G σ1 σ0) ∧ (∀ i x σ2, xs[i]? = some x → I xs i σ2 → WG G A env σ2 target x fun σ3 => WSs G A env σ3 body (FoR G Rt (I xs (i + 1)))) ∧ (∀ v σ2, Rt v → K (.ret v) σ2) ∧ (∀ σ2, I xs xs.length σ2 → K .next σ2))
    (hs : ∀ x, foldedSetIterable iter env x = pure x := by intro _; rfl) : WS G A env σ (.For target iter body [] p) K := by
  refine WS_For I (h.mono fun xs σ1 ⟨h0, h1, h2, h3⟩ => ⟨h0, fun i x σ2 hx hI => ?_, h3⟩) hs
  refine (h1 i x σ2 hx hI).mono fun _ σ3 k3 => k3.mono fun fl σ4 k4 => ?_
  cases fl with
  | next => exact k4
  | cont => exact k4
  | brk => exact k4.elim
  | ret v => exact h2 v σ4 k4
end
end
local macro_rules | `(tactic| walk_at "mem") => `(tactic| first | exact List.mem_cons_self | (refine List.mem_cons_of_mem _ ?_; walk_at "mem"))
local macro_rules | `(tactic| walk_at "up") => `(tactic| first | exact Up.head _ | (apply Up.tail; walk_at "up"))
local macro_rules | `(tactic| walk_at "del") => `(tactic| first | exact Del.head _ | (apply Del.tail; walk_at "del"))
local macro_rules | `(tactic| walk_at "sz") => `(tactic| first | decide | (simp only [List.length_cons, List.length_nil, List.length_map, List.length_append, List.length_set]; omega) | omega)
local macro_rules | `(tactic| walk_at "nz") => `(tactic| first | decide | omega)
local macro_rules | `(tactic| walk_at "lk") => `(tactic| with_unfolding_all rfl)
local macro_rules | `(tactic| walk_at "ok") => `(tactic| first | exact OkN.none.ok | exact (OkN.int (n := 0) _).ok | exact (OkN.bool (n := 0) _).ok | exact (Ty.ok _).ok | exact (Lf.ok _).ok | exact (OkN.str (n := 0) (by decide +kernel)).ok | assumption | exact (lfs_ok _).ok | exact OkN.ok (n := 1) (.list (.nil 0)))
-- one step of an expression
local macro_rules | `(tactic| walk_at "oneE") => `(tactic| with_reducible first
  | (show WE _ _ _ _ (Expr.Name _ _) _; first
      | refine WE_local (by walk_at "mem") (by walk_at "lk") ?_
      | refine WE_cell rfl (by walk_at "mem") ?_
      | refine WE_bltN (by assumption) ?_)
  | refine WE_int ?_
  | refine WE_str ?_
  | refine WE_Sub ?_
  | (show WE _ _ _ _ (Expr.Call (Expr.Name _ _) _ _ _) _; first
      | refine WE_CallB (by assumption) ?_
      | refine WE_CallF (by assumption) ?_)
  | refine WE_BinOp ?_
  | refine WE_TupD ?_
  | refine WE_none ?_
  | refine WE_bool ?_
  | refine WE_If ?_
  | refine WE_Cmp ?_)
local macro_rules | `(tactic| walk_at "one2") => `(tactic| with_reducible first
  | (show W2 _ _ _ _ (subscriptTail _ _) (V.r _) _ _; refine sub_l (by walk_at "mem") (by decide) (by with_unfolding_all rfl) (by walk_at "sz") ?_)
  | (show W2 _ _ _ _ (subscriptTail _ _) (V.d (PyData.tuple _)) _ _; refine sub_dt (by decide) (by with_unfolding_all rfl) (by walk_at "sz") ?_)
  | (show W2 _ _ _ _ (subscriptTail _ _) (V.vt _) _ _; refine sub_vt (by decide) (by with_unfolding_all rfl) (by walk_at "sz") ?_)
  | (show W2 _ _ _ _ (subscriptTail _ _) (V.d (PyData.list _)) _ _; refine sub_dl (by decide) (by with_unfolding_all rfl) (by walk_at "sz") ?_)
  | refine add_ii ?_
  | (show W2 _ _ _ _ (binaryOp Operator.Mod) _ _ _; refine mod_ii (by walk_at "nz") ?_)
  | (show W2 _ _ _ _ (binaryOp Operator.FloorDiv) _ _ _; refine div_ii (by walk_at "nz") (by decide) ?_)
  | refine lt_ii ?_
  | refine gt_ii ?_
  | refine sub_ii ?_
  | (show W2 _ _ _ _ (binaryOp Operator.Mult) (V.d (PyData.int _)) _ _; refine mul_ii (by decide) (by decide) ?_)
  | refine is_dn ?_
  | refine isnot_dn ?_
  | (show W2 _ _ _ _ (compareOp CmpOp.Eq) _ _ _; refine eq_ok (by assumption) (by walk_at "ok") (by walk_at "ok") ?_)
  | (show W2 _ _ _ _ (compareOp CmpOp.NotEq) _ _ _; refine ne_ok (by assumption) (by walk_at "ok") (by walk_at "ok") ?_))
local macro_rules | `(tactic| walk_at "oneN") => `(tactic| with_reducible first
  | (show Wn _ _ _ _ (cl (Value.builtin "len")) _ _; first
      | refine len_dl (by walk_at "sz") ?_
      | refine len_dt (by walk_at "sz") ?_)
  | refine isi_tup ?_
  | refine isi_str ?_
  | (show Wn _ _ _ _ (cl (Value.builtin "list.append")) [V.r _, V.d _] _; refine app_l (by walk_at "up") (by walk_at "sz") ?_)
  | (show Wn _ _ _ _ (cl (Value.builtin "list.extend")) _ _; refine ext_l (by walk_at "up") (by walk_at "sz") (by walk_at "sz") ?_)
  | (show Wn _ _ _ _ (cl (Value.builtin "list.pop")) _ _; refine pop_l (by walk_at "up") (by walk_at "sz") ?_)
  | (show Wn _ _ _ _ (cl (Value.type "list")) [V.d _] _; refine list_d (by walk_at "sz") (fun _ => ?_))
  | (show Wn _ _ _ _ (cl (Value.type "tuple")) [V.r _] _; refine tuple_l (by walk_at "mem") (by walk_at "sz") ?_))
local macro_rules | `(tactic| walk_at "oneG") => `(tactic| with_reducible first
  | (show WG _ _ _ _ (Expr.Name _ _) _ _; first
      | refine WG_local (by walk_at "up") ?_
      | refine WG_cell rfl (by walk_at "up") ?_)
  | refine WG_Sub ?_
  | (show WG _ _ _ _ _ (V.d _) _; refine WG_TupD (by assumption) ?_))
local macro_rules | `(tactic| walk_at "oneB") => `(tactic| with_reducible first
  | refine WB_local (by walk_at "up") ?_)
local macro_rules | `(tactic| walk_at "oneS") => `(tactic| with_reducible first
  | refine WS_Assign ?_
  | refine WS_Return ?_
  | refine WS_If ?_
  | refine WS_Expr ?_)
local macro_rules | `(tactic| walk_at "oneT") => `(tactic| with_reducible first
  | refine WT_Cmp ?_
  | refine WT_Not ?_
  | refine WT_Bool ?_
  | refine WT_val ?_)
local macro_rules | `(tactic| walk_at "meth") => `(tactic| with_reducible first
  | refine WE_Meth "list" "list.append" F.plainAttrs_list F.slot_list_append F.type_list_append ?_
  | refine WE_Meth "list" "list.extend" F.plainAttrs_list F.slot_list_extend F.type_list_extend ?_
  | refine WE_Meth "list" "list.pop" F.plainAttrs_list F.slot_list_pop F.type_list_pop ?_
  | refine WE_Meth "list" "list.index" F.plainAttrs_list F.slot_list_index F.type_list_index ?_)
local macro_rules | `(tactic| walk_at "one") => `(tactic| with_reducible first
  | (show WE _ _ _ _ (Expr.Call (Expr.Attribute _ _ _) _ _ _) _; walk_at "meth")
  | (show WE _ _ _ _ _ _; walk_at "oneE")
  | refine ⟨_, rfl, ?_⟩
  | (show W2 _ _ _ _ _ _ _ _; walk_at "one2")
  | refine WEs_cons ?_
  | refine WEs_nil ?_
  | refine WDs_cons ?_
  | refine WDs_nil ⟨by walk_at "sz", ?_⟩
  | (show WG _ _ _ _ _ _ _; walk_at "oneG")
  | refine Kx_next ?_
  | refine Kx_ret ?_
  | refine WSs_cons ?_
  | (show WS _ _ _ _ _ _; walk_at "oneS")
  | refine WGs_consD ?_
  | refine WGs_nilD ?_
  | refine WGs_cons ?_
  | refine WGs_nil ?_
  | refine if_t ?_
  | refine if_f ?_
  | (show WT _ _ _ _ _ _; walk_at "oneT")
  | refine WA_and ?_
  | refine WA_or ?_
  | refine WA_and_nil ?_
  | refine WA_or_nil ?_
  | (show Wn _ _ _ _ _ _ _; walk_at "oneN")
  | refine WBs_cons ?_
  | refine WBs_nil ?_
  | (show WB _ _ _ _ _ _ _; walk_at "oneB")
  | (show W3 _ _ _ _ _ (V.r _) (V.d (PyData.int _)) _ _; refine set_l (by walk_at "up") (by decide) (by walk_at "sz") (by walk_at "sz") ?_)
  | refine ⟨rcv_l (by walk_at "mem"), ?_⟩
  | refine WSs_nil ?_)
local macro_rules | `(tactic| walk_at "bind") => `(tactic| exact bd1 (fun _ _ _ _ _ _ _ _ _ _ _ _ _ => by with_unfolding_all rfl))
local macro_rules | `(tactic| walk_at "bind2") => `(tactic| exact bd2 (fun _ _ _ _ _ _ _ _ _ _ _ _ _ _ => by with_unfolding_all rfl))
local macro_rules | `(tactic| walk_at "bind3") => `(tactic| exact bd3 (fun _ _ _ _ _ _ _ _ _ _ _ _ _ _ _ => by with_unfolding_all rfl))
local macro_rules | `(tactic| walk_at "sees") => `(tactic| (refine Vw.sees ?_; repeat (first | exact Vw.nil | with_reducible exact Vw.refl _ | with_reducible refine Vw.same ?_ | (with_reducible refine Vw.ns (by repeat (first | exact NsSub.nil _ | refine NsSub.cons (by walk_at "lk") ?_)) ?_) | refine Vw.same ?_ | refine Vw.drop ?_)))
-- P1
section
theorem draw_ok {G : Cx} (P : Pg G) (wa : Addr) (many : Int) (hm : 0 < many) :
    Fn G 1 (P.a 7) [(wa, .w)] [.r wa, .d (.int many)] fun v os => ∃ r, v = .d (.int r) ∧ 0 ≤ r ∧ r < many ∧ os = [(wa, .w)] := by
  refine Fn.intro ["well", "many"] P.T (P.hf "_law_draw" 7 rfl).2 ?_ rfl ?_ ?_ ?_
  · walk_at "bind2"
  · decide
  · decide
  · intro A L rm
    refine open_w (a := wa) (.tail _ (.head _)) fun ns spot r hn h0 σ' u => ?_
    cases u with | tail u => cases u with 
      | tail u => cases u
      | head =>
    show WSs G A _ [(L, .ns [("well", .r wa), ("many", .d (.int many))]), (wa, _)] _ _
    refine WSs_cons ?_
    repeat walk_at "one"
    refine if_d (fun h => ?_) (fun h => ?_)
    · have hx : (List.map PyData.int ns)[spot.toNat]? = some (.int (ns[spot.toNat]'(by simp at h; omega))) := by
        rw [List.getElem?_map, List.getElem?_eq_getElem]; rfl
      repeat walk_at "one"
      refine sub_dl h0 hx (by walk_at "sz") ?_
      repeat walk_at "one"
      refine if_d (fun h => ?_) (fun h' => absurd h h')
      repeat walk_at "one"
      exact ⟨_, ⟨_, rfl, Int.fmod_nonneg_of_pos _ hm, Int.fmod_lt_of_pos _ hm, rfl⟩, fun Y Z h b => (b.drop (List.sublist_cons_self _ _)).shut (.head _) hn (by omega)⟩
    · repeat walk_at "one"
      refine if_d (fun h' => absurd h' h) (fun h => ?_)
      repeat walk_at "one"
      exact ⟨_, ⟨_, rfl, Int.fmod_nonneg_of_pos _ hm, Int.fmod_lt_of_pos _ hm, rfl⟩, fun Y Z h b => (b.drop (List.sublist_cons_self _ _)).shut (.head _) hn (by omega)⟩
end
-- P2
section
theorem one_ok {G : Cx} (P : Pg G) (wa : Addr) (menu : List PyData) (hm : menu ≠ []) (hl : menu.length ≤ 100) :
    Fn G 2 (P.a 8) [(wa, .w)] [.r wa, .d (.tuple menu)] fun v os => ∃ u ∈ menu, v = .d u ∧ os = [(wa, .w)] := by
  refine Fn.intro ["well", "menu"] P.T (P.hf "_law_one" 8 rfl).2 (by walk_at "bind2") rfl (by decide) (by decide) ?_
  intro A L rm
  show WSs G A _ [(L, .ns [("well", .r wa), ("menu", .d (.tuple menu))]), (wa, .w)] _ _
  refine WSs_cons ?_
  repeat walk_at "one"
  have hp : 0 < menu.length := List.length_pos_iff.mpr hm
  refine (draw_ok P wa menu.length (by omega)).use rm (rest := [(L, .ns [("well", .r wa), ("menu", .d (.tuple menu))])]) (.r (.l .nil)) fun v os => ?_
  rintro ⟨r, rfl, h0, h1, rfl⟩
  have hx : r.toNat < menu.length := by omega
  refine sub_dt h0 (List.getElem?_eq_getElem hx) (by omega) ?_
  repeat walk_at "one"
  exact ⟨_, ⟨_, List.getElem_mem hx, rfl, rfl⟩, (Vw.sees (.same (.drop .nil)))⟩
section
variable {α β γ δ : Type} {G : Cx} {A A' : Around} {env : Env} {Y : List (Addr × Obj)} {Z : Heap} {s : Shared} {σ σ' : Sg} {x : Str} {p pos : Pos} {n m : Nat}
theorem split_mem {q : Addr × MO} : ∀ {σ : Sg}, q ∈ σ → ∃ rest, Split [q] rest σ
  | _ :: r, .head _ => ⟨r, .l (by
      have : ∀ r : Sg, Split [] r r := fun r => by induction r with | nil => exact .nil | cons q r ih => exact .r ih
      exact this r)⟩
  | _ :: _, .tail _ h => let ⟨rest, k⟩ := split_mem h; ⟨_, .r k⟩
/-- a call that leaves the state as it was -/
theorem Fn.same1 {f : Addr} {q : Addr × MO} {args : List V} {K K' : V → Sg → Prop} (h : Fn G n f [q] args K) (r : Room m A) (hq : q ∈ σ) (k : ∀ v os', K v os' → os' = [q] ∧ K' v σ) (hm : n ≤ m) : Wn G A σ (VR G) (cl (.ref f)) args K' := by
  obtain ⟨rest, hs⟩ := split_mem hq
  refine Wn.post (K := fun v σ' => σ' = [q] ++ rest ∧ K' v σ) (h.use r hs (fun v os' kk => ?_) hm) fun v σ' ⟨e, kk⟩ => ⟨σ, kk, fun Y Z h b => b.perm (e ▸ hs.perm)⟩
  obtain ⟨e, kk⟩ := k v os' kk
  exact ⟨by rw [e], kk⟩
theorem draw_u (P : Pg G) {wa : Addr} {many : Int} {K : V → Sg → Prop} (rm : Room m A) (hm : 0 < many) (hq : (wa, MO.w) ∈ σ) (k : ∀ r : Int, 0 ≤ r → r < many → K (.d (.int r)) σ) (h1 : 1 ≤ m := by omega) : Wn G A σ (VR G) (cl (.ref (P.a 7))) [.r wa, .d (.int many)] K :=
  (draw_ok P wa many hm).same1 rm hq (fun v os' ⟨r, e, h0, h1, e'⟩ => ⟨e', e ▸ k r h0 h1⟩) h1
theorem one_u (P : Pg G) {wa : Addr} {menu : List PyData} {K : V → Sg → Prop} (rm : Room m A) (hq : (wa, MO.w) ∈ σ) (k : ∀ u ∈ menu, K (.d u) σ) (hm : menu ≠ [] := by decide) (hl : menu.length ≤ 100 := by decide) (h1 : 2 ≤ m := by omega) : Wn G A σ (VR G) (cl (.ref (P.a 8))) [.r wa, .d (.tuple menu)] K :=
  (one_ok P wa menu hm hl).same1 rm hq (fun v os' ⟨u, hu, e, e'⟩ => ⟨e', e ▸ k u hu⟩) h1
end
end
-- P3
section
/-- a leaf fits a kind -/
def Lf.fits : Ty → Lf → Bool
  | .i2, .poi => true
  | .i2, .int _ => true
  | .i2, _ => false
  | _, .int _ => false
  | _, _ => true
theorem leaf_ok {G : Cx} (P : Pg G) (wa : Addr) (t : Ty) :
    Fn G 2 (P.a 10) [(wa, .w)] [.r wa, .d t.py] fun v os => ∃ l : Lf, v = .d l.py ∧ os = [(wa, .w)] := by
  refine Fn.intro ["well", "kind"] P.T (P.hf "_law_leaf" 10 rfl).2 (by walk_at "bind2") rfl (by decide) (by decide) ?_
  intro A L rm
  show WSs G A _ [(L, .ns [("well", .r wa), ("kind", .d t.py)]), (wa, .w)] _ _
  refine WSs_cons ?_
  repeat walk_at "one"
  rw [show PyData.eqv t.py (.str "i2") = decide (t = .i2) from by cases t <;> decide +kernel]
  by_cases ht : t = .i2
  · subst ht
    refine if_bt ?_ (by decide)
    repeat walk_at "one"
    refine draw_u P rm (by decide) (by walk_at "mem") fun r h0 h1 => ?_
    repeat walk_at "one"
    refine if_bt ?_ (by decide +kernel)
    repeat walk_at "one"
    refine if_d (fun h => ?_) (fun h => ?_)
    · repeat walk_at "one"
      obtain ⟨k, rfl⟩ : ∃ k : Nat, r = k := ⟨r.toNat, by omega⟩
      exact ⟨_, ⟨.int ⟨k, by omega⟩, rfl, rfl⟩, Vw.sees (.drop (.same .nil))⟩
    · repeat walk_at "one"
      exact ⟨_, ⟨.poi, rfl, rfl⟩, Vw.sees (.drop (.same .nil))⟩
  · refine if_bf ?_ (by simpa using ht)
    repeat walk_at "one"
    refine draw_u P rm (by decide) (by walk_at "mem") fun r h0 h1 => ?_
    repeat walk_at "one"
    rw [show PyData.eqv t.py (.str "i2") = decide (t = .i2) from by cases t <;> decide +kernel]
    refine if_bf ?_ (by simpa using ht)
    repeat walk_at "one"
    refine if_d (fun h => ?_) (fun h => ?_)
    · repeat walk_at "one"
      have e1 : ∃ o : Fin 3, (r - 4).fdiv 2 = (o.val : Int) := by
        have := Int.fdiv_nonneg (a := r - 4) (b := 2) (by omega) (by decide)
        have h2 : (r - 4).fdiv 2 < 3 := by rw [Int.fdiv_eq_ediv_of_nonneg _ (by decide)]; omega
        exact ⟨⟨((r - 4).fdiv 2).toNat, by omega⟩, by simp; omega⟩
      have e2 : ∃ f : Fin 2, r.fmod 2 = (f.val : Int) := by
        have h1 := Int.fmod_nonneg_of_pos r (b := 2) (by decide)
        have h2 := Int.fmod_lt_of_pos r (b := 2) (by decide)
        exact ⟨⟨(r.fmod 2).toNat, by omega⟩, by simp; omega⟩
      obtain ⟨o, e1⟩ := e1
      obtain ⟨f, e2⟩ := e2
      exact ⟨_, ⟨.al o f, by rw [e1, e2]; rfl, rfl⟩, Vw.sees (.drop (.same .nil))⟩
    · repeat walk_at "one"
      have : r = 0 ∨ r = 1 ∨ r = 2 ∨ r = 3 := by omega
      rcases this with rfl | rfl | rfl | rfl
      · repeat walk_at "one"
        exact ⟨_, ⟨.poi, rfl, rfl⟩, Vw.sees (.drop (.same .nil))⟩
      · repeat walk_at "one"
        exact ⟨_, ⟨.nul, rfl, rfl⟩, Vw.sees (.drop (.same .nil))⟩
      · repeat walk_at "one"
        exact ⟨_, ⟨.glo 0, rfl, rfl⟩, Vw.sees (.drop (.same .nil))⟩
      · repeat walk_at "one"
        exact ⟨_, ⟨.glo 1, rfl, rfl⟩, Vw.sees (.drop (.same .nil))⟩
theorem leaf_u {G : Cx} {A : Around} {σ : Sg} {m : Nat} (P : Pg G) {wa : Addr} {t : Ty} {K : V → Sg → Prop} (rm : Room m A) (hq : (wa, MO.w) ∈ σ) (k : ∀ l : Lf, K (.d l.py) σ) (h1 : 2 ≤ m := by omega) : Wn G A σ (VR G) (cl (.ref (P.a 10))) [.r wa, .d t.py] K :=
  (leaf_ok P wa t).same1 rm hq (fun v os' ⟨u, e, e'⟩ => ⟨e', e ▸ k u⟩) h1
end
-- P4
section
theorem take_succ' {α : Type} {l : List α} {i : Nat} {x : α} (h : l[i]? = some x) : l.take (i + 1) = l.take i ++ [x] := by
  rw [List.take_add_one, h]; rfl
theorem map_get {α β : Type} {f : α → β} {l : List α} {i : Nat} {y : β} (h : (l.map f)[i]? = some y) : ∃ x, l[i]? = some x ∧ y = f x := by
  rw [List.getElem?_map] at h
  cases q : l[i]? with
  | none => rw [q] at h; cases h
  | some x => rw [q] at h; exact ⟨x, rfl, by simpa using h.symm⟩
theorem take_fm_le {α β : Type} (l : List α) (f : α → List β) (i : Nat) : ((l.take i).flatMap f).length ≤ (l.flatMap f).length := by
  have : l.flatMap f = (l.take i).flatMap f ++ (l.drop i).flatMap f := by rw [← List.flatMap_append, List.take_append_drop]
  rw [this]; simp
theorem fm_get_le {α β : Type} {l : List α} {f : α → List β} {i : Nat} {x : α} (h : l[i]? = some x) : (f x).length ≤ (l.flatMap f).length := by
  have := take_fm_le l f (i + 1)
  rw [take_succ' h, List.flatMap_append] at this
  simp at this ⊢
  omega
theorem types_ok {G : Cx} (P : Pg G) (f : Fm) (h1 : f.told.length ≤ 1000) (h2 : f.calls.length + f.cells.length ≤ 1000) :
    Fn G 1 (P.a 9) [] [.d f.py] fun v os => v = .d (.list (f.types.map Ty.py)) ∧ os = [] := by
  refine Fn.intro ["form"] P.T (P.hf "_law_types" 9 rfl).2 (by walk_at "bind") rfl (by decide) (by decide) ?_
  intro A L rm
  have hfl : f.told.length = ((f.calls ++ f.cells).flatMap (·.2)).length + 1 := by simp [Fm.told]
  show WSs G A _ [(L, .ns [("form", .d (.tuple [f.res.py, .list (f.calls.map sigPy), .list (f.cells.map sigPy)]))])] _ _
  refine WSs_cons ?_
  repeat walk_at "one"
  refine WE_LisM ?_
  repeat walk_at "one"
  intro a
  repeat walk_at "one"
  refine WS_For (fun xs i σ => σ = [(a, .l ((f.res :: ((f.calls ++ f.cells).take i).flatMap (·.2)).map Ty.py)), (L, .ns [("told_ones", .r a)])]) ?_
  refine WI_val rm ?_
  repeat walk_at "one"
  refine add_ll (by simp; omega) ?_
  refine ⟨_, Seqs.l _, ⟨_, rfl, by walk_at "sees"⟩, ?_, ?_⟩
  · rintro i x _ hx rfl
    rw [← List.map_append] at hx
    obtain ⟨u, hu, rfl⟩ := map_get hx
    obtain ⟨c, hc, rfl⟩ := map_get hu
    have l1 := take_fm_le (f.calls ++ f.cells) (·.2) i
    have l2 := fm_get_le (f := (·.2)) hc
    unfold sigPy
    repeat walk_at "one"
    first | refine ext_l (by walk_at "up") (by simp at l1 ⊢; omega) (by simp at l2 ⊢; omega) ?_ | skip
    refine FoI_next rfl ?_
    rw [take_succ' hc, List.flatMap_append]
    simp only [List.map_cons, List.cons_append, List.map_append, List.flatMap_cons, List.flatMap_nil, List.append_nil]
    walk_at "sees"
  · rintro _ rfl
    simp only [List.length_map, List.length_append]
    rw [List.take_of_length_le (by simp)]
    change Kx _ _ _ [(a, MO.l (f.told.map Ty.py)), _]
    repeat walk_at "one"
    refine WE_LisM ?_
    repeat walk_at "one"
    intro a2
    repeat walk_at "one"
    refine WS_For (fun xs i σ => σ = [(a2, .l (((f.told.take i).flatMap Ty.flat).map Ty.py)), (L, .ns [("found", .r a2)])]) ?_
    refine WI_val rm ?_
    refine WE_frz ?_
    repeat walk_at "one"
    refine ⟨_, _, _, _, rfl, .l _, by walk_at "del", _, Seqs.l _, ⟨_, rfl, by walk_at "sees"⟩, ?_, ?_⟩
    · rintro i x _ hx rfl
      obtain ⟨u, hu, rfl⟩ := map_get hx
      obtain ⟨t, ht, rfl⟩ := map_get hu
      repeat walk_at "one"
      rw [show PyData.eqv t.py (.str "v2") = decide (t = .v2) from by cases t <;> decide +kernel]
      have hi : i < f.told.length := (List.getElem?_eq_some_iff.mp ht).1
      have l1 : ((f.told.take i).flatMap Ty.flat).length ≤ 2000 := by
        have : ∀ l : List Ty, (l.flatMap Ty.flat).length ≤ 2 * l.length := fun l => by
          induction l with
          | nil => simp
          | cons k l ih => have : k.flat.length ≤ 2 := by cases k <;> decide
                           rw [List.flatMap_cons, List.length_append, List.length_cons]; omega
        have := this (f.told.take i)
        simp at this ⊢; omega
      refine if_d (fun hv => ?_) (fun hv => ?_)
      · subst hv
        refine WE_LisD ?_
        repeat walk_at "one"
        first | refine ext_l (by walk_at "up") (by simp at l1 ⊢; omega) (by decide) ?_ | skip
        refine FoI_next rfl ?_
        rw [take_succ' ht, List.flatMap_append]
        simp only [List.map_append, List.flatMap_cons, List.flatMap_nil, List.append_nil]
        walk_at "sees"
      · refine WE_LisD ?_
        repeat walk_at "one"
        first | refine ext_l (by walk_at "up") (by simp at l1 ⊢; omega) (by decide) ?_ | skip
        refine FoI_next rfl ?_
        rw [take_succ' ht, List.flatMap_append]
        have e : t.flat = [t] := by cases t <;> first | rfl | exact absurd rfl hv
        simp only [List.map_append, List.flatMap_cons, List.flatMap_nil, List.append_nil, e]
        walk_at "sees"
    · rintro _ rfl
      simp only [List.length_map]
      rw [List.take_length]
      refine Kx_next (WSs_cons (WS_Return (WE_frz ?_)))
      repeat walk_at "one"
      exact ⟨_, _, _, _, rfl, .l _, .head _, _, rfl, _, ⟨rfl, rfl⟩, Vw.sees (.drop .nil)⟩
end
-- P5
section
inductive Vl where
  | one (l : Lf)
  | two (x y : Lf)
  deriving DecidableEq
def Vl.py : Vl → PyData
  | .one l => l.py
  | .two x y => .tuple [x.py, y.py]
def take1 : Ty → List Lf → Vl × List Lf
  | .v2, x :: y :: r => (.two x y, r)
  | .v2, _ => (.one .poi, [])
  | .i2, x :: r => (.one x, r)
  | .ptr, x :: r => (.one x, r)
  | _, [] => (.one .poi, [])
def takeN : List Ty → List Lf → List Vl × List Lf
  | [], g => ([], g)
  | t :: ts, g => ((take1 t g).1 :: (takeN ts (take1 t g).2).1, (takeN ts (take1 t g).2).2)
def need (ts : List Ty) : Nat := (ts.flatMap Ty.flat).length
theorem need_cons (t : Ty) (ts : List Ty) : need (t :: ts) = t.flat.length + need ts := by simp only [need, List.flatMap_cons, List.length_append]
theorem need_app (a b : List Ty) : need (a ++ b) = need a + need b := by simp only [need, List.flatMap_append, List.length_append]
theorem take1_len {t : Ty} {g : List Lf} (h : t.flat.length ≤ g.length) : (take1 t g).2.length + t.flat.length = g.length := by
  cases t with
  | v2 => match g, h with
    | x :: y :: r, _ => simp [take1, Ty.flat]
    | [_], h => simp [Ty.flat] at h
    | [], h => simp [Ty.flat] at h
  | i2 => match g, h with
    | x :: r, _ => simp [take1, Ty.flat]
    | [], h => simp [Ty.flat] at h
  | ptr => match g, h with
    | x :: r, _ => simp [take1, Ty.flat]
    | [], h => simp [Ty.flat] at h
theorem takeN_len : ∀ {ts : List Ty} {g : List Lf}, need ts ≤ g.length → (takeN ts g).2.length + need ts = g.length
  | [], g, _ => by simp [takeN, need]
  | t :: ts, g, h => by
    rw [need_cons] at h ⊢
    have h1 := take1_len (t := t) (g := g) (by omega)
    have h2 := takeN_len (ts := ts) (g := (take1 t g).2) (by omega)
    simp only [takeN]; omega
theorem takeN_app : ∀ (a : List Ty) (b : List Ty) (g : List Lf), takeN (a ++ b) g = ((takeN a g).1 ++ (takeN b (takeN a g).2).1, (takeN b (takeN a g).2).2)
  | [], b, g => by simp [takeN]
  | t :: a, b, g => by simp [takeN, takeN_app a b]
theorem takeN_num : ∀ (ts : List Ty) (g : List Lf), (takeN ts g).1.length = ts.length
  | [], g => rfl
  | t :: ts, g => by simp [takeN, takeN_num ts]
theorem taken_ok {G : Cx} (P : Pg G) (al : Addr) (ks : List Ty) (gs : List Lf) (h1 : need ks ≤ gs.length) (h2 : gs.length ≤ 10000) (h3 : ks.length ≤ 1000) :
    Fn G 1 (P.a 13) [(al, .l (gs.map Lf.py))] [.d (.list (ks.map Ty.py)), .r al] fun v os => v = .d (.tuple ((takeN ks gs).1.map Vl.py)) ∧ os = [(al, .l ((takeN ks gs).2.map Lf.py))] := by
  refine Fn.intro ["kinds", "left"] P.T (P.hf "_law_taken" 13 rfl).2 (by walk_at "bind2") rfl (by decide) (by decide) ?_
  intro A L rm
  show WSs G A _ [(L, .ns [("kinds", .d (.list (ks.map Ty.py))), ("left", .r al)]), (al, .l (gs.map Lf.py))] _ _
  refine WSs_cons ?_
  repeat walk_at "one"
  refine WE_LisM ?_
  repeat walk_at "one"
  intro a
  repeat walk_at "one"
  refine WS_For (fun xs i σ => σ = [(a, .l ((takeN (ks.take i) gs).1.map Vl.py)), (L, .ns [("found", .r a), ("left", .r al)]), (al, .l ((takeN (ks.take i) gs).2.map Lf.py))]) ?_
  refine WI_val rm ?_
  repeat walk_at "one"
  refine ⟨_, Seqs.l _, ⟨_, rfl, by walk_at "sees"⟩, ?_, ?_⟩
  · rintro i x _ hx rfl
    obtain ⟨u, hu, rfl⟩ := map_get hx
    obtain ⟨t, ht, rfl⟩ := map_get hu
    have hi : i < ks.length := (List.getElem?_eq_some_iff.mp ht).1
    have hnd : need (ks.take i) + t.flat.length ≤ gs.length := by
      have e : ks = ks.take (i + 1) ++ ks.drop (i + 1) := (List.take_append_drop _ _).symm
      rw [take_succ' ht] at e
      rw [e, need_app, need_app, need_cons] at h1
      omega
    have hln := takeN_len (ts := ks.take i) (g := gs) (by omega)
    have hnm := takeN_num (ks.take i) gs
    rw [List.length_take] at hnm
    have happ := takeN_app (ks.take i) [t] gs
    rw [← take_succ' ht] at happ
    rw [happ]
    generalize takeN (ks.take i) gs = q at hln hnm ⊢
    obtain ⟨vs, g⟩ := q
    simp only at hln hnm ⊢
    repeat walk_at "one"
    rw [show PyData.eqv t.py (.str "v2") = decide (t = .v2) from by cases t <;> decide +kernel]
    refine if_d (fun hv => ?_) (fun hv => ?_)
    · subst hv
      obtain ⟨p1, p2, r, rfl⟩ : ∃ p1 p2 r, g = p1 :: p2 :: r := by
        match g, hln with
        | p1 :: p2 :: r, _ => exact ⟨p1, p2, r, rfl⟩
        | [_], hln => simp [Ty.flat] at hln hnd; omega
        | [], hln => simp [Ty.flat] at hln hnd; omega
      simp only [List.length_cons] at hln
      simp only [List.map_cons]
      repeat walk_at "one"
      first | refine app_l (by walk_at "up") (by simp; omega) ?_ | skip
      refine FoI_next rfl ?_
      simp only [takeN, take1, List.map_append, List.map_cons, List.map_nil, Vl.py]
      walk_at "sees"
    · obtain ⟨p1, r, rfl⟩ : ∃ p1 r, g = p1 :: r := by
        match g, hln with
        | p1 :: r, _ => exact ⟨p1, r, rfl⟩
        | [], hln => cases t <;> first | exact absurd rfl hv | (simp [Ty.flat] at hln hnd; omega)
      simp only [List.length_cons] at hln
      simp only [List.map_cons]
      repeat walk_at "one"
      first | refine app_l (by walk_at "up") (by simp; omega) ?_ | skip
      refine FoI_next rfl ?_
      have e : takeN [t] (p1 :: r) = ([.one p1], r) := by cases t <;> first | rfl | exact absurd rfl hv
      simp only [e, List.map_append, List.map_cons, List.map_nil, Vl.py]
      walk_at "sees"
  · rintro _ rfl
    simp only [List.length_map]
    rw [List.take_length]
    have hnm := takeN_num ks gs
    repeat walk_at "one"
    first | refine tuple_l (by walk_at "mem") (by simp; omega) ?_ | skip
    repeat walk_at "one"
    exact ⟨_, ⟨rfl, rfl⟩, Vw.sees (.drop (.drop (.same .nil)))⟩
end
-- P6
section
section
variable {α β γ δ : Type} {G : Cx} {A A' : Around} {env : Env} {Y : List (Addr × Obj)} {Z : Heap} {s : Shared} {σ σ' : Sg} {x : Str} {p pos : Pos} {n m : Nat}
theorem split_nil : ∀ r : Sg, Split [] r r
  | [] => .nil
  | _ :: r => .r (split_nil r)
theorem up_split {a : Addr} {mo mo' : MO} (u : Up a mo mo' σ σ') : ∃ rest, Split [(a, mo)] rest σ ∧ σ'.Perm ((a, mo') :: rest) := by
  induction u with
  | head r => exact ⟨r, .l (split_nil r), .refl _⟩
  | tail u ih =>
    obtain ⟨rest, h1, h2⟩ := ih
    exact ⟨_ :: rest, .r h1, (List.Perm.cons _ h2).trans (.swap ..)⟩
/-- a call that moves one moving part -/
theorem Fn.upd1 {f : Addr} {a : Addr} {mo mo' : MO} {args : List V} {K K' : V → Sg → Prop} (h : Fn G n f [(a, mo)] args K) (r : Room m A) (u : Up a mo mo' σ σ') (k : ∀ v os', K v os' → os' = [(a, mo')] ∧ K' v σ') (hm : n ≤ m) : Wn G A σ (VR G) (cl (.ref f)) args K' := by
  obtain ⟨rest, hs, hp⟩ := up_split u
  refine Wn.post (K := fun v σ'' => σ'' = (a, mo') :: rest ∧ K' v σ') (h.use r hs (fun v os' kk => ?_) hm) fun v σ'' ⟨e, kk⟩ => ⟨σ', kk, fun Y Z h b => b.perm (e ▸ hp)⟩
  obtain ⟨e, kk⟩ := k v os' kk
  exact ⟨by rw [e]; rfl, kk⟩
/-- a call that sees no moving part -/
theorem Fn.none1 {f : Addr} {args : List V} {K K' : V → Sg → Prop} (h : Fn G n f [] args K) (r : Room m A) (k : ∀ v os', K v os' → os' = [] ∧ K' v σ) (hm : n ≤ m) : Wn G A σ (VR G) (cl (.ref f)) args K' := by
  refine Wn.post (K := fun v σ'' => σ'' = σ ∧ K' v σ) (h.use r (split_nil σ) (fun v os' kk => ?_) hm) fun v σ'' ⟨e, kk⟩ => ⟨σ, kk, fun Y Z h b => e ▸ b⟩
  obtain ⟨e, kk⟩ := k v os' kk
  exact ⟨by rw [e]; rfl, kk⟩
theorem taken_u (P : Pg G) {al : Addr} {ks : List Ty} {gs : List Lf} {kp : List PyData} {K : V → Sg → Prop} (rm : Room m A) (hk : kp = ks.map Ty.py) (h1 : need ks ≤ gs.length) (h2 : gs.length ≤ 10000) (h3 : ks.length ≤ 1000)
    (u : Up al (.l (gs.map Lf.py)) (.l ((takeN ks gs).2.map Lf.py)) σ σ') (k : K (.d (.tuple ((takeN ks gs).1.map Vl.py))) σ') (hm : 1 ≤ m := by omega) : Wn G A σ (VR G) (cl (.ref (P.a 13))) [.d (.list kp), .r al] K := by
  subst hk
  exact (taken_ok P al ks gs h1 h2 h3).upd1 rm u (fun v os' ⟨e, e'⟩ => ⟨e', e ▸ k⟩) hm
theorem types_u (P : Pg G) {f : Fm} {K : V → Sg → Prop} {w : PyData} (rm : Room m A) (hw : w = f.py) (h1 : f.told.length ≤ 1000) (h2 : f.calls.length + f.cells.length ≤ 1000) (k : K (.d (.list (f.types.map Ty.py))) σ) (hm : 1 ≤ m := by omega) : Wn G A σ (VR G) (cl (.ref (P.a 9))) [.d w] K := by
  subst hw
  exact (types_ok P f h1 h2).none1 rm (fun v os' ⟨e, e'⟩ => ⟨e', e ▸ k⟩) hm
end
def segs : List Sig → List Lf → List (Str × List Vl) × List Lf
  | [], g => ([], g)
  | c :: cs, g => ((c.1, (takeN c.2 g).1) :: (segs cs (takeN c.2 g).2).1, (segs cs (takeN c.2 g).2).2)
def segPy (q : Str × List Vl) : PyData := .tuple [.str q.1, .tuple (q.2.map Vl.py)]
def heldPy (q : Str × List Vl) : Str × PyData := (q.1, .tuple (q.2.map Vl.py))
theorem segs_app : ∀ (a b : List Sig) (g : List Lf), segs (a ++ b) g = ((segs a g).1 ++ (segs b (segs a g).2).1, (segs b (segs a g).2).2)
  | [], b, g => by simp [segs]
  | c :: a, b, g => by simp [segs, segs_app a b]
def needs (cs : List Sig) : Nat := need (cs.flatMap (·.2))
theorem needs_cons (c : Sig) (cs : List Sig) : needs (c :: cs) = need c.2 + needs cs := by simp only [needs, List.flatMap_cons, need_app]
theorem needs_app (a b : List Sig) : needs (a ++ b) = needs a + needs b := by simp only [needs, List.flatMap_append, need_app]
theorem segs_len : ∀ {cs : List Sig} {g : List Lf}, needs cs ≤ g.length → (segs cs g).2.length + needs cs = g.length
  | [], g, _ => by simp [segs, needs, need]
  | c :: cs, g, h => by
    rw [needs_cons] at h ⊢
    have h1 := takeN_len (ts := c.2) (g := g) (by omega)
    have h2 := segs_len (cs := cs) (g := (takeN c.2 g).2) (by omega)
    simp only [segs]; omega
theorem segs_num : ∀ (cs : List Sig) (g : List Lf), (segs cs g).1.length = cs.length
  | [], g => rfl
  | c :: cs, g => by simp [segs, segs_num cs]
theorem segs_keys : ∀ (cs : List Sig) (g : List Lf), (segs cs g).1.map (·.1) = cs.map (·.1)
  | [], g => rfl
  | c :: cs, g => by simp [segs, segs_keys cs]
theorem needs_le {cs : List Sig} {i : Nat} {c : Sig} (h : cs[i]? = some c) : needs (cs.take i) + need c.2 ≤ needs cs := by
  have e : cs = cs.take (i + 1) ++ cs.drop (i + 1) := (List.take_append_drop _ _).symm
  rw [take_succ' h] at e
  rw [show needs cs = needs (List.take i cs ++ [c] ++ List.drop (i + 1) cs) from by rw [← e], needs_app, needs_app, needs_cons]
  omega
/-- what the law's own reader makes of a run -/
structure Bt where
  first : Vl
  trace : List (Str × List Vl)
  held : List (Str × List Vl)
def Rn.bt (r : Rn) : Bt :=
  ⟨(take1 r.form.res r.gr).1, (segs r.form.calls (take1 r.form.res r.gr).2).1, (segs r.form.cells (segs r.form.calls (take1 r.form.res r.gr).2).2).1⟩
def Bt.v (b : Bt) : V := .vt [.d (.str "value"), .d b.first.py, .d (.tuple (b.trace.map segPy)), .sd (b.held.map heldPy)]
def Rn.bv (r : Rn) : V := if r.word = "value" then r.bt.v else .d (.tuple [.str r.word, .str "memory"])
/-- a run that is well formed -/
structure Rn.wf (r : Rn) : Prop where
  w : PyData.strOk r.word = true
  c1 : r.form.calls.length ≤ 2
  c2 : r.form.cells.length ≤ 20
  k : ∀ c ∈ r.form.calls ++ r.form.cells, PyData.strOk c.1 = true ∧ c.2.length ≤ 2
  nd : (r.form.cells.map (·.1)).Nodup
  len : r.gr.length = r.form.types.length
theorem fm_len {α β : Type} {f : α → List β} {m : Nat} : ∀ {l : List α}, (∀ x ∈ l, (f x).length ≤ m) → (l.flatMap f).length ≤ m * l.length
  | [], _ => by simp
  | a :: l, h => by
    have := fm_len (l := l) (m := m) fun x hx => h x (.tail _ hx)
    have := h a (.head _)
    rw [List.flatMap_cons, List.length_append, List.length_cons, Nat.mul_succ]; omega
theorem Rn.wf.told {r : Rn} (h : r.wf) : r.form.told.length ≤ 45 := by
  have h1 := h.c1
  have h2 := h.c2
  have := fm_len (l := r.form.calls ++ r.form.cells) (f := (·.2)) (m := 2) fun x hx => (h.k x hx).2
  rw [List.length_append] at this
  rw [Fm.told, List.length_cons]; omega
theorem types_len (f : Fm) : f.types.length = f.res.flat.length + needs f.calls + needs f.cells := by
  show need f.told = _
  rw [Fm.told, need_cons, List.flatMap_append, need_app, ← Nat.add_assoc]; rfl
theorem Rn.wf.gr {r : Rn} (h : r.wf) : r.gr.length ≤ 90 := by
  have h1 := h.told
  have := fm_len (l := r.form.told) (f := Ty.flat) (m := 2) fun x hx => by cases x <;> decide
  rw [h.len]; unfold Fm.types; omega
theorem built_ok {G : Cx} (P : Pg G) (r : Rn) (hr : r.wf) : Fn G 2 (P.a 14) [] [.d r.py] fun v os => v = r.bv ∧ os = [] := by
  refine Fn.intro ["run"] P.T (P.hf "_law_built" 14 rfl).2 (by walk_at "bind") rfl (by decide) (by decide) ?_
  intro A L rm
  obtain ⟨word, ⟨res, calls, cells⟩, gr⟩ := r
  show WSs G A _ [(L, .ns [("run", .d (.tuple [.str word, .tuple [res.py, .list (calls.map sigPy), .list (cells.map sigPy)], .list (gr.map Lf.py)]))])] _ _
  have hw : Ok (.str word) := (OkN.str (n := 0) hr.w).ok
  have hg := hr.gr
  have hlen := hr.len
  rw [types_len] at hlen
  have hc1 := hr.c1
  have hc2 := hr.c2
  simp only at hg hlen hc1 hc2
  refine WSs_cons ?_
  repeat walk_at "one"
  have ew : PyData.eqv (.str word) (.str (Str.ofString "value")) = decide (word = "value") := by simp only [PyData.eqv]; rfl
  by_cases hv : word = "value"
  · refine if_bf ?_ (by rw [ew]; simpa using hv)
    repeat walk_at "one"
    refine WS_Swap (names := ["left", "trace", "held"]) rm ?_
    repeat walk_at "one"
    refine WE_LisM ?_
    repeat walk_at "one"
    intro at_
    repeat walk_at "one"
    refine WE_DictM fun ah => ?_
    repeat walk_at "one"
    rename_i al
    refine ⟨by simp, rfl, ?_⟩
    simp only [List.reverse_cons, List.reverse_nil, List.nil_append, List.cons_append]
    repeat walk_at "one"
    refine WE_LisD ?_
    repeat walk_at "one"
    refine taken_u P (ks := [res]) (gs := gr) rm rfl (by simp only [need, List.flatMap_cons, List.flatMap_nil, List.append_nil]; omega) (by omega) (by simp) (by walk_at "up") ?_
    have hg1 : (takeN [res] gr).2 = (take1 res gr).2 := rfl
    have hl1 := take1_len (t := res) (g := gr) (by omega)
    rw [hg1, show (takeN [res] gr).1 = [(take1 res gr).1] from rfl]
    simp only [List.map_cons, List.map_nil]
    repeat walk_at "one"
    generalize hq1 : (take1 res gr).2 = g1 at hl1 ⊢
    have hs1 := segs_len (cs := calls) (g := g1) (by omega)
    refine WS_For (fun xs i σ => σ = [(ah, .sd []), (at_, .l ((segs (calls.take i) g1).1.map segPy)), (al, .l ((segs (calls.take i) g1).2.map Lf.py)),
      (L, .ns [("left", .r al), ("trace", .r at_), ("held", .r ah), ("cells", .d (.list (cells.map sigPy))), ("first", .d (take1 res gr).1.py)])]) ?_
    refine WI_val rm ?_
    repeat walk_at "one"
    refine ⟨_, Seqs.l _, ⟨_, rfl, by walk_at "sees"⟩, ?_, ?_⟩
    · rintro i x _ hx rfl
      obtain ⟨u, hu, rfl⟩ := map_get hx
      obtain ⟨c, hc, rfl⟩ := map_get hu
      have hi : i < calls.length := (List.getElem?_eq_some_iff.mp hc).1
      have hn := needs_le hc
      have hnm := segs_num (calls.take i) g1
      rw [List.length_take] at hnm
      have hsl := segs_len (cs := calls.take i) (g := g1) (by omega)
      have happ := segs_app (calls.take i) [c] g1
      rw [← take_succ' hc] at happ
      rw [happ]
      generalize segs (calls.take i) g1 = q at hnm hsl ⊢
      obtain ⟨vs, g⟩ := q
      simp only at hnm hsl ⊢
      have hk := (hr.k c (by simp; exact .inl (List.mem_of_getElem? hc))).2
      unfold sigPy
      repeat walk_at "one"
      refine taken_u P (ks := c.2) (gs := g) rm rfl (by omega) (by omega) (by omega) (by walk_at "up") ?_
      repeat walk_at "one"
      first | refine app_l (by walk_at "up") (by simp; omega) ?_ | skip
      refine FoI_next rfl ?_
      simp only [segs, segPy, List.map_append, List.map_cons, List.map_nil]
      walk_at "sees"
    · rintro _ rfl
      simp only [List.length_map]
      rw [List.take_length]
      generalize hq2 : segs calls g1 = q2 at hs1 ⊢
      obtain ⟨tr, g2⟩ := q2
      have hs2 := segs_len (cs := cells) (g := g2) (by simp only at hs1; omega)
      have htl : tr.length ≤ 2 := by have := segs_num calls g1; rw [hq2] at this; simp only at this; omega
      refine Kx_next (WSs_cons (WS_For (fun xs i σ => σ = [(ah, .sd ((segs (cells.take i) g2).1.map heldPy)), (at_, .l (tr.map segPy)), (al, .l ((segs (cells.take i) g2).2.map Lf.py)),
        (L, .ns [("left", .r al), ("trace", .r at_), ("held", .r ah), ("first", .d (take1 res gr).1.py)])]) ?_))
      refine WI_val rm ?_
      repeat walk_at "one"
      refine ⟨_, Seqs.l _, ⟨_, rfl, by walk_at "sees"⟩, ?_, ?_⟩
      · rintro i x _ hx rfl
        obtain ⟨u, hu, rfl⟩ := map_get hx
        obtain ⟨c, hc, rfl⟩ := map_get hu
        have hi : i < cells.length := (List.getElem?_eq_some_iff.mp hc).1
        have hn := needs_le hc
        have hnm := segs_num (cells.take i) g2
        rw [List.length_take] at hnm
        have hsl := segs_len (cs := cells.take i) (g := g2) (by simp only at hs1; omega)
        have hkey := segs_keys (cells.take i) g2
        have happ := segs_app (cells.take i) [c] g2
        rw [← take_succ' hc] at happ
        rw [happ]
        have hfresh : c.1 ∉ (cells.take i).map (·.1) := fun hm => by
          have e : cells = cells.take (i + 1) ++ cells.drop (i + 1) := (List.take_append_drop _ _).symm
          rw [take_succ' hc] at e
          have := hr.nd
          simp only at this
          rw [e, List.map_append, List.map_append, List.nodup_append, List.nodup_append] at this
          exact this.1.2.2 _ hm _ (by simp) rfl
        generalize segs (cells.take i) g2 = q at hnm hsl hkey ⊢
        obtain ⟨vs, g⟩ := q
        simp only at hnm hsl hs1 hkey ⊢
        have hk := (hr.k c (by simp; exact .inr (List.mem_of_getElem? hc))).2
        unfold sigPy
        repeat walk_at "one"
        refine taken_u P (ks := c.2) (gs := g) rm rfl (by omega) (by omega) (by omega) (by walk_at "up") ?_
        repeat walk_at "one"
        refine set_sd (by walk_at "up") (by rw [List.map_map]; show c.1 ∉ List.map (fun q => q.1) vs; rw [hkey]; exact hfresh) (by simp; omega) ?_
        repeat walk_at "one"
        refine FoI_next rfl ?_
        simp only [segs, heldPy, List.map_append, List.map_cons, List.map_nil]
        walk_at "sees"
      · rintro _ rfl
        simp only [List.length_map]
        rw [List.take_length]
        refine Kx_next (WSs_cons (WS_Return (WE_TupV (WEs_cons (WE_str (WEs_cons (WE_local (by walk_at "mem") (by walk_at "lk") (WEs_cons (WE_CallB P ?_)))))))))
        iterate 4 walk_at "one"
        refine WEs_cons (WE_frz ?_)
        repeat walk_at "one"
        refine ⟨_, _, _, _, rfl, .sd _, by walk_at "del", ?_⟩
        repeat walk_at "one"
        refine ⟨by simp, ?_⟩
        refine ⟨_, rfl, _, ⟨?_, rfl⟩, Vw.sees (.drop (.drop (.drop .nil)))⟩
        simp only [Rn.bv, hv, if_true, Rn.bt, Bt.v, hq1, hq2]
  · refine if_bt ?_ (by rw [ew]; simpa using hv)
    repeat walk_at "one"
    refine ⟨_, ⟨?_, rfl⟩, Vw.sees (.drop .nil)⟩
    simp only [Rn.bv, hv, if_false]
end
-- P7
section
/-! the plain form of a run -/
def seenN (l : List Int) : Lf → List Int
  | .al o _ => if (o.val : Int) ∈ l then l else l ++ [(o.val : Int)]
  | _ => l
def seenAll (gs : List Lf) : List Int := gs.foldl seenN []
def plainPy (l : List Int) : Lf → PyData
  | .al o f => .tuple [.str "alloca", .int ((seenN l (.al o f)).idxOf (o.val : Int) : Nat), .int (f.val : Int)]
  | x => x.py
def plains : List Int → List Lf → List PyData
  | _, [] => []
  | l, x :: r => plainPy l x :: plains (seenN l x) r
theorem plains_app : ∀ (l : List Int) (a b : List Lf), plains l (a ++ b) = plains l a ++ plains (a.foldl seenN l) b
  | _, [], _ => rfl
  | l, x :: a, b => by simp [plains, plains_app _ a b]
theorem plains_len : ∀ (l : List Int) (a : List Lf), (plains l a).length = a.length
  | _, [] => rfl
  | l, x :: a => by simp [plains, plains_len _ a]
theorem seenN_small {l : List Int} {x : Lf} (h : l.Nodup ∧ ∀ k ∈ l, 0 ≤ k ∧ k < 3) : (seenN l x).Nodup ∧ ∀ k ∈ seenN l x, 0 ≤ k ∧ k < 3 := by
  cases x with
  | al o f =>
    by_cases hn : (o.val : Int) ∈ l
    · simp only [seenN, hn, if_true]; exact h
    · simp only [seenN, hn, if_false]
      refine ⟨List.nodup_append.mpr ⟨h.1, by simp, fun a ha b hb e => ?_⟩, fun k hk => ?_⟩
      · rw [List.mem_singleton.mp hb] at e; exact hn (e ▸ ha)
      · rcases List.mem_append.mp hk with hk | hk
        · exact h.2 k hk
        · rw [List.mem_singleton.mp hk]; have := o.isLt; omega
  | _ => exact h
theorem seenAll_small : ∀ (gs : List Lf) (l : List Int), (l.Nodup ∧ ∀ k ∈ l, 0 ≤ k ∧ k < 3) → (gs.foldl seenN l).Nodup ∧ ∀ k ∈ gs.foldl seenN l, 0 ≤ k ∧ k < 3
  | [], _, h => h
  | _ :: r, _, h => seenAll_small r _ (seenN_small h)
def Rn.plain (r : Rn) : PyData := .tuple [.str r.word, r.form.py, .list (plains [] r.gr)]
theorem small_lay {l : List Int} (h : l.Nodup ∧ ∀ k ∈ l, 0 ≤ k ∧ k < 3) : PyData.layable0 (.list (l.map .int)) = true := by
  have h1 := nodup3 h.1 h.2
  have one : ∀ k : Int, 0 ≤ k → k < 3 → PyData.weight (.int k) ≤ 2 := fun k h0 h1 => by
    have : k = 0 ∨ k = 1 ∨ k = 2 := by omega
    rcases this with rfl | rfl | rfl <;> decide
  have all : ∀ l : List Int, (∀ k ∈ l, 0 ≤ k ∧ k < 3) → PyData.weightAll (l.map .int) ≤ 3 * l.length ∧ PyData.canLayAll0 (l.map .int) = true ∧ PyData.depthAll (l.map .int) = 0 := by
    intro l
    induction l with
    | nil => intro _; exact ⟨by simp [PyData.weightAll], rfl, rfl⟩
    | cons k l ih =>
      intro hb
      obtain ⟨i1, i2, i3⟩ := ih fun x hx => hb x (.tail _ hx)
      have := one k (hb k (.head _)).1 (hb k (.head _)).2
      refine ⟨?_, ?_, ?_⟩
      · simp only [List.map_cons, PyData.weightAll, List.length_cons]; omega
      · simp [PyData.canLayAll0, PyData.canLay0, i2]
      · simp [PyData.depthAll, PyData.depth, i3]
  obtain ⟨a1, a2, a3⟩ := all l h.2
  have hw : PyData.weight (.list (l.map .int)) = PyData.weightAll (l.map .int) := by simp only [PyData.weight]
  have c1 : PyData.canLay0 (.list (l.map .int)) = true := by simp only [PyData.canLay0, a2]
  have c2 : PyData.depth (.list (l.map .int)) ≤ 64 := by simp only [PyData.depth, a3]; decide
  have c3 : PyData.weight (.list (l.map .int)) ≤ 2 ^ 20 := by rw [hw]; exact Nat.le_trans a1 (Nat.le_trans (Nat.mul_le_mul_left 3 h1) (by decide))
  unfold PyData.layable0
  rw [c1, decide_eq_true c2, decide_eq_true c3]; rfl
theorem Lf.isTup (x : Lf) : isTupD x.py = match x with | .poi => false | .int _ => false | _ => true := by cases x <;> rfl
theorem any_ints (l : List Int) (k : Int) : ((l.map PyData.int).any fun y => PyData.eqv y (.int k)) = decide (k ∈ l) := by
  induction l with
  | nil => simp
  | cons a l ih =>
    simp only [List.map_cons, List.any_cons, ih, PyData.eqv, List.mem_cons, Bool.decide_or]
    congr 1
    rw [Bool.eq_iff_iff]; simp; exact eq_comm
theorem seen_lay {l : List Int} : PyData.canLayAll0 (l.map .int) = true := by
  induction l with
  | nil => rfl
  | cons a l ih => simp [PyData.canLayAll0, PyData.canLay0, ih]
theorem plain_ok {G : Cx} (P : Pg G) (r : Rn) (hg : r.gr.length ≤ 1000) : Fn G 1 (P.a 16) [] [.d r.py] fun v os => v = .d r.plain ∧ os = [] := by
  refine Fn.intro ["run"] P.T (P.hf "_law_plain" 16 rfl).2 (by walk_at "bind") rfl (by decide) (by decide) ?_
  intro A L rm
  obtain ⟨word, form, gr⟩ := r
  show WSs G A _ [(L, .ns [("run", .d (.tuple [.str word, form.py, .list (gr.map Lf.py)]))])] _ _
  simp only at hg
  refine WSs_cons (WS_Swap (names := ["seen", "found"]) rm ?_)
  refine WEs_cons (WE_LisM ?_)
  repeat walk_at "one"
  intro as_
  refine WEs_cons (WE_LisM ?_)
  repeat walk_at "one"
  intro af
  repeat walk_at "one"
  refine ⟨by simp, rfl, ?_⟩
  simp only [List.reverse_cons, List.reverse_nil, List.nil_append, List.cons_append]
  repeat walk_at "one"
  refine WS_For (fun xs i σ => σ = [(af, .l (plains [] (gr.take i))), (as_, .l ((seenAll (gr.take i)).map .int)), (L, .ns [("seen", .r as_), ("found", .r af), ("run", .d (.tuple [.str word, form.py, .list (gr.map Lf.py)]))])]) ?_
  refine WI_val rm ?_
  repeat walk_at "one"
  refine ⟨_, Seqs.l _, ⟨_, rfl, by walk_at "sees"⟩, ?_, ?_⟩
  · rintro i x _ hx rfl
    obtain ⟨u, hu, rfl⟩ := map_get hx
    obtain ⟨t, ht, rfl⟩ := map_get hu
    have hi : i < gr.length := (List.getElem?_eq_some_iff.mp ht).1
    have hsm : (seenAll (gr.take i)).Nodup ∧ ∀ k ∈ seenAll (gr.take i), 0 ≤ k ∧ k < 3 := seenAll_small (gr.take i) [] ⟨by simp, by simp⟩
    have hpl := plains_len [] (gr.take i)
    rw [List.length_take] at hpl
    have hn1 : plains [] (gr.take (i + 1)) = plains [] (gr.take i) ++ [plainPy (seenAll (gr.take i)) t] := by rw [take_succ' ht, plains_app]; rfl
    have hn2 : seenAll (gr.take (i + 1)) = seenN (seenAll (gr.take i)) t := by rw [take_succ' ht]; simp [seenAll]
    rw [hn1, hn2]
    generalize seenAll (gr.take i) = sn at hsm ⊢
    generalize plains [] (gr.take i) = fd at hpl ⊢
    have h3 := nodup3 hsm.1 hsm.2
    repeat walk_at "one"
    rw [Lf.isTup]
    cases t with
    | al o f =>
      refine if_bt ?_ rfl
      unfold Lf.py
      repeat walk_at "one"
      refine if_bt ?_ (by decide +kernel)
      repeat walk_at "one"
      refine notin_l rm (by walk_at "mem") seen_lay rfl (by simp [PyData.depth]) ?_
      repeat walk_at "one"
      rw [any_ints]
      by_cases hm : (o.val : Int) ∈ sn
      · refine if_bf ?_ (by simp [hm])
        repeat walk_at "one"
        refine index_l (by walk_at "mem") hm (small_lay hsm) ?_
        repeat walk_at "one"
        first | refine app_l (by walk_at "up") (by omega) ?_ | skip
        refine FoI_next rfl ?_
        simp only [plainPy, seenN, hm, if_true]
        walk_at "sees"
      · refine if_bt ?_ (by simp [hm])
        repeat walk_at "one"
        rw [show sn.map PyData.int ++ [PyData.int (o.val : Int)] = (sn ++ [(o.val : Int)]).map .int from by simp]
        repeat walk_at "one"
        have hsm2 := seenN_small (x := .al o f) hsm
        simp only [seenN, hm, if_false] at hsm2
        refine index_l (by walk_at "mem") (by simp) (small_lay hsm2) ?_
        repeat walk_at "one"
        first | refine app_l (by walk_at "up") (by omega) ?_ | skip
        refine FoI_next rfl ?_
        simp only [plainPy, seenN, hm, if_false]
        walk_at "sees"
    | nul =>
      refine if_bt ?_ rfl
      unfold Lf.py
      repeat walk_at "one"
      refine if_bf ?_ (by decide +kernel)
      repeat walk_at "one"
      first | refine app_l (by walk_at "up") (by omega) ?_ | skip
      refine FoI_next rfl ?_
      simp only [plainPy, seenN, Lf.py]
      walk_at "sees"
    | glo f =>
      refine if_bt ?_ rfl
      unfold Lf.py
      repeat walk_at "one"
      refine if_bf ?_ (by decide +kernel)
      repeat walk_at "one"
      first | refine app_l (by walk_at "up") (by omega) ?_ | skip
      refine FoI_next rfl ?_
      simp only [plainPy, seenN, Lf.py]
      walk_at "sees"
    | poi =>
      refine if_bf ?_ rfl
      repeat walk_at "one"
      first | refine app_l (by walk_at "up") (by omega) ?_ | skip
      refine FoI_next rfl ?_
      simp only [plainPy, seenN]
      walk_at "sees"
    | int n =>
      refine if_bf ?_ rfl
      repeat walk_at "one"
      first | refine app_l (by walk_at "up") (by omega) ?_ | skip
      refine FoI_next rfl ?_
      simp only [plainPy, seenN]
      walk_at "sees"
  · rintro _ rfl
    simp only [List.length_map]
    rw [List.take_length]
    refine Kx_next (WSs_cons (WS_Return (WE_TupD (WDs_cons ?_))))
    iterate 11 walk_at "one"
    refine WDs_cons (WE_frz ?_)
    repeat walk_at "one"
    refine ⟨_, _, _, _, rfl, .l _, by walk_at "del", ?_⟩
    repeat walk_at "one"
    exact ⟨_, ⟨rfl, rfl⟩, Vw.sees (.drop (.drop .nil))⟩
end
-- N1
section
section
variable {α β γ δ : Type} {G : Cx} {A A' : Around} {env : Env} {Y : List (Addr × Obj)} {Z : Heap} {s : Shared} {σ σ' : Sg} {x : Str} {p pos : Pos} {n : Nat}
/-! a comprehension in two clauses -/
def nestedB (e : Expr) (d : Nat) (iter : Expr) (acc : Value) (env : Env) (c : Code) : Sem Fin := do
  let x ← eval iter env
  standAt iter.pos
  let x ← foldedSetIterable iter env x
  let it ← holding [x] (pyIter x)
  let _ ← runOwn (.compStart e d it acc env) env
  again c
def nested (e : Expr) (d : Nat) (iter : Expr) (acc : Value) (env : Env) : Sem Unit := do
  let x ← eval iter env
  standAt iter.pos
  let x ← foldedSetIterable iter env x
  let _ ← runOwn (.compStart e d (← holding [x] (pyIter x)) acc env) env
theorem nestedB_ok {e : Expr} {d : Nat} {iter : Expr} {acc : Value} {env : Env} {c : Code} {P : Fin → Shared → Prop} {E : Value → Shared → Prop} {s : Shared} {A : Around} {G : Cx} (hs : ∀ x, foldedSetIterable iter env x = pure x)
    (h : wpAny (MM G) A (nested e d iter acc env) (fun _ s' => wpAny (MM G) A (again c) P E s') E0 s) : wpAny (MM G) A (nestedB e d iter acc env c) P E s := by
  have h2 : wpAny (MM G) A (nested e d iter acc env >>= fun _ => again c) P E s := wpAny_bind (wpAny_mono h (fun _ _ x => x) E0.any)
  intro Γ p hΓ
  have := h2 Γ p hΓ
  simp only [nested, nestedB, Sem.wp_bind'] at this ⊢
  exact this
theorem W_nested {K : Sg → Prop} {e : Expr} {d : Nat} {target iter : Expr} {ifs : List Expr} {acc : Value} {inner : Sem Unit}
    (hg : (clausesOf e)[d]? = some ⟨target, iter, ifs, 0⟩) (heq : ∀ it, compTurn e d it acc env = turnOf target iter ifs it env inner (.compLoop e d it acc env))
    (hf1 : ∀ it, (Code.compStart e d it acc env).isFrame = false) (hf2 : ∀ it, (Code.compLoop e d it acc env).isFrame = false) (hq : ∀ it, (Code.compLoop e d it acc env).quiet = true)
    (hu1 : ∀ it, A.under (.compStart e d it acc env) = A) (hu2 : ∀ it, A.under (.compLoop e d it acc env) = A) (hs : ∀ x, foldedSetIterable iter env x = pure x)
    (h : WI G A env σ target iter fun xs σ1 => ∃ I : Nat → Sg → Prop, (∃ σ0, I 0 σ0 ∧ Sees G σ1 σ0) ∧
      (∀ i x σ2, xs[i]? = some x → I i σ2 → WG G A env σ2 target x fun σ3 => WTs G A env σ3 ifs fun ok σ4 => if ok = true then Wt G A σ4 UR inner (fun _ σ5 => ∃ σ', I (i + 1) σ' ∧ Sees G σ5 σ') else ∃ σ', I (i + 1) σ' ∧ Sees G σ4 σ') ∧
      ∀ σ', I xs.length σ' → K σ') :
    Wt G A σ UR (nested e d iter acc env) (fun _ σ' => K σ') := by
  intro Y Z s b
  unfold nested
  refine wpAny_bind (wpAny_mono (h Y Z s b) (fun x s1 h1 => wpAny_bind (wpAny_standAt (wpAny_bind (wpAny_of_eq (hs x) (wpAny_bind (wpAny_holding (wpAny_mono h1 (fun it s2 h2 => ?_) E0.any))))))) E0.any)
  obtain ⟨Z2, σ2, xs, S, Y0, le2, b2, sm2, hS, T, I, ⟨σ0, h0, se0⟩, ht, hK⟩ := h2
  replace b2 := se0 _ _ _ b2
  refine wpAny_bind (wpAny_runOwn (env := env) ?_)
  have loop : codeAny (MM G) A (.compLoop e d it acc env) (fun r s' => match r with | .ok f => wpAny (MM G) A (pure () : Sem Unit) (Po G Y Z s UR fun _ σ' => K σ') E0 s' | .error x => cameBackBy (MM G) A env E0 x s') s2 := by
    refine comp_loop (inner := inner) I (heq it) (hf2 it) (hq it) (hu2 it) T b2 hS h0 ht ?_
    intro Z' σ' s' le' b' sm' hI
    exact wpAny_pure ⟨Z', (), σ', fun c o e => le' c o (le2 c o e), b', sm2.trans sm', trivial, hK σ' hI⟩
  have start : codeAny (MM G) A (.compStart e d it acc env) (fun r s' => match r with | .ok f => wpAny (MM G) A (pure () : Sem Unit) (Po G Y Z s UR fun _ σ' => K σ') E0 s' | .error x => cameBackBy (MM G) A env E0 x s') s2 :=
    codeAny_compStart_any hg (hf1 it) (hu1 it) hq loop (T.self 0 Y Y0 Z2 _ s2 _ hS (fun _ _ e => e) b2 loop)
  exact start
theorem WE_LCG {elt target iter : Expr} {ifs : List Expr} {rest : List Comprehension} {scope : Scope} {cl : List (Str × Addr)} {K : V → Sg → Prop} (inner : Value → Env → Sem Unit) (body : Value → Value → Env → Sem Fin) (I : List V → Nat → List V → Sg → Prop)
    (heq : ∀ it acc env, compTurn (.ListComp elt (⟨target, iter, ifs, 0⟩ :: rest) scope pos) 0 it acc env = turnB target iter ifs it env (body it acc env) (.compLoop (.ListComp elt (⟨target, iter, ifs, 0⟩ :: rest) scope pos) 0 it acc env))
    (hb : ∀ it C D (P : Fin → Shared → Prop) (E : Value → Shared → Prop) (s : Shared), wpAny (MM G) A (inner (.ref D) (compEnvC scope cl C env)) (fun _ s' => wpAny (MM G) A (again (.compLoop (.ListComp elt (⟨target, iter, ifs, 0⟩ :: rest) scope pos) 0 it (.ref D) (compEnvC scope cl C env))) P E s') E0 s → wpAny (MM G) A (body it (.ref D) (compEnvC scope cl C env)) P E s)
    (hWI : WI G A env σ target iter fun xs σ1 => (∃ σ0, I xs 0 [] σ0 ∧ Sees G σ1 σ0) ∧ (∀ C D i x us σ2, xs[i]? = some x → I xs i us σ2 → WG G A (compEnvC scope cl C env) ((C, .ns []) :: (D, .vl us) :: σ2) target x fun σ3 => WTs G A (compEnvC scope cl C env) σ3 ifs fun ok σ4 =>
        if ok = true then Wt G A σ4 UR (inner (.ref D) (compEnvC scope cl C env)) (fun _ σ5 => ∃ us' σ6, I xs (i + 1) us' σ6 ∧ Sees G σ5 ((C, .ns []) :: (D, .vl us') :: σ6)) else ∃ σ6, I xs (i + 1) us σ6 ∧ Sees G σ4 ((C, .ns []) :: (D, .vl us) :: σ6)) ∧ ∀ us σ', I xs xs.length us σ' → ∃ v', FzV (.vl us) v' ∧ K v' σ')
    (hs : ∀ x, foldedSetIterable iter env x = pure x := by intro _; rfl) (hclos : closureFor scope env = pure cl := by with_unfolding_all rfl) (hc : ∀ y ∈ scope.names, y.2 ≠ .cell := by decide) (hkind : scope.kind = .function := by with_unfolding_all rfl)
    (hnames : ∀ x ∈ scope.names, x.2 = .local → scope.names.lookup x.1 = some .local := by decide) :
    WE G A env σ (.ListComp elt (⟨target, iter, ifs, 0⟩ :: rest) scope pos) K := by
  intro Y Z s b
  show wpAny _ A (eval _ env) _ _ _
  rw [eval_ListComp]
  refine LC_coreG (cl := cl) inner body I heq hb (hWI.mono fun xs σ1 ⟨h0, h2, h3⟩ => ⟨h0, h2, fun us σ' hI => ?_⟩) b hs hclos hc hkind hnames
  obtain ⟨v', f, k⟩ := h3 us σ' hI
  refine ⟨v', f, fun C Z' s' a le' b' sm' r => ?_⟩
  cases (b'.objs _ (.head _)).1 with
  | ns hn _ => exact ⟨_, hn, fun h' hs' => ⟨Z', v', σ', le', b'.but hs'.extBut, sm'.trans ⟨_, _, rfl⟩, r, k⟩⟩
theorem turn20 (elt t1 i1 t2 i2 : Expr) (f1 f2 : List Expr) (scope : Scope) (pos : Pos) (it acc : Value) (env : Env) :
    compTurn (.ListComp elt [⟨t1, i1, f1, 0⟩, ⟨t2, i2, f2, 0⟩] scope pos) 0 it acc env = turnB t1 i1 f1 it env (nestedB (.ListComp elt [⟨t1, i1, f1, 0⟩, ⟨t2, i2, f2, 0⟩] scope pos) 1 i2 acc env (.compLoop (.ListComp elt [⟨t1, i1, f1, 0⟩, ⟨t2, i2, f2, 0⟩] scope pos) 0 it acc env)) (.compLoop (.ListComp elt [⟨t1, i1, f1, 0⟩, ⟨t2, i2, f2, 0⟩] scope pos) 0 it acc env) := by rfl
theorem turn21 (elt t1 i1 t2 i2 : Expr) (f1 f2 : List Expr) (scope : Scope) (pos : Pos) (it acc : Value) (env : Env) :
    compTurn (.ListComp elt [⟨t1, i1, f1, 0⟩, ⟨t2, i2, f2, 0⟩] scope pos) 1 it acc env = turnOf t2 i2 f2 it env (do let _ ← call (.builtin "list.append") [acc, ← eval elt env]) (.compLoop (.ListComp elt [⟨t1, i1, f1, 0⟩, ⟨t2, i2, f2, 0⟩] scope pos) 1 it acc env) := by rfl
/-- two clauses, tests behind the second -/
theorem WE_LC2 {elt t1 i1 t2 i2 : Expr} {f2 : List Expr} {scope : Scope} {cl : List (Str × Addr)} {K : V → Sg → Prop} (I : List V → Nat → List V → Sg → Prop)
    (hWI : WI G A env σ t1 i1 fun xs σ1 => (∃ σ0, I xs 0 [] σ0 ∧ Sees G σ1 σ0) ∧
      (∀ C D i x us σ2, xs[i]? = some x → I xs i us σ2 → WG G A (compEnvC scope cl C env) ((C, .ns []) :: (D, .vl us) :: σ2) t1 x fun σ3 =>
        WI G A (compEnvC scope cl C env) σ3 t2 i2 fun ys σ4 => ∃ J : Nat → Sg → Prop, (∃ σ0, J 0 σ0 ∧ Sees G σ4 σ0) ∧
          (∀ j y σ5, ys[j]? = some y → J j σ5 → WG G A (compEnvC scope cl C env) σ5 t2 y fun σ6 => WTs G A (compEnvC scope cl C env) σ6 f2 fun ok σ7 =>
            if ok = true then WE G A (compEnvC scope cl C env) σ7 elt fun v σ8 => ∃ us σ9, Up D (.vl us) (.vl (us ++ [v])) σ8 σ9 ∧ us.length ≤ 100000 ∧ ∃ σ', J (j + 1) σ' ∧ Sees G σ9 σ' else ∃ σ', J (j + 1) σ' ∧ Sees G σ7 σ') ∧
          ∀ σ', J ys.length σ' → ∃ us' σ6, I xs (i + 1) us' σ6 ∧ Sees G σ' ((C, .ns []) :: (D, .vl us') :: σ6)) ∧ ∀ us σ', I xs xs.length us σ' → ∃ v', FzV (.vl us) v' ∧ K v' σ')
    (hs : ∀ x, foldedSetIterable i1 env x = pure x := by intro _; rfl) (hs2 : ∀ C x, foldedSetIterable i2 (compEnvC scope cl C env) x = pure x := by intro _ _; rfl) (hclos : closureFor scope env = pure cl := by with_unfolding_all rfl) (hc : ∀ y ∈ scope.names, y.2 ≠ .cell := by decide) (hkind : scope.kind = .function := by with_unfolding_all rfl)
    (hnames : ∀ x ∈ scope.names, x.2 = .local → scope.names.lookup x.1 = some .local := by decide) :
    WE G A env σ (.ListComp elt [⟨t1, i1, [], 0⟩, ⟨t2, i2, f2, 0⟩] scope pos) K := by
  refine WE_LCG (cl := cl) (fun acc env => nested (.ListComp elt [⟨t1, i1, [], 0⟩, ⟨t2, i2, f2, 0⟩] scope pos) 1 i2 acc env) _ I (turn20 _ _ _ _ _ _ _ _ _) (fun it C D P E s h => nestedB_ok (hs2 C) h) (hWI.mono fun xs σ1 ⟨h0, h1, h2⟩ => ⟨h0, fun C D i x us σ2 hx hI => ?_, h2⟩) hs hclos hc hkind hnames
  refine (h1 C D i x us σ2 hx hI).mono fun _ σ3 h3 => WTs_nil (if_t ?_)
  refine W_nested (K := fun σ5 => ∃ us' σ6, I xs (i + 1) us' σ6 ∧ Sees G σ5 ((C, .ns []) :: (D, .vl us') :: σ6)) rfl (fun it => turn21 _ _ _ _ _ _ _ _ _ it _ _) (fun _ => rfl) (fun _ => rfl) (fun _ => rfl) (fun _ => rfl) (fun _ => rfl) (hs2 C) (h3.mono fun ys σ4 ⟨J, k0, k1, k2⟩ => ⟨J, k0, fun j y σ5 hy hJ => ?_, k2⟩)
  refine (k1 j y σ5 hy hJ).mono fun _ σ6 k3 => k3.mono fun ok σ7 k4 => ?_
  cases ok with
  | true => exact W_emit (K := fun σ8 => ∃ σ', J (j + 1) σ' ∧ Sees G σ8 σ') k4
  | false => exact k4
/-- a list that a cell | a name holds is frozen -/
theorem Wt_frzC {α β : Type} {R : Heap → β → α → Prop} {K : β → Sg → Prop} {t : Sem α} {a c : Addr} {xs : List PyData} {σ1 σ2 : Sg} (d : Del (a, .l xs) σ σ1) (u : Up c (.cell (some (.r a))) (.cell (some (.d (.list xs)))) σ1 σ2) (h : Wt G A σ2 R t K) : Wt G A σ R t K := by
  intro Y Z s b
  obtain ⟨Z2, le2, b2, o⟩ := b.freeze d
  refine wpBack le2 (.refl s) (h Y Z2 s (b2.sub1 u fun q => ?_))
  cases q with
  | cell h1 h2 =>
    cases h2
    cases o with
    | l h3 h4 => exact .cell h1 (.d (.list h3 h4))
theorem Wt_frzL {α β : Type} {R : Heap → β → α → Prop} {K : β → Sg → Prop} {t : Sem α} {a L : Addr} {x : Str} {loc : List (Str × V)} {m : MO} {v : V} {σ1 σ2 : Sg} (d : Del (a, m) σ σ1) (f : Fz a m v) (hx : lk loc x = some (.r a)) (u : Up L (.ns loc) (.ns (st x v loc)) σ1 σ2) (h : Wt G A σ2 R t K) : Wt G A σ R t K := by
  intro Y Z s b
  obtain ⟨Z2, le2, b2, o⟩ := b.freeze d
  refine wpBack le2 (.refl s) (h Y Z2 s (b2.sub1 u fun q => ?_))
  cases q with
  | ns h1 h2 =>
    refine .ns h1 fun y w e => ?_
    rw [lk_st] at e
    split at e
    · next hy =>
      cases e
      subst hy
      obtain ⟨w, hw, r⟩ := h2 y _ hx
      cases r
      exact ⟨_, hw, f.vr o⟩
    · exact h2 y w e
end
end
-- P8
section
/-! may one run stand for another: the law's own rule -/
def okp : Lf → Lf → Bool
  | .poi, _ => true
  | .al _ f, .al _ f' => decide (f' = f)
  | .al _ _, _ => false
  | x, y => decide (x = y)
def prp : Lf → Lf → List (Int × Int)
  | .al o _, .al o' _ => [((o.val : Int), (o'.val : Int))]
  | _, _ => []
def oks (ps : List (Lf × Lf)) : Bool := ps.all fun p => okp p.1 p.2
def prs (ps : List (Lf × Lf)) : List (Int × Int) := ps.flatMap fun p => prp p.1 p.2
def clash (p q : Int × Int) : Bool := decide (p.1 = q.1) != decide (p.2 = q.2)
def cons (L : List (Int × Int)) : Bool := L.all fun p => L.all fun q => !clash p q
def Rn.same (a b : Rn) : Bool := decide (a.form.calls = b.form.calls) && decide (b.form.cells.take a.form.cells.length = a.form.cells)
def ms (a b : Rn) : Bool := if a.word = "value" ∧ b.word = "value" then a.same b && (oks (a.gr.zip b.gr) && cons (prs (a.gr.zip b.gr))) else !decide (a.word = "value")
def pairPy (p : Int × Int) : PyData := .tuple [.int p.1, .int p.2]
def ones (n : Nat) : List V := List.replicate n (.d (.int 1))
theorem zipV_map (as bs : List Lf) : zipV (as.map Lf.py) (bs.map Lf.py) = (as.zip bs).map fun q => .d (.tuple [q.1.py, q.2.py]) := by
  unfold zipV
  rw [List.zip_map, List.map_map]; rfl
theorem sigs_eqv (a b : List Sig) : PyData.eqv (.list (a.map sigPy)) (.list (b.map sigPy)) = decide (a = b) := by
  rw [PyData.eqv, eqvAll_map sig_eqv]
theorem str_eqv (a b : Str) : PyData.eqv (.str a) (.str b) = decide (a = b) := by rw [PyData.eqv]; rfl
def nclash (L M : List (Int × Int)) : Nat := (L.map fun p => (M.filter fun q => clash p q).length).sum
theorem nclash_zero (L M : List (Int × Int)) : (nclash L M = 0) ↔ (L.all fun p => M.all fun q => !clash p q) = true := by
  induction L with
  | nil => simp [nclash]
  | cons p L ih =>
    have e : nclash (p :: L) M = (M.filter fun q => clash p q).length + nclash L M := by simp [nclash]
    rw [e, List.all_cons, Bool.and_eq_true, ← ih]
    have : ((M.filter fun q => clash p q).length = 0) ↔ (M.all fun q => !clash p q) = true := by
      rw [List.length_eq_zero_iff, List.filter_eq_nil_iff, List.all_eq_true]
      simp
    rw [← this]; omega
theorem ones_succ (n : Nat) : ones n ++ [.d (.int 1)] = ones (n + 1) := by
  unfold ones; rw [List.replicate_succ']
theorem fz_ones (n : Nat) : FzV (.vl (ones n)) (.d (.list (List.replicate n (.int 1)))) := by
  have := FzV.vd (List.replicate n (.int 1))
  rw [List.map_replicate] at this
  exact this
theorem ones_ok (n : Nat) : Ok (.list (List.replicate n (.int 1))) := OkN.ok (n := 1) (.list (.of fun d hd => by obtain ⟨_, rfl⟩ := List.mem_replicate.mp hd; exact .int _))
theorem ones_eqv (n : Nat) : PyData.eqv (.list (List.replicate n (.int 1))) (.list []) = decide (n = 0) := by
  cases n with
  | zero => rfl
  | succ n => rw [List.replicate_succ, PyData.eqv]; rfl
theorem bool_ne (a b : Bool) : (!PyData.eqv (.bool a) (.bool b)) = (a != b) := by rw [PyData.eqv]; cases a <;> cases b <;> rfl
theorem int_eqv (a b : Int) : PyData.eqv (.int a) (.int b) = decide (a = b) := by rw [PyData.eqv]; rfl
theorem may_ok {G : Cx} (P : Pg G) (a b : Rn) (ha : a.wf) (hb : b.wf) : Fn G 1 (P.a 15) [] [.d a.py, .d b.py] fun v os => v = .d (.bool (ms a b)) ∧ os = [] := by
  refine Fn.intro ["one", "other"] P.T (P.hf "_law_may_stand" 15 rfl).2 (by walk_at "bind2") rfl (by decide) (by decide) ?_
  intro A L rm
  obtain ⟨word, ⟨res, calls, cells⟩, gr⟩ := a
  obtain ⟨word', ⟨res', calls', cells'⟩, gr'⟩ := b
  have hg := ha.gr
  have hg' := hb.gr
  have hc2 := ha.c2
  have hc2' := hb.c2
  simp only at hg hg' hc2 hc2'
  show WSs G A _ [(L, .ns [("one", .d (.tuple [.str word, .tuple [res.py, .list (calls.map sigPy), .list (cells.map sigPy)], .list (gr.map Lf.py)])), ("other", .d (.tuple [.str word', .tuple [res'.py, .list (calls'.map sigPy), .list (cells'.map sigPy)], .list (gr'.map Lf.py)]))]), (L + 1, .cell none)] _ _
  have hw : Ok (.str word) := (OkN.str (n := 0) ha.w).ok
  have hw' : Ok (.str word') := (OkN.str (n := 0) hb.w).ok
  have ok1 : Ok (.list (calls.map sigPy)) := (sigs_ok fun c hc => (ha.k c (List.mem_append_left _ hc)).1).ok
  have ok2 : Ok (.list (calls'.map sigPy)) := (sigs_ok fun c hc => (hb.k c (List.mem_append_left _ hc)).1).ok
  have ok3 : Ok (.list (cells.map sigPy)) := (sigs_ok fun c hc => (ha.k c (List.mem_append_right _ hc)).1).ok
  have ok4 : Ok (.list ((cells'.map sigPy).take ((cells.map sigPy).length : Int).toNat)) := by
    rw [← List.map_take]
    exact (sigs_ok fun c hc => (hb.k c (List.mem_append_right _ (List.mem_of_mem_take hc))).1).ok
  refine WSs_cons ?_
  repeat walk_at "one"
  rw [str_eqv]
  refine if_b (fun h1 => ?_) (fun h1 => ?_)
  · repeat walk_at "one"
    rw [str_eqv]
    refine ⟨_, ⟨?_, rfl⟩, Vw.sees (.drop (.drop .nil))⟩
    have h1 : ¬ word = "value" := by simpa using h1
    simp only [ms, h1, false_and, if_false]
  · repeat walk_at "one"
    rw [str_eqv]
    have h1 : word = "value" := by simpa using h1
    refine if_b (fun h2 => ?_) (fun h2 => ?_)
    · repeat walk_at "one"
      rw [str_eqv]
      refine ⟨_, ⟨?_, rfl⟩, Vw.sees (.drop (.drop .nil))⟩
      have h2 : ¬ word' = "value" := by simpa using h2
      simp only [ms, h2, and_false, if_false]
    · have h2 : word' = "value" := by simpa using h2
      have ems : ∀ x, x = (Rn.same ⟨word, ⟨res, calls, cells⟩, gr⟩ ⟨word', ⟨res', calls', cells'⟩, gr'⟩ && (oks (gr.zip gr') && cons (prs (gr.zip gr')))) → x = ms ⟨word, ⟨res, calls, cells⟩, gr⟩ ⟨word', ⟨res', calls', cells'⟩, gr'⟩ := by
        intro x hx
        rw [hx, ms, if_pos ⟨h1, h2⟩]
      repeat walk_at "one"
      rw [sigs_eqv]
      refine if_b (fun h3 => ?_) (fun h3 => ?_)
      · repeat walk_at "one"
        refine ⟨_, ⟨?_, rfl⟩, Vw.sees (.drop (.drop .nil))⟩
        rw [← ems false (by simp at h3; simp [Rn.same, h3])]
      · have h3 : calls = calls' := by simpa using h3
        refine WA_or (WT_Cmp (WE_take ?_))
        repeat walk_at "one"
        refine ⟨_, .inl rfl, by simp; omega, ?_⟩
        repeat walk_at "one"
        refine ⟨by simp, ?_⟩
        repeat walk_at "one"
        rw [Int.toNat_natCast, List.length_map, ← List.map_take, sigs_eqv]
        refine if_b (fun h4 => ?_) (fun h4 => ?_)
        · repeat walk_at "one"
          refine ⟨_, ⟨?_, rfl⟩, Vw.sees (.drop (.drop .nil))⟩
          rw [← ems false (by simp at h4; simp [Rn.same, h4])]
        · have h4 : cells'.take cells.length = cells := by simpa using h4
          have hsame : Rn.same ⟨word, ⟨res, calls, cells⟩, gr⟩ ⟨word', ⟨res', calls', cells'⟩, gr'⟩ = true := by simp [Rn.same, h3, h4]
          rw [hsame] at ems
          repeat walk_at "one"
          refine WE_LisM ?_
          repeat walk_at "one"
          intro a
          repeat walk_at "one"
          refine WS_ForR (fun v => v = .d (.bool false) ∧ false = ms ⟨word, ⟨res, calls, cells⟩, gr⟩ ⟨word', ⟨res', calls', cells'⟩, gr'⟩) (fun xs i σ => oks ((gr.zip gr').take i) = true ∧ σ = [(a, .l ((prs ((gr.zip gr').take i)).map pairPy)), (L, .ns []), (L + 1, .cell (some (.r a)))]) ?_
          refine WI_zip true P rm ?_
          repeat walk_at "one"
          refine ⟨_, _, rfl, ?_⟩
          rw [zipV_map]
          refine ⟨⟨_, ⟨rfl, rfl⟩, by walk_at "sees"⟩, ?_, ?_, ?_⟩
          · rintro i x _ hx ⟨hoks, rfl⟩
            obtain ⟨⟨u, v⟩, hu, rfl⟩ := map_get hx
            have hi : i < (gr.zip gr').length := (List.getElem?_eq_some_iff.mp hu).1
            have hoks1 : oks ((gr.zip gr').take (i + 1)) = okp u v := by rw [take_succ' hu]; simp only [oks, List.all_append, List.all_cons, List.all_nil, Bool.and_true]; rw [show (List.take i (gr.zip gr')).all (fun p => okp p.1 p.2) = true from hoks]; rfl
            have hprs1 : prs ((gr.zip gr').take (i + 1)) = prs ((gr.zip gr').take i) ++ prp u v := by rw [take_succ' hu]; simp [prs]
            have hbad : okp u v = false → false = ms ⟨word, ⟨res, calls, cells⟩, gr⟩ ⟨word', ⟨res', calls', cells'⟩, gr'⟩ := fun hk => ems false (by
              have : oks (gr.zip gr') = false := by
                unfold oks
                rw [List.all_eq_false]
                exact ⟨_, List.mem_of_getElem? hu, by simp [hk]⟩
              rw [this]; rfl)
            have hplen : (prs ((gr.zip gr').take i)).length ≤ 90 := by
              have h1 := fm_len (l := (gr.zip gr').take i) (f := fun p : Lf × Lf => prp p.1 p.2) (m := 1) fun x _ => by cases x.1 <;> cases x.2 <;> simp [prp]
              have h2 : ((gr.zip gr').take i).length ≤ 90 := by rw [List.length_take, List.length_zip]; omega
              unfold prs; omega
            rw [hoks1, hprs1]
            generalize prs ((gr.zip gr').take i) = pl at hplen ⊢
            clear hoks1 hprs1
            simp only
            repeat walk_at "one"
            rw [Lf.isTup]
            cases u with
            | al o f =>
              refine if_bt ?_ rfl
              rw [show (Lf.al o f).py = .tuple [.str "alloca", .int (o.val : Int), .int (f.val : Int)] from rfl]
              repeat walk_at "one"
              refine if_bt ?_ (by decide +kernel)
              repeat walk_at "one"
              rw [Lf.isTup]
              cases v with
              | al o' f' =>
                refine if_bf ?_ rfl
                rw [show (Lf.al o' f').py = .tuple [.str "alloca", .int (o'.val : Int), .int (f'.val : Int)] from rfl]
                repeat walk_at "one"
                refine if_bf ?_ (by decide +kernel)
                repeat walk_at "one"
                rw [int_eqv]
                by_cases hf : f' = f
                · subst hf
                  refine if_bf ?_ (by simp)
                  repeat walk_at "one"
                  first | refine app_l (by walk_at "up") (by simp; omega) ?_ | skip
                  refine FoR_next ⟨by simp [okp], rfl⟩ ?_
                  simp only [prp, List.map_append, List.map_cons, List.map_nil, pairPy]
                  walk_at "sees"
                · refine if_bt ?_ (by simpa using fun h => hf (Fin.ext (by omega)))
                  repeat walk_at "one"
                  exact FoR_ret ⟨rfl, hbad (by simp [okp, hf])⟩
              | poi =>
                refine if_bt ?_ rfl
                repeat walk_at "one"
                exact FoR_ret ⟨rfl, hbad rfl⟩
              | int n =>
                refine if_bt ?_ rfl
                repeat walk_at "one"
                exact FoR_ret ⟨rfl, hbad rfl⟩
              | nul =>
                refine if_bf ?_ rfl
                rw [show Lf.nul.py = .tuple [.str "null", .int 0, .int 1] from rfl]
                repeat walk_at "one"
                refine if_bt ?_ (by decide +kernel)
                repeat walk_at "one"
                exact FoR_ret ⟨rfl, hbad rfl⟩
              | glo n =>
                refine if_bf ?_ rfl
                rw [show (Lf.glo n).py = .tuple [.str "global", .str "a", .int (n.val : Int)] from rfl]
                repeat walk_at "one"
                refine if_bt ?_ (by decide +kernel)
                repeat walk_at "one"
                exact FoR_ret ⟨rfl, hbad rfl⟩
            | poi =>
              refine if_bf ?_ rfl
              repeat walk_at "one"
              refine if_bf ?_ rfl
              repeat walk_at "one"
              refine FoR_next ⟨rfl, rfl⟩ ?_
              simp only [prp, List.append_nil]
              walk_at "sees"
            | int n =>
              refine if_bf ?_ rfl
              repeat walk_at "one"
              refine if_bt ?_ rfl
              repeat walk_at "one"
              rw [Lf.eqv]
              by_cases he : Lf.int n = v
              · refine if_bf ?_ (by simpa using he)
                repeat walk_at "one"
                refine FoR_next ⟨by simpa [okp] using he, rfl⟩ ?_
                simp only [prp, List.append_nil]
                walk_at "sees"
              · refine if_bt ?_ (by simpa using he)
                repeat walk_at "one"
                exact FoR_ret ⟨rfl, hbad (by simpa [okp] using he)⟩
            | nul =>
              refine if_bt ?_ rfl
              have e0 : Lf.nul.py = .tuple [.str "null", .int 0, .int 1] := rfl
              rw [e0]
              repeat walk_at "one"
              refine if_bf ?_ (by decide +kernel)
              rw [← e0]
              repeat walk_at "one"
              refine if_bt ?_ rfl
              repeat walk_at "one"
              rw [Lf.eqv]
              by_cases he : Lf.nul = v
              · refine if_bf ?_ (by simpa using he)
                repeat walk_at "one"
                refine FoR_next ⟨by simpa [okp] using he, rfl⟩ ?_
                simp only [prp, List.append_nil]
                walk_at "sees"
              · refine if_bt ?_ (by simpa using he)
                repeat walk_at "one"
                exact FoR_ret ⟨rfl, hbad (by simpa [okp] using he)⟩
            | glo g =>
              refine if_bt ?_ rfl
              have e0 : (Lf.glo g).py = .tuple [.str "global", .str "a", .int (g.val : Int)] := rfl
              rw [e0]
              repeat walk_at "one"
              refine if_bf ?_ (by decide +kernel)
              rw [← e0]
              repeat walk_at "one"
              refine if_bt ?_ rfl
              repeat walk_at "one"
              rw [Lf.eqv]
              by_cases he : Lf.glo g = v
              · refine if_bf ?_ (by simpa using he)
                repeat walk_at "one"
                refine FoR_next ⟨by simpa [okp] using he, rfl⟩ ?_
                simp only [prp, List.append_nil]
                walk_at "sees"
              · refine if_bt ?_ (by simpa using he)
                repeat walk_at "one"
                exact FoR_ret ⟨rfl, hbad (by simpa [okp] using he)⟩
          · rintro v σ2 ⟨rfl, e⟩
            exact ⟨_, rfl, _, ⟨by rw [← e], rfl⟩, Sees.drop (List.nil_sublist _)⟩
          · rintro _ ⟨hoks, rfl⟩
            simp only [List.length_map] at hoks ⊢
            rw [List.take_length] at hoks ⊢
            rw [hoks] at ems
            simp only [Bool.true_and] at ems
            refine Kx_next (Wt_frzC (a := a) (c := L + 1) (by walk_at "del") (by walk_at "up") (WSs_cons (WS_Return (WE_Cmp ?_))))
            have hplen : (prs (gr.zip gr')).length ≤ 90 := by
              have h1 := fm_len (l := gr.zip gr') (f := fun p : Lf × Lf => prp p.1 p.2) (m := 1) fun x _ => by cases x.1 <;> cases x.2 <;> simp [prp]
              have h2 : (gr.zip gr').length ≤ 90 := by rw [List.length_zip]; omega
              unfold prs; omega
            generalize hpl : prs (gr.zip gr') = pl at ems hplen ⊢
            have bound : ∀ i, nclash (pl.take i) pl ≤ 90 * (pl.take i).length := fun i => by
              have : ∀ l : List (Int × Int), nclash l pl ≤ 90 * l.length := fun l => by
                induction l with
                | nil => simp [nclash]
                | cons p l ih =>
                  have e : nclash (p :: l) pl = (pl.filter fun q => clash p q).length + nclash l pl := by simp [nclash]
                  have := List.length_filter_le (fun q => clash p q) pl
                  rw [e, List.length_cons]; omega
              exact this _
            refine WE_LC2 (fun xs i us σ => us = ones (nclash (pl.take i) pl) ∧ σ = [(L, .ns []), (L + 1, .cell (some (.d (.list (pl.map pairPy)))))]) ?_
            refine WI_val rm ?_
            repeat walk_at "one"
            refine ⟨_, Seqs.l _, ⟨_, ⟨rfl, rfl⟩, by walk_at "sees"⟩, ?_, ?_⟩
            · rintro C D i x us _ hx ⟨rfl, rfl⟩
              obtain ⟨u, hu, rfl⟩ := map_get hx
              obtain ⟨p, hp, rfl⟩ := map_get hu
              have hi : i < pl.length := (List.getElem?_eq_some_iff.mp hp).1
              have hb := bound i
              rw [List.length_take] at hb
              have hsucc : nclash (pl.take (i + 1)) pl = nclash (pl.take i) pl + (pl.filter fun q => clash p q).length := by
                rw [take_succ' hp]; simp [nclash]
              unfold pairPy
              repeat walk_at "one"
              refine WI_val rm ?_
              repeat walk_at "one"
              refine ⟨_, Seqs.l _, fun j σ => σ = (C, .ns [("mine", .d (.int p.1)), ("its", .d (.int p.2))]) :: (D, .vl (ones (nclash (pl.take i) pl + ((pl.take j).filter fun q => clash p q).length))) :: [(L, .ns []), (L + 1, .cell (some (.d (.list (pl.map pairPy)))))], ⟨_, rfl, by walk_at "sees"⟩, ?_, ?_⟩
              · rintro j y _ hy rfl
                obtain ⟨u, hu, rfl⟩ := map_get hy
                obtain ⟨q, hq, rfl⟩ := map_get hu
                have hj : j < pl.length := (List.getElem?_eq_some_iff.mp hq).1
                have hf : ((pl.take j).filter fun q => clash p q).length ≤ 90 := by
                  have h1 := List.length_filter_le (fun q => clash p q) (pl.take j)
                  have h2 := List.length_take_le j pl
                  omega
                have hs1 : ((pl.take (j + 1)).filter fun q => clash p q).length = ((pl.take j).filter fun q => clash p q).length + (if clash p q then 1 else 0) := by
                  rw [take_succ' hq, List.filter_append, List.length_append]
                  cases hcl : clash p q <;> simp [List.filter_cons, hcl]
                dsimp only
                rw [hs1]
                generalize ((pl.take j).filter fun q => clash p q).length = m at hf ⊢
                generalize nclash (pl.take i) pl = n0 at hb ⊢
                unfold pairPy
                repeat walk_at "one"
                refine WTs_one (WT_Cmp ?_)
                repeat walk_at "one"
                rw [bool_ne, int_eqv, int_eqv]
                change if clash p q = true then _ else _
                refine if_b (fun hc => ?_) (fun hc => ?_)
                · repeat walk_at "one"
                  refine ⟨_, _, by walk_at "up", by simp [ones]; omega, _, rfl, ?_⟩
                  rw [ones_succ, hc]
                  walk_at "sees"
                · refine ⟨_, rfl, ?_⟩
                  rw [hc]
                  walk_at "sees"
              · rintro _ rfl
                simp only [List.length_map]
                rw [List.take_length, ← hsucc]
                exact ⟨_, _, ⟨rfl, rfl⟩, by walk_at "sees"⟩
            · rintro us _ ⟨rfl, rfl⟩
              simp only [List.length_map]
              rw [List.take_length]
              refine ⟨_, fz_ones _, ?_⟩
              refine WE_LisD ?_
              repeat walk_at "one"
              refine eq_ok rm (ones_ok _) (by walk_at "ok") ?_
              refine ⟨_, rfl, _, ⟨?_, rfl⟩, Sees.drop (List.nil_sublist _)⟩
              rw [ones_eqv, ← ems (decide (nclash pl pl = 0))]
              rw [Bool.eq_iff_iff, decide_eq_true_iff]
              exact nclash_zero pl pl
end
-- Q1
section
/-- what the class Pairs is -/
structure Pk (G : Cx) extends Pg G where
  K : Frag
  X : K.In G.H0
  mkk : makesIn K G.C = true
  fI : findIn K (.ref G.C) "__init__" = some (some (.ref (a 20)))
  tI : typeIn K (.ref (a 20)) = some (.type "function")
  atI : FnAt G (a 20) (fdC 0) (q 20) (c 20)
  fA : findIn K (.ref G.C) "are_one" = some (some (.ref (a 21)))
  tA : typeIn K (.ref (a 21)) = some (.type "function")
  atA : FnAt G (a 21) (fdC 1) (q 21) (c 21)
  ga : findIn K (.ref G.C) "__getattribute__" = some (some (.builtin "object.__getattribute__"))
  gg : findIn K (.ref G.C) "__getattr__" = some none
  hd : hasDictIn K G.C = true
  fi : findIn K (.ref G.C) "its" = some none
  fm : findIn K (.ref G.C) "mine" = some none
  sa : findIn K (.ref G.C) "__setattr__" = some (some (.builtin "object.__setattr__"))
  po : plainOver K G.C = true
  hg : mg "Pairs" = some (.ref G.C)
  kp : keepIn K (.ref G.C) = true
section
variable {α β γ δ : Type} {G : Cx} {A A' : Around} {env : Env} {Y : List (Addr × Obj)} {Z : Heap} {s : Shared} {σ σ' : Sg} {x : Str} {p pos : Pos} {n : Nat}
theorem taker_none {K : Frag} {C : Addr} {name : Str} (h : findIn K (.ref C) name = some none) : takerIn K C name = some none := by unfold takerIn; rw [h]; rfl

/-- an attribute is put into an object's own dict -/
theorem osa_own {prog : Program} {w : World} {K : Frag} {C x dx : Addr} {ox od od' : Obj} {name : Str} {tk : Tok} {v : Value} {es : List DictEntry} {n : Nat} {R : Result → Shared → Prop} (X : K.In s.heap)
    (I : PySem.W.InstAt s.heap x ox C (some od)) (D : s.heap.get? dx = some od) (hd : ox.dict = some dx) (hp : plainOver K C = true) (ht : takerIn K C name = some none) (hh : (clsIn K C).any (·.hasDict) = true)
    (hl : (lookIn name od).isSome = true)
    (e : Obj.putName name (PyData.keyHash w.params name) (.str name s.toks) v od = od') (e' : od'.data = .dict es.toArray n) (hz : es.length ≤ 1000)
    (h : R (.ok (.ret .none)) { s with heap := s.heap.update dx (Obj.putName name (PyData.keyHash w.params name) (.str name s.toks) v), toks := s.toks + 1 }) :
    codeAny (model prog w) A (.call (.builtin "object.__setattr__") ⟨[.ref x, .str name tk, v], []⟩) R s := by
  refine osa_open X I hp ht fun b => ?_
  obtain ⟨cd, hc, hd'⟩ := any_some hh
  have hfr : od'.isFreed = false := by obtain ⟨_, _, dd, _⟩ := od'; cases e'; rfl
  have D' : (s.heap.update dx (Obj.putName name (PyData.keyHash w.params name) (.str name s.toks) v)).get? dx = some od' := by
    rw [Heap.get?_update_self _ D (by rw [e]; exact hfr), e]
  obtain ⟨hx, hcl, hn, -⟩ := I
  obtain ⟨oc, odi, oda, osl⟩ := ox
  dsimp only at hcl hd
  subst hcl hd
  refine wpAny_bind (wpAny_pure (wpAny_bind (wpAny_bind (wpAny_loadPart hx (wpAny_bind ((looks_clsIn X hc).here ?_))))))
  rw [hd']
  refine wpAny_pure (a := some dx) (wpAny_bind (wpAny_pure (wpAny_bind ?_)))
  unfold nsSet
  refine wpAny_bind (wpAny_bind (wpAny_askSetting (wpAny_pure (wpAny_bind (wpAny_mkText (wpAny_bind (wpAny_loadPart D ?_)))))))
  unfold lookIn at hl
  split at hl
  · rename_i es₀ n₀ q
    rw [q]
    dsimp only
    have c : (!es₀.any (·.key.isStr name) && es₀.any (·.refKey)) = false := by
      rw [← Array.any_toList, ← Array.any_toList]
      split at hl
      · rename_i en he
        rw [List.any_eq_true.mpr ⟨en, List.mem_of_find?_eq_some he, List.find?_some he⟩]; rfl
      · split at hl
        · cases hl
        · rename_i z; rw [Bool.not_eq_true] at z; rw [z, Bool.and_false]
    rw [aRefKeyMayBeTheName_at, c]
    refine wpAny_updatePart D ?_
    refine wpAny_bind (wpAny_lookBehind D' (by rw [e']; exact pastItsLine_dict (by rw [List.size_toArray, sizeLine_eq]; omega)) ?_)
    exact wpAny_pure h
  · cases hl
theorem setP (P : Pk G) {xa dx : Addr} {es : List DictEntry} {n : Nat} {name : Str} {v : Value} {Q : Unit → Shared → Prop} {E : Value → Shared → Prop} (b : B G ([(xa, instObj G.C dx), (dx, dictOf es n)] ++ Y) Z σ s.heap) (hf : findIn P.K (.ref G.C) name = some none)
    (hl : (getL name es).isSome = true) (hz : es.length ≤ 100)
    (k : ∀ h' tk, B G ([(xa, instObj G.C dx), (dx, dictOf (putL name (PyData.keyHash G.w.params name) (.str name (s.toks + 1)) v es) (putN name es n))] ++ Y) Z σ h' → Q () { s with heap := h', toks := tk }) :
    wpAny (MM G) A (setAttr (.ref xa) name v) Q E s := by
  have X : P.K.In s.heap := P.X.keeps b.up
  have hx := (b.priv _ (.head _)).1
  have hdx := (b.priv _ (.tail _ (.head _))).1
  have I : PySem.W.InstAt s.heap xa (instObj G.C dx) G.C (some (dictOf es n)) := ⟨hx, rfl, rfl, hdx⟩
  have hlen : (putL name (PyData.keyHash G.w.params name) (.str name (s.toks + 1)) v es).length ≤ es.length + 1 := by
    generalize PyData.keyHash G.w.params name = hh
    generalize (Value.str name (s.toks + 1)) = kk
    clear k b X hx hdx I hl hz
    induction es with
    | nil => simp [putL]
    | cons e r ih => unfold putL; split <;> simp <;> omega
  refine set_plain X I P.sa (osa_own (s := { s with toks := s.toks + 1 }) X I hdx rfl P.po (taker_none hf) P.hd (by rw [lookIn_dict]; exact hl) (putName_dict _ _ _ _ _ _) rfl (Nat.le_trans hlen (by omega)) (k _ _ ?_))
  have hne : xa ≠ dx := by
    have := b.yn
    simp only [List.map_append, List.map_cons, List.map_nil, List.cons_append, List.nil_append, List.nodup_cons, List.mem_cons] at this
    exact fun q => this.1 (.inl q)
  refine b.mv rfl (fun p hp => ?_) (fun a o hm e => Heap.get?_update_ne _ _ _ _ (fun q => hm (by simp [q])) |>.trans e)
  rcases List.mem_cons.mp hp with rfl | hp
  · exact (Heap.get?_update_ne _ _ _ _ hne).trans hx
  · rw [List.mem_singleton.mp hp]
    refine (Heap.get?_update_self _ hdx ?_).trans ?_
    · rw [putName_dict]; rfl
    · rw [putName_dict]
theorem WE_DictI {K : V → Sg → Prop} (h : ∀ a, K (.r a) ((a, .im fun _ => none) :: σ)) : WE G A env σ (.Dict [] [] p) K := by
  intro Y Z s b
  exact wpAny_Dict_empty ⟨Z, _, _, fun _ _ e => e, b.add (le_push _ _) (Nat.le_refl _) (.im (ks := []) (b.notSys (Nat.le_refl _)) (Heap.DictOf.new _) (fun k v e => by simp [valueAt] at e) (fun _ _ => rfl) (fun _ hp => nomatch hp)), ⟨_, _, rfl⟩, .r _, h s.heap.objs.size⟩
end
end
-- Q2
section
section
variable {α β γ δ : Type} {G : Cx} {A A' : Around} {env : Env} {Y : List (Addr × Obj)} {Z : Heap} {s : Shared} {σ σ' : Sg} {x : Str} {p pos : Pos} {n : Nat}
theorem init_body (P : Pk G) {xa dx L : Addr} {f : Addr} {q : Str} {c : Value} {Q : Flow → Shared → Prop} (b : B G ([(xa, instObj G.C dx), (dx, dictOf [] 0)] ++ Y) Z ((L, .ns [("self", .raw (.ref xa))]) :: σ) s.heap)
    (k : ∀ Z' i m es n s', Le Z Z' → B G ([(xa, instObj G.C dx), (dx, dictOf es n)] ++ Y) Z' ((m, .im fun _ => none) :: (i, .im fun _ => none) :: (L, .ns [("self", .raw (.ref xa))]) :: σ) s'.heap → Sm s s' → getL "its" es = some (some (.ref i)) → getL "mine" es = some (some (.ref m)) → getL "are_one" es = some none → Q .next s') :
    wpAny (MM G) A (execs (fdC 0).body (En (fdC 0).scope L (cellsFrom (L + 1) (fdC 0).scope.names []) q f c)) Q E0 s := by
  refine wpAny_execs_cons (plainObj_wpAny_Assign_Attribute ?_ (by with_unfolding_all rfl))
  refine Wt.bind (WE_DictI (K := fun v σ1 => ∃ i, v = .r i ∧ σ1 = (i, .im fun _ => none) :: (L, .ns [("self", .raw (.ref xa))]) :: σ) fun i => ⟨i, rfl, rfl⟩) b fun Z1 v σ1 a1 s1 le1 b1 sm1 r1 k1 => ?_
  obtain ⟨i, rfl, rfl⟩ := k1
  refine Wt.bind (WE_local (K := fun v σ1 => v = .raw (.ref xa) ∧ σ1 = (i, .im fun _ => none) :: (L, .ns [("self", .raw (.ref xa))]) :: σ) (.tail _ (.head _)) (by with_unfolding_all rfl) ⟨rfl, rfl⟩) b1 fun Z2 v σ2 a2 s2 le2 b2 sm2 r2 k2 => ?_
  obtain ⟨rfl, rfl⟩ := k2
  cases r1; cases r2
  refine setP P b2 P.fi rfl (by decide) fun h3 tk3 b3 => ?_
  refine wpAny_execs_cons (plainObj_wpAny_Assign_Attribute ?_ (by with_unfolding_all rfl))
  refine Wt.bind (s := { s2 with heap := h3, toks := tk3 }) (WE_DictI (K := fun v σ1 => ∃ m, v = .r m ∧ σ1 = (m, .im fun _ => none) :: (i, .im fun _ => none) :: (L, .ns [("self", .raw (.ref xa))]) :: σ) fun m => ⟨m, rfl, rfl⟩) b3 fun Z4 v σ4 a4 s4 le4 b4 sm4 r4 k4 => ?_
  obtain ⟨m, rfl, rfl⟩ := k4
  refine Wt.bind (WE_local (K := fun v σ1 => v = .raw (.ref xa) ∧ σ1 = (m, .im fun _ => none) :: (i, .im fun _ => none) :: (L, .ns [("self", .raw (.ref xa))]) :: σ) (.tail _ (.tail _ (.head _))) (by with_unfolding_all rfl) ⟨rfl, rfl⟩) b4 fun Z5 v σ5 a5 s5 le5 b5 sm5 r5 k5 => ?_
  obtain ⟨rfl, rfl⟩ := k5
  cases r4; cases r5
  refine setP P b5 P.fm (by with_unfolding_all rfl) (by simp [putL]) fun h6 tk6 b6 => ?_
  refine wpAny_execs_nil (k Z5 i m _ _ { s5 with heap := h6, toks := tk6 } (fun c o e => le5 c o (le4 c o (le2 c o (le1 c o e)))) b6 ?_ ?_ ?_ ?_)
  · exact (((sm1.trans sm2).trans (Sm.trans ⟨_, _, rfl⟩ sm4)).trans sm5).trans ⟨_, _, rfl⟩
  · with_unfolding_all rfl
  · with_unfolding_all rfl
  · with_unfolding_all rfl
theorem new_pairs (P : Pk G) (rm : Room 2 A) {Q : Value → Shared → Prop} (b : B G Y Z σ s.heap)
    (k : ∀ Z' i m x s', Le Z Z' → B G Y Z' ((m, .im fun _ => none) :: (i, .im fun _ => none) :: σ) s'.heap → Sm s s' → VR G Z' (.p i m) (.ref x) → Q (.ref x) s') : wpAny (MM G) A (call (.ref G.C) []) Q E0 s := by
  obtain ⟨h, g, d, t, os⟩ := s
  have X : P.K.In h := P.X.keeps b.up
  refine wpAny_call (make_core (makes_of X P.mkk) (looks_findIn X P.fI) (fun self => bind_fn X self P.tI) (.inl rfl) ?_)
  have le1 : Le h ((h.push emptyDict).push (instObj G.C h.objs.size)) := fun c o e => Heap.get?_push_of_some _ (Heap.get?_push_of_some _ e)
  have hx : ((h.push emptyDict).push (instObj G.C h.objs.size)).get? (h.objs.size + 1) = some (instObj G.C h.objs.size) := by
    have := Heap.get?_push_size (h.push emptyDict) (o := instObj G.C h.objs.size) rfl
    rwa [Heap.size_push] at this
  have hdx : ((h.push emptyDict).push (instObj G.C h.objs.size)).get? h.objs.size = some (dictOf [] 0) := Heap.get?_push_of_some _ (Heap.get?_push_size _ rfl)
  have b1 : B G ([(h.objs.size + 1, instObj G.C h.objs.size), (h.objs.size, dictOf [] 0)] ++ Y) Z σ ((h.push emptyDict).push (instObj G.C h.objs.size)) := by
    refine b.own le1 (fun p hp => ?_) (by simp)
    rcases List.mem_cons.mp hp with rfl | hp
    · exact ⟨Nat.le_succ _, hx⟩
    · rw [List.mem_singleton.mp hp]; exact ⟨Nat.le_refl _, hdx⟩
  generalize h.objs.size = dx at b1 ⊢
  generalize hh : ((h.push emptyDict).push (instObj G.C dx)) = h1 at b1 le1 ⊢
  obtain ⟨o, fd, e1, e2, e3, e4, e5, e6, e7, e8, e9, e10, e11, e12, e13⟩ := P.atI.ex
  have hbind : bindArgs fd ⟨[.ref (dx + 1)], []⟩ = pure [(("self" : Str), Value.ref (dx + 1))] := by
    obtain ⟨_, _, params, _, _, _, _, _, _⟩ := fd
    dsimp only at e3 e8 e9
    subst e3 e8 e9
    with_unfolding_all rfl
  refine codeAny_call_cells (fd := fd) (binds := [("self", .ref (dx + 1))]) ?_ (b1.up _ _ e1) e2 (P.T.lim.keeps b1.up) (by rw [e12, e11]; exact e13.keeps b1.up) e4 hbind e7 ?_ ?_ (by rw [e5]; with_unfolding_all rfl) (by rw [e5]; with_unfolding_all rfl) (by rw [e5]; with_unfolding_all rfl)
  · have := rm.d
    show A.depth + (Code.builtin "type.__call__" ⟨[Value.ref G.C], []⟩).weight < 1000
    have hw : (Code.builtin "type.__call__" ⟨[Value.ref G.C], []⟩).weight ≤ 1 := by first | exact Nat.le_of_eq (by kernel_rfl) | exact Nat.le_trans (Nat.le_of_eq (show _ = 0 by kernel_rfl)) (Nat.zero_le 1)
    omega
  · intro x hx
    rw [List.mem_singleton.mp hx, e5]
    exact .inl (by with_unfolding_all rfl)
  · intro s₁ XX
    have env_eq : callEnvC fd h1.objs.size (P.a 20) = En (fdC 0).scope h1.objs.size (cellsFrom (h1.objs.size + 1) (fdC 0).scope.names []) (P.q 20) (P.a 20) (P.c 20) := by
      unfold callEnvC newEnv En
      rw [e5, e6, e10, e11, e12]
    rw [show (Shared.heap ⟨h1, g, d, t, os⟩) = h1 from rfl, env_eq] at XX ⊢
    obtain ⟨h', tk', esq⟩ := XX.toInCall.same
    have le2 : Le h1 s₁.heap := XX.toInCall.keep
    have hns := XX.toInCall.ns
    have b2 : B G ([(dx + 1, instObj G.C dx), (dx, dictOf [] 0)] ++ Y) Z ((h1.objs.size, .ns [("self", .raw (.ref (dx + 1)))]) :: σ) s₁.heap := by
      refine b1.add le2 (Nat.le_refl _) (.ns hns fun y v e => ?_)
      unfold lk at e
      split at e
      · next hy =>
        cases e
        subst hy
        exact ⟨_, by with_unfolding_all rfl, .raw _⟩
      · exact nomatch e
    refine wpAny_mono (init_body P b2 fun Z' i m es n s' le' b' sm' g1 g2 g3 => ?_) (fun _ _ x => x) E0.any
    refine ⟨rfl, ?_⟩
    have bg := b'.gone (h' := s'.heap) fun a o _ e => e
    obtain ⟨Z2, le3, b3, fz⟩ := (bg.drop (σ' := (m, .im fun _ => none) :: (i, .im fun _ => none) :: σ) (.cons₂ _ (.cons₂ _ (.cons _ (List.Sublist.refl _))))).max
    have ap := b'.ap
    have yn := b'.yn
    simp only [List.map_append, List.map_cons, List.map_nil, List.cons_append, List.nil_append, List.nodup_cons, List.mem_cons] at yn
    have px := b'.priv _ (.head _)
    have pd := b'.priv _ (.tail _ (.head _))
    have off : ∀ a, a ∉ (((m, MO.im fun _ => none) :: (i, MO.im fun _ => none) :: (h1.objs.size, MO.ns [("self", V.raw (Value.ref (dx + 1)))]) :: σ).map (·.1)) → a ∉ (((m, MO.im fun _ => none) :: (i, MO.im fun _ => none) :: σ).map (·.1)) := fun a h1 h2 => h1 (by
      simp only [List.map_cons, List.mem_cons] at h2 ⊢
      rcases h2 with h2 | h2 | h2
      · exact .inl h2
      · exact .inr (.inl h2)
      · exact .inr (.inr (.inr h2)))
    refine k Z2 i m (dx + 1) s' (fun c o e => le3 c o (le' c o e)) b3 ?_ (.p ⟨dx, es, n, fz _ _ px.1 (off _ (ap _ (.head _))) (fun hm => yn.1 (.inr hm)), fz _ _ pd.1 (off _ (ap _ (.tail _ (.head _)))) yn.2.1, g1, g2, g3⟩)
    exact Sm.trans (b := s₁) (by rw [esq]; exact ⟨_, _, rfl⟩) sm'
end
end
-- Q3
section
section
variable {α β γ δ : Type} {G : Cx} {A A' : Around} {env : Env} {Y : List (Addr × Obj)} {Z : Heap} {s : Shared} {σ σ' : Sg} {x : Str} {p pos : Pos} {n : Nat}
theorem WE_NewP (P : Pk G) {K : V → Sg → Prop} {fp : Pos} (rm : Room 2 A) (k : ∀ i m, K (.p i m) ((m, .im fun _ => none) :: (i, .im fun _ => none) :: σ))
    (hg : env.globals = mainGlobals := by with_unfolding_all rfl) (hk : env.scope.kind = .function := by with_unfolding_all rfl) (hx : env.kindOf "Pairs" = some .globalImplicit := by with_unfolding_all rfl) : WE G A env σ (.Call (.Name "Pairs" fp) [] [] p) K := by
  intro Y Z s b
  refine wpAny_Call_NameR (Name_function_global hk hx (loadGlobal_global (by rw [hg]; exact P.T.g.keeps b.up) P.hg ?_) (by decide))
  refine callWith_of (P := fun h => Le G.H0 h) rfl (fun h le => Callee.cls P.X P.kp h le) (PySem.evalArgs_none ⟨b.up, ?_⟩)
  exact new_pairs P rm b fun Z' i m x s' le b' sm r => ⟨Z', _, _, le, b', sm, r, k i m⟩
theorem pairs_at {i m : Addr} {a : Value} (b : B G Y Z σ s.heap) (r : VR G Z (.p i m) a) : ∃ xa dx es n, a = .ref xa ∧ PySem.W.InstAt s.heap xa (instObj G.C dx) G.C (some (dictOf es n)) ∧ getL "its" es = some (some (.ref i)) ∧ getL "mine" es = some (some (.ref m)) ∧ getL "are_one" es = some none := by
  cases r with
  | p h =>
    obtain ⟨dx, es, n, h1, h2, h3, h4, h5⟩ := h
    exact ⟨_, dx, es, n, rfl, ⟨b.sub _ _ h1, rfl, rfl, b.sub _ _ h2⟩, h3, h4, h5⟩
theorem noGet_none (K : Frag) : noGet K none = true := rfl
theorem WE_its (P : Pk G) {K : V → Sg → Prop} {o : Expr} (h : WE G A env σ o fun v σ1 => ∃ i m, v = .p i m ∧ K (.r i) σ1)
    (he : eval (.Attribute o "its" p) env = (do let u ← eval o env; standAt p.atName; let r ← holding [u] (getAttr u "its" true); letTemporaryGo o u r; pure r) := by with_unfolding_all rfl)
    (hg : ∀ l r, letTemporaryGo o (.ref l) r = pure () := by intro _ _; with_unfolding_all rfl) : WE G A env σ (.Attribute o "its" p) K := by
  intro Y Z s b
  show wpAny _ A (eval _ env) _ _ _
  rw [he]
  refine wpAny_bind (h.bind b fun Z1 v σ1 a s1 le1 b1 sm1 r1 ⟨i, m, e, k1⟩ => wpAny_bind (wpAny_standAt (wpAny_bind (wpAny_holding ?_))))
  subst e
  obtain ⟨xa, dx, es, n, rfl, I, g1, g2, g3⟩ := pairs_at b1 r1
  refine get_value (P.X.keeps b1.up) I P.ga (findObj_own P.hd P.fi (noGet_none _) (by rw [lookIn_dict]; exact g1)) rfl ?_
  rw [hg]
  exact wpAny_bind (wpAny_pure (wpAny_pure ⟨Z1, _, σ1, le1, b1, sm1.trans ⟨_, _, rfl⟩, .r i, k1⟩))
theorem WE_mine (P : Pk G) {K : V → Sg → Prop} {o : Expr} (h : WE G A env σ o fun v σ1 => ∃ i m, v = .p i m ∧ K (.r m) σ1)
    (he : eval (.Attribute o "mine" p) env = (do let u ← eval o env; standAt p.atName; let r ← holding [u] (getAttr u "mine" true); letTemporaryGo o u r; pure r) := by with_unfolding_all rfl)
    (hg : ∀ l r, letTemporaryGo o (.ref l) r = pure () := by intro _ _; with_unfolding_all rfl) : WE G A env σ (.Attribute o "mine" p) K := by
  intro Y Z s b
  show wpAny _ A (eval _ env) _ _ _
  rw [he]
  refine wpAny_bind (h.bind b fun Z1 v σ1 a s1 le1 b1 sm1 r1 ⟨i, m, e, k1⟩ => wpAny_bind (wpAny_standAt (wpAny_bind (wpAny_holding ?_))))
  subst e
  obtain ⟨xa, dx, es, n, rfl, I, g1, g2, g3⟩ := pairs_at b1 r1
  refine get_value (P.X.keeps b1.up) I P.ga (findObj_own P.hd P.fm (noGet_none _) (by rw [lookIn_dict]; exact g2)) rfl ?_
  rw [hg]
  exact wpAny_bind (wpAny_pure (wpAny_pure ⟨Z1, _, σ1, le1, b1, sm1.trans ⟨_, _, rfl⟩, .r m, k1⟩))
theorem WE_MethP (P : Pk G) {K : V → Sg → Prop} {o e : Expr} {es : List Expr} {apos : Pos} (h : WE G A env σ o fun v σ1 => ∃ i m, v = .p i m ∧ WEs G A env p σ1 (e :: es) fun vs σ2 => Wn G A σ2 (VR G) (cl (.ref (P.a 21))) (.p i m :: vs) K)
    {pl : Sem Bool} (he0 : eval (.Call (.Attribute o "are_one" apos) (e :: es) [] p) env = (do
      let ov ← eval o env
      standAt apos.atName
      let (f, first) ← holding [ov] (getMethod ov "are_one" pl)
      callWith p f first (backTo p (starEach (e :: es) env)) (backToKw p (keywordEach [] env))) := by with_unfolding_all rfl)
    (he : starEach (e :: es) env = (false, eval e env) :: starEach es env := by with_unfolding_all rfl) (hplain : (backTo p (starEach es env)).any (·.1) = false := by with_unfolding_all rfl) (hkw : backToKw p (keywordEach [] env) = [] := by with_unfolding_all rfl) :
    WE G A env σ (.Call (.Attribute o "are_one" apos) (e :: es) [] p) K := by
  intro Y Z s b
  refine methodCall_KW (pl := pl) (h.bind b fun Z1 v σ1 a s1 le1 b1 sm1 r1 ⟨i, m, ev, k1⟩ => ?_) he0
  subst ev
  obtain ⟨xa, dx, ds, n, rfl, I, g1, g2, g3⟩ := pairs_at b1 r1
  refine method_fn (P.X.keeps b1.up) I P.ga P.gg P.fA P.tA (by show (lookIn "are_one" (dictOf ds n)).map _ = _; rw [lookIn_dict, g3]; rfl) ?_
  have he' : backTo p (starEach (e :: es) env) = (false, eval e env) :: backTo p (starEach es env) := by rw [he]; rfl
  obtain ⟨o1, fd, e1, e2, _⟩ := P.atA.ex
  rw [hkw]
  refine callWith_of (P := fun h => Le G.H0 h) ?_ (fun h le => Callee.fn e1 e2 h le) ?_
  · rw [he']; show ((false || (backTo p (starEach es env)).any (·.1)) || false) = false; rw [hplain]; rfl
  · rw [he']
    refine evalArgs_plain ?_
    rw [← he']
    refine Wt.bind k1 b1 fun Z2 vs σ2 as s2 le2 b2 sm2 r2 k2 => ⟨b2.up, ?_⟩
    exact wpBack (fun c o e => le2 c o (le1 c o e)) (sm1.trans sm2) (k2 Y Z2 s2 _ b2 (.cons (r1.le le2) r2))
end
end
-- D3
section
/-! pairs put into the tables -/
def Mp : Option (List (Int × Int)) → (Int → Option Int) → (Int → Option Int) → Prop
  | none, _, _ => True
  | some L, f, g => (∀ a b, f a = some b ↔ (a, b) ∈ L) ∧ (∀ a b, g b = some a ↔ (a, b) ∈ L)
def nxtP (L0 : Option (List (Int × Int))) (p : Int × Int) : Option (List (Int × Int)) := L0.bind fun L => if cons (L ++ [p]) = true then some (L ++ [p]) else none
def nxt (L0 : Option (List (Int × Int))) (ps : List (Lf × Lf)) : Option (List (Int × Int)) := L0.bind fun L => if (oks ps && cons (L ++ prs ps)) = true then some (L ++ prs ps) else none
theorem cons_iff (L : List (Int × Int)) : cons L = true ↔ ∀ p ∈ L, ∀ q ∈ L, (p.1 = q.1 ↔ p.2 = q.2) := by
  unfold cons clash
  simp only [List.all_eq_true]
  refine forall_congr' fun p => forall_congr' fun hp => forall_congr' fun q => forall_congr' fun hq => ?_
  by_cases h1 : p.1 = q.1 <;> by_cases h2 : p.2 = q.2 <;> simp [h1, h2]
theorem Mp.cns {L : List (Int × Int)} {f g : Int → Option Int} (h : Mp (some L) f g) : cons L = true := by
  rw [cons_iff]
  rintro ⟨a, b⟩ hp ⟨c, d⟩ hq
  obtain ⟨h1, h2⟩ := h
  refine ⟨fun e => ?_, fun e => ?_⟩
  · dsimp only at e ⊢; subst e
    have := (h1 a b).mpr hp
    rw [(h1 a d).mpr hq] at this
    exact (Option.some.inj this).symm
  · dsimp only at e ⊢; subst e
    have := (h2 a b).mpr hp
    rw [(h2 c b).mpr hq] at this
    exact (Option.some.inj this).symm
theorem cons_snoc {L : List (Int × Int)} {p : Int × Int} (h : cons L = true) : cons (L ++ [p]) = true ↔ ∀ q ∈ L, (q.1 = p.1 ↔ q.2 = p.2) := by
  rw [cons_iff] at h ⊢
  constructor
  · intro k q hq
    exact k q (List.mem_append_left _ hq) p (by simp)
  · intro k a ha b hb
    rcases List.mem_append.mp ha with ha | ha <;> rcases List.mem_append.mp hb with hb | hb
    · exact h a ha b hb
    · rw [List.mem_singleton.mp hb]; exact k a ha
    · rw [List.mem_singleton.mp ha]
      exact ⟨fun e => ((k b hb).mp e.symm).symm, fun e => ((k b hb).mpr e.symm).symm⟩
    · rw [List.mem_singleton.mp ha, List.mem_singleton.mp hb]; simp
theorem Mp.test {L : List (Int × Int)} {f g : Int → Option Int} (h : Mp (some L) f g) (a b : Int) : ((f a).getD b = b ∧ (g b).getD a = a) ↔ cons (L ++ [(a, b)]) = true := by
  rw [cons_snoc h.cns]
  obtain ⟨h1, h2⟩ := h
  constructor
  · rintro ⟨e1, e2⟩ ⟨c, d⟩ hq
    refine ⟨fun e => ?_, fun e => ?_⟩
    · dsimp only at e ⊢; subst e
      rw [(h1 c d).mpr hq] at e1; exact e1
    · dsimp only at e ⊢; subst e
      rw [(h2 c d).mpr hq] at e2; exact e2
  · intro k
    constructor
    · cases q : f a with
      | none => rfl
      | some d => exact ((k _ ((h1 a d).mp q)).mp rfl)
    · cases q : g b with
      | none => rfl
      | some c => exact ((k _ ((h2 c b).mp q)).mpr rfl)
theorem Mp.put {L : List (Int × Int)} {f g : Int → Option Int} (h : Mp (some L) f g) {a b : Int} (e1 : (f a).getD b = b) (e2 : (g b).getD a = a) : Mp (some (L ++ [(a, b)])) (setD f a b) (setD g b a) := by
  obtain ⟨h1, h2⟩ := h
  refine ⟨fun x y => ?_, fun x y => ?_⟩
  · unfold setD
    rw [List.mem_append, List.mem_singleton, Prod.mk.injEq]
    split
    · next hx =>
      subst hx
      rw [e1]
      constructor
      · intro e; exact .inr ⟨rfl, (Option.some.inj e).symm⟩
      · rintro (hm | ⟨_, rfl⟩)
        · rw [(h1 x y).mpr hm] at e1; rw [← e1]; rfl
        · rfl
    · next hx =>
      rw [h1]
      exact ⟨.inl, fun q => q.elim id fun z => absurd z.1 hx⟩
  · unfold setD
    rw [List.mem_append, List.mem_singleton, Prod.mk.injEq]
    split
    · next hy =>
      subst hy
      rw [e2]
      constructor
      · intro e; exact .inr ⟨(Option.some.inj e).symm, rfl⟩
      · rintro (hm | ⟨rfl, _⟩)
        · rw [(h2 x y).mpr hm] at e2; rw [← e2]; rfl
        · rfl
    · next hy =>
      rw [h2]
      exact ⟨.inl, fun q => q.elim id fun z => absurd z.2 hy⟩
theorem prs_app (a b : List (Lf × Lf)) : prs (a ++ b) = prs a ++ prs b := by simp [prs]
theorem oks_app (a b : List (Lf × Lf)) : oks (a ++ b) = (oks a && oks b) := by simp [oks]
theorem cons_left {a b : List (Int × Int)} (h : cons (a ++ b) = true) : cons a = true := by
  rw [cons_iff] at h ⊢
  exact fun p hp q hq => h p (List.mem_append_left _ hp) q (List.mem_append_left _ hq)
theorem nxt_app (L0 : Option (List (Int × Int))) (ps qs : List (Lf × Lf)) : nxt (nxt L0 ps) qs = nxt L0 (ps ++ qs) := by
  cases L0 with
  | none => rfl
  | some L =>
    unfold nxt
    simp only [Option.bind_some, oks_app, prs_app, ← List.append_assoc]
    by_cases h1 : (oks ps && cons (L ++ prs ps)) = true
    · rw [if_pos h1]
      rw [Bool.and_eq_true] at h1
      simp only [Option.bind_some, h1.1, Bool.true_and]
    · rw [if_neg h1]
      rw [if_neg]
      · rfl
      · intro h
        apply h1
        rw [Bool.and_eq_true, Bool.and_eq_true] at h
        rw [Bool.and_eq_true]
        exact ⟨h.1.1, cons_left h.2⟩
theorem nxt_nil (L0 : Option (List (Int × Int))) (h : ∀ L, L0 = some L → cons L = true) : nxt L0 [] = L0 := by
  cases L0 with
  | none => rfl
  | some L => simp [nxt, oks, prs, h L rfl]
/-- the state that a refining call leaves -/
def St (i m : Addr) (L0 : Option (List (Int × Int))) (os : Sg) : Prop := ∃ f g, os = [(m, .im g), (i, .im f)] ∧ Mp L0 f g
theorem Mp.nil {L0 : Option (List (Int × Int))} {f g : Int → Option Int} (h : Mp L0 f g) : nxt L0 [] = L0 := nxt_nil L0 fun L e => by subst e; exact h.cns

section
variable {α β γ δ : Type} {G : Cx} {A A' : Around} {env : Env} {Y : List (Addr × Obj)} {Z : Heap} {s : Shared} {σ σ' : Sg} {x : Str} {p pos : Pos} {n : Nat}
theorem all_bools {K : V → Sg → Prop} {bs : List Bool} (rm : Room n A) (k : K (.d (.bool (bs.all id))) σ) : Wn G A σ (VR G) (cl (.builtin "all")) [.d (.list (bs.map .bool))] K := by
  intro Y Z s vs b r
  cases r with | cons r r' =>
    cases r'
    obtain ⟨l, vs, n1, rfl, h1, h2⟩ := r.list
    have hL := isL (b.sub _ _ h1)
    have hl : vs.length = bs.length := by simpa using rd_length h2
    have hat : ∀ i v, vs[i]? = some v → ∃ c, bs[i]? = some c ∧ v = Value.bool c := fun i v e => by
      have hi := (List.getElem?_eq_some_iff.mp e).1
      obtain ⟨u, hu, hr⟩ := reads_get h2 (k := i) (x := PyData.bool (bs[i]'(by omega))) (by simp)
      rw [e] at hu; cases hu
      cases hr
      exact ⟨_, List.getElem?_eq_getElem (by omega), rfl⟩
    refine call_all_walk (wpAny_pyIter_list hL ?_)
    have hne : l ≠ s.heap.objs.size := Nat.ne_of_lt (by obtain ⟨o, e, _⟩ := hL; exact Heap.lt_size e)
    refine ⟨s.heap.objs.size, _, _, _, _, _, fun i => (bs[i]?).getD true, rfl, Walks.list (A := A.in1) rm.h _ _ hne vs.toArray, ⟨⟨_, Heap.get?_push_size _ rfl, rfl, rfl⟩, isList_le (le_push _ _) hL⟩, ?_, ?_⟩
    · intro i v s' Q E hv hQ
      obtain ⟨c, hc, rfl⟩ := hat i v (by simpa using hv)
      simp only [hc, Option.getD_some] at hQ
      exact wpAny_truthy_bool hQ
    · intro h' tk hk
      have e : (List.range vs.toArray.size).all (fun i => (bs[i]?).getD true) = bs.all id := by
        rw [Bool.eq_iff_iff]
        simp only [List.all_eq_true, List.mem_range, List.size_toArray, hl, id]
        constructor
        · intro h c hc
          obtain ⟨i, hi, rfl⟩ := List.getElem_of_mem hc
          have := h i hi
          rwa [List.getElem?_eq_getElem hi] at this
        · intro h i hi
          rw [List.getElem?_eq_getElem hi]
          exact h _ (List.getElem_mem hi)
      rw [e]
      have lep : Le s.heap h' := fun c o q => hk c o (fun hm => by
        simp at hm; subst hm
        exact absurd (Heap.lt_size q) (Nat.lt_irrefl _)) (Heap.get?_push_of_some _ q)
      exact ⟨Z, _, σ, fun _ _ e => e, b.grow lep, ⟨_, _, rfl⟩, .d (.bool _), k⟩
end
end
-- P9
section
section
variable {α β γ δ : Type} {G : Cx} {A A' : Around} {env : Env} {Y : List (Addr × Obj)} {Z : Heap} {s : Shared} {σ σ' : Sg} {x : Str} {p pos : Pos} {n m : Nat}
theorem rcv_im {l : Addr} {f : Int → Option Int} (hm : (l, MO.im f) ∈ σ) : Rcv G σ (.r l) "dict" := fun Y Z h a b r => by
  cases r
  have o := (b.objs _ hm).1
  cases o with
  | im h1 h2 h3 h4 h5 =>
    obtain ⟨o, _, _, e, hc, _⟩ := h2
    exact ⟨_, _, rfl, e, hc.1, hc.2.1⟩
/-- a refining call: what it answers and how it leaves the tables -/
def Ref (G : Cx) (n : Nat) (f : Addr) (args : List V) (ps : List (Lf × Lf)) : Prop :=
  ∀ (i m : Addr) (L0 : Option (List (Int × Int))) (os : Sg), St i m L0 os → Fn G n f os (args ++ [.p i m]) fun v os' => ∃ c, v = .d (.bool c) ∧ (L0.isSome = true → c = (nxt L0 ps).isSome) ∧ St i m (nxt L0 ps) os'
end
theorem one_pair {G : Cx} (P : Pk G) (i m : Addr) (L0 : Option (List (Int × Int))) (os : Sg) (hs : St i m L0 os) (a b : Int) (ha : 0 ≤ a ∧ a < 3) (hb : 0 ≤ b ∧ b < 3) :
    Fn G 1 (P.a 21) os [.p i m, .d (.int a), .d (.int b)] fun v os' => ∃ c, v = .d (.bool c) ∧ (L0.isSome = true → c = (nxtP L0 (a, b)).isSome) ∧ St i m (nxtP L0 (a, b)) os' := by
  obtain ⟨f, g, rfl, hM⟩ := hs
  refine Fn.intro ["self", "mine", "its"] P.T P.atA (by walk_at "bind3") rfl (by decide) (by decide) ?_
  intro A L rm
  show WSs G A _ [(L, .ns [("self", .p i m), ("mine", .d (.int a)), ("its", .d (.int b))]), (m, .im g), (i, .im f)] _ _
  have hP := P.toPg
  refine WSs_cons (WS_Return (WE_and2 (WE_Cmp (WE_Meth "dict" "dict.setdefault" F.plainAttrs_dict F.slot_dict_setdefault F.type_dict_setdefault (WE_its P (WE_local (by walk_at "mem") (by walk_at "lk") ⟨i, m, rfl, rcv_im (by walk_at "mem"), ?_⟩))))))
  repeat walk_at "one"
  refine setd_im (by walk_at "up") ha.1 ha.2 ?_
  repeat walk_at "one"
  rw [int_eqv]
  refine if_d (fun h1 => ?_) (fun h1 => ?_)
  · refine WE_Cmp (WE_Meth "dict" "dict.setdefault" F.plainAttrs_dict F.slot_dict_setdefault F.type_dict_setdefault (WE_mine P (WE_local (by walk_at "mem") (by walk_at "lk") ⟨i, m, rfl, rcv_im (by walk_at "mem"), ?_⟩)))
    repeat walk_at "one"
    refine setd_im (by walk_at "up") hb.1 hb.2 ?_
    repeat walk_at "one"
    rw [int_eqv]
    refine ⟨_, ⟨_, rfl, ?_⟩, Vw.sees (.drop (.same (.same .nil)))⟩
    cases L0 with
    | none => exact ⟨fun h => by simp at h, _, _, rfl, trivial⟩
    | some L =>
      by_cases h2 : (g b).getD a = a
      · have hc := (hM.test a b).mp ⟨h1, h2⟩
        simp only [nxtP, Option.bind_some, hc, if_true]
        exact ⟨fun _ => by simp [h2], _, _, rfl, hM.put h1 h2⟩
      · have hc : ¬ cons (L ++ [(a, b)]) = true := fun h => h2 ((hM.test a b).mpr h).2
        simp only [nxtP, Option.bind_some, hc, if_false]
        exact ⟨fun _ => by simp [h2], _, _, rfl, trivial⟩
  · repeat walk_at "one"
    refine ⟨_, ⟨_, rfl, ?_⟩, Vw.sees (.drop (.same (.same .nil)))⟩
    cases L0 with
    | none => exact ⟨fun h => by simp at h, _, _, rfl, trivial⟩
    | some L =>
      have hc : ¬ cons (L ++ [(a, b)]) = true := fun h => h1 ((hM.test a b).mpr h).1
      simp only [nxtP, Option.bind_some, hc, if_false]
      exact ⟨fun _ => rfl, _, _, rfl, trivial⟩
end
-- P10
section
theorem nxt_al (L0 : Option (List (Int × Int))) (o o' : Fin 3) (f : Fin 2) : nxt L0 [(.al o f, .al o' f)] = nxtP L0 ((o.val : Int), (o'.val : Int)) := by
  cases L0 with
  | none => rfl
  | some L => simp [nxt, nxtP, oks, okp, prs, prp]
theorem nxt_plain {L0 : Option (List (Int × Int))} {f g : Int → Option Int} (hM : Mp L0 f g) {u v : Lf} (hp : prp u v = [] ∨ okp u v = false) : nxt L0 [(u, v)] = if okp u v = true then L0 else none := by
  cases L0 with
  | none => simp [nxt]
  | some L =>
    have hc := hM.cns
    cases hk : okp u v with
    | false => simp [nxt, oks, hk]
    | true =>
      have hp : prp u v = [] := by simpa [hk] using hp
      simp [nxt, oks, hk, prs, hp, hc]
theorem plain_end {G : Cx} {i m : Addr} {L0 : Option (List (Int × Int))} {f g : Int → Option Int} (hM : Mp L0 f g) {u v : Lf} (hp : prp u v = [] ∨ okp u v = false) : ∃ c, V.d (.bool (okp u v)) = .d (.bool c) ∧ (L0.isSome = true → c = (nxt L0 [(u, v)]).isSome) ∧ St i m (nxt L0 [(u, v)]) [(m, .im g), (i, .im f)] := by
  rw [nxt_plain hM hp]
  refine ⟨_, rfl, fun h => ?_, f, g, rfl, ?_⟩
  · cases okp u v <;> simp [h]
  · cases okp u v with
    | true => exact hM
    | false => trivial
theorem ptr_ok {G : Cx} (P : Pk G) (u v : Lf) (hu : isTupD u.py = true) : Ref G 2 (P.a 2) [.d u.py, .d v.py] [(u, v)] := by
  intro i m L0 os hs
  obtain ⟨f, g, rfl, hM⟩ := hs
  refine Fn.intro ["one", "other", "pairs"] P.T (P.hf "is_refined_pointer" 2 rfl).2 (by walk_at "bind3") rfl (by decide) (by decide) ?_
  intro A L rm
  show WSs G A _ [(L, .ns [("one", .d u.py), ("other", .d v.py), ("pairs", .p i m)]), (m, .im g), (i, .im f)] _ _
  have hP := P.toPg
  have fin : Sees G [(L, .ns [("one", .d u.py), ("other", .d v.py), ("pairs", .p i m)]), (m, .im g), (i, .im f)] [(m, .im g), (i, .im f)] := Vw.sees (.drop (.same (.same .nil)))
  refine WSs_cons ?_
  cases u with
  | poi => cases hu
  | int n => cases hu
  | nul =>
    have e0 : Lf.nul.py = .tuple [.str "null", .int 0, .int 1] := rfl
    rw [e0]
    repeat walk_at "one"
    refine if_bt ?_ (by decide +kernel)
    rw [← e0]
    repeat walk_at "one"
    rw [Lf.eqv]
    exact ⟨_, plain_end (G := G) hM (u := .nul) (v := v) (.inl (by cases v <;> rfl)), fin⟩
  | glo k =>
    have e0 : (Lf.glo k).py = .tuple [.str "global", .str "a", .int (k.val : Int)] := rfl
    rw [e0]
    repeat walk_at "one"
    refine if_bt ?_ (by decide +kernel)
    rw [← e0]
    repeat walk_at "one"
    rw [Lf.eqv]
    exact ⟨_, plain_end (G := G) hM (u := .glo k) (v := v) (.inl (by cases v <;> rfl)), fin⟩
  | al o k =>
    have e0 : (Lf.al o k).py = .tuple [.str "alloca", .int (o.val : Int), .int (k.val : Int)] := rfl
    rw [e0]
    repeat walk_at "one"
    refine if_bf ?_ (by decide +kernel)
    repeat walk_at "one"
    rw [Lf.isTup]
    cases v with
    | poi =>
      refine if_bt ?_ rfl
      rw [← e0]
      repeat walk_at "one"
      rw [Lf.eqv]
      exact ⟨_, plain_end (G := G) hM (u := .al o k) (v := .poi) (.inr rfl), fin⟩
    | int n =>
      refine if_bt ?_ rfl
      rw [← e0]
      repeat walk_at "one"
      rw [Lf.eqv]
      exact ⟨_, plain_end (G := G) hM (u := .al o k) (v := .int n) (.inr rfl), fin⟩
    | nul =>
      refine if_bf ?_ rfl
      have e1 : Lf.nul.py = .tuple [.str "null", .int 0, .int 1] := rfl
      rw [e1]
      repeat walk_at "one"
      refine if_bt ?_ (by decide +kernel)
      rw [← e0, ← e1]
      repeat walk_at "one"
      rw [Lf.eqv]
      exact ⟨_, plain_end (G := G) hM (u := .al o k) (v := .nul) (.inr rfl), fin⟩
    | glo n =>
      refine if_bf ?_ rfl
      have e1 : (Lf.glo n).py = .tuple [.str "global", .str "a", .int (n.val : Int)] := rfl
      rw [e1]
      repeat walk_at "one"
      refine if_bt ?_ (by decide +kernel)
      rw [← e0, ← e1]
      repeat walk_at "one"
      rw [Lf.eqv]
      exact ⟨_, plain_end (G := G) hM (u := .al o k) (v := .glo n) (.inr rfl), fin⟩
    | al o' k' =>
      refine if_bf ?_ rfl
      have e1 : (Lf.al o' k').py = .tuple [.str "alloca", .int (o'.val : Int), .int (k'.val : Int)] := rfl
      rw [e1]
      repeat walk_at "one"
      refine if_bf ?_ (by decide +kernel)
      repeat walk_at "one"
      refine WE_and2 ?_
      repeat walk_at "one"
      rw [int_eqv]
      refine if_d (fun hk => ?_) (fun hk => ?_)
      · have hk : k = k' := Fin.ext (by omega)
        subst hk
        refine WE_MethP P (WE_local (by walk_at "mem") (by walk_at "lk") ⟨i, m, rfl, ?_⟩)
        repeat walk_at "one"
        have h1 := o.isLt
        have h2 := o'.isLt
        refine (one_pair P i m L0 _ ⟨f, g, rfl, hM⟩ (o.val : Int) (o'.val : Int) (by omega) (by omega)).use rm (.r (.l (.l .nil))) fun v os' hv => ?_
        rw [nxt_al]
        exact ⟨_, rfl, _, hv, Sees.drop (List.sublist_append_left _ _)⟩
      · repeat walk_at "one"
        have hk : okp (.al o k) (.al o' k') = false := by
          simp only [okp, decide_eq_false_iff_not]
          exact fun e => hk (by rw [e])
        have := plain_end (G := G) (i := i) (m := m) hM (u := .al o k) (v := .al o' k') (.inr hk)
        rw [hk] at this
        exact ⟨_, this, Vw.sees (.drop (.same (.same .nil)))⟩
end
-- P11
section
theorem Sees.perm {G : Cx} {a b : Sg} (h : b.Perm a) : Sees G a b := fun _ _ _ q => q.perm h
theorem leafv_ok {G : Cx} (P : Pk G) (u v : Lf) : Ref G 3 (P.a 3) [.d u.py, .d v.py] [(u, v)] := by
  intro i m L0 os hs
  have hs0 := hs
  obtain ⟨f, g, rfl, hM⟩ := hs
  refine Fn.intro ["one", "other", "pairs"] P.T (P.hf "is_refined_value" 3 rfl).2 (by walk_at "bind3") rfl (by decide) (by decide) ?_
  intro A L rm
  show WSs G A _ [(L, .ns [("one", .d u.py), ("other", .d v.py), ("pairs", .p i m)]), (m, .im g), (i, .im f)] _ _
  let hP : Pg G := P.toPg
  have fin : Sees G [(L, .ns [("one", .d u.py), ("other", .d v.py), ("pairs", .p i m)]), (m, .im g), (i, .im f)] [(m, .im g), (i, .im f)] := Vw.sees (.drop (.same (.same .nil)))
  refine WSs_cons ?_
  repeat walk_at "one"
  have tup : ∀ t, u.py = .tuple t → isTupD u.py = true → isStrD (t.head?.getD .none) = true → WSs G A (En (fdI 3).scope L (cellsFrom (L + 1) (fdI 3).scope.names []) (P.q 3) (P.a 3) (P.c 3)) [(L, .ns [("one", .d u.py), ("other", .d v.py), ("pairs", .p i m)]), (m, .im g), (i, .im f)]
      ((fdI 3).body.drop 2) fun fl σ' => ∃ w, fl = .ret w ∧ ∃ os', (∃ c, w = .d (.bool c) ∧ (L0.isSome = true → c = (nxt L0 [(u, v)]).isSome) ∧ St i m (nxt L0 [(u, v)]) os') ∧ Sees G σ' os' := by
    intro t e ht hstr
    refine WSs_cons ?_
    obtain ⟨d, r, rfl⟩ : ∃ d r, t = d :: r := by cases t with | nil => cases hstr | cons d r => exact ⟨d, r, rfl⟩
    rw [e]
    refine WS_If (WT_val (WE_CallB hP (WEs_cons (WE_Sub (WE_local (by walk_at "mem") (by walk_at "lk") (WE_int (sub_dt (by decide) rfl (by cases u <;> cases e <;> simp) ?_)))))))
    repeat walk_at "one"
    refine if_bt ?_ hstr
    rw [← e]
    repeat walk_at "one"
    refine (ptr_ok P u v ht i m L0 _ hs0).use rm (.r (.l (.l .nil))) fun v os' hv => ?_
    exact ⟨_, rfl, _, hv, Sees.drop (List.sublist_append_left _ _)⟩
  cases u with
  | poi =>
    refine if_bt ?_ rfl
    repeat walk_at "one"
    exact ⟨_, plain_end (G := G) hM (u := .poi) (v := v) (.inl (by cases v <;> rfl)), fin⟩
  | int n =>
    refine if_bf ?_ rfl
    repeat walk_at "one"
    refine if_bt ?_ rfl
    repeat walk_at "one"
    rw [Lf.eqv]
    exact ⟨_, plain_end (G := G) hM (u := .int n) (v := v) (.inl (by cases v <;> rfl)), fin⟩
  | nul =>
    refine if_bf ?_ rfl
    repeat walk_at "one"
    refine if_bf ?_ rfl
    refine WSs_nil (Kx_next ?_)
    exact tup _ rfl rfl rfl
  | glo k =>
    refine if_bf ?_ rfl
    repeat walk_at "one"
    refine if_bf ?_ rfl
    refine WSs_nil (Kx_next ?_)
    exact tup _ rfl rfl rfl
  | al o k =>
    refine if_bf ?_ rfl
    repeat walk_at "one"
    refine if_bf ?_ rfl
    refine WSs_nil (Kx_next ?_)
    exact tup _ rfl rfl rfl
/-- many values, one beside the other -/
theorem many_ok {G : Cx} (P : Pk G) (n : Nat) (xs ys : List PyData) (pss : List (List (Lf × Lf))) (h1 : xs.length = pss.length) (h2 : ys.length = pss.length) (h3 : pss.length ≤ 1000)
    (hv : ∀ (j : Nat) x y ps, xs[j]? = some x → ys[j]? = some y → pss[j]? = some ps → Ref G n (P.a 3) [.d x, .d y] ps) : Ref G (n + 1) (P.a 4) [.d (.tuple xs), .d (.tuple ys)] pss.flatten := by
  intro i m L0 os hs
  obtain ⟨f, g, rfl, hM⟩ := hs
  refine Fn.intro ["ones", "others", "pairs"] P.T (P.hf "are_refined" 4 rfl).2 (by walk_at "bind3") rfl (by decide) (by decide) ?_
  intro A L rm
  show WSs G A _ [(L, .ns [("ones", .d (.tuple xs)), ("others", .d (.tuple ys))]), (L + 1, .cell (some (.p i m))), (m, .im g), (i, .im f)] _ _
  let hP : Pg G := P.toPg
  refine WSs_cons (WS_Return (WE_and2 ?_))
  repeat walk_at "one"
  rw [int_eqv]
  refine if_bt ?_ (by rw [h1, h2]; simp)
  refine WE_CallB hP (WEs_cons ?_)
  refine WE_LC (fun _ j us σ => ∃ (bs : List Bool) (f g : Int → Option Int), us = (bs.map PyData.bool).map V.d ∧ (L0.isSome = true → bs.all id = (nxt L0 (pss.take j).flatten).isSome) ∧ Mp (nxt L0 (pss.take j).flatten) f g ∧
    σ = [(L, .ns [("ones", .d (.tuple xs)), ("others", .d (.tuple ys))]), (L + 1, .cell (some (.p i m))), (m, .im g), (i, .im f)]) ?_
  refine WI_zip false hP rm ?_
  repeat walk_at "one"
  refine ⟨_, _, rfl, ⟨_, ⟨[], f, g, rfl, ?_, ?_, rfl⟩, by walk_at "sees"⟩, by rw [zipV_len]; omega, ?_, ?_⟩
  · intro h; simp only [List.take_zero, List.flatten_nil, hM.nil, h]; rfl
  · simp only [List.take_zero, List.flatten_nil, hM.nil]; exact hM
  · rintro C D j x us _ hx hl ⟨bs, f, g, rfl, hb, hM, rfl⟩
    obtain ⟨a, b, ha, hb', rfl⟩ := zipV_get hx
    have hj : j < pss.length := by have := (List.getElem?_eq_some_iff.mp ha).1; omega
    have hps : pss[j]? = some pss[j] := List.getElem?_eq_getElem hj
    have hnx : nxt L0 (pss.take (j + 1)).flatten = nxt (nxt L0 (pss.take j).flatten) pss[j] := by
      rw [nxt_app, take_succ' hps, List.flatten_append]; simp
    repeat walk_at "one"
    refine WTs_nil (if_t (WE_CallF hP ?_))
    repeat walk_at "one"
    refine (hv j a b pss[j] ha hb' hps i m _ _ ⟨f, g, rfl, hM⟩).use rm (.r (.r (.r (.r (.l (.l .nil)))))) fun v os' hv' => ?_
    obtain ⟨c, rfl, hc, f', g', rfl, hM'⟩ := hv'
    refine ⟨_, ⟨bs ++ [c], f', g', by simp, fun h => ?_, ?_, rfl⟩, ?_⟩
    · rw [hnx, List.all_append]
      have hb := hb h
      cases q : nxt L0 (pss.take j).flatten with
      | none => rw [q] at hb; rw [hb]; rfl
      | some L1 =>
        rw [q] at hb hc
        rw [hb, hc rfl]; simp
    · rw [hnx]; exact hM'
    · refine Sees.trans (Sees.perm List.perm_append_comm) ?_
      simp only [List.cons_append, List.nil_append]
      walk_at "sees"
  · rintro us _ ⟨bs, f, g, rfl, hb, hM, rfl⟩
    have hz : (zipV xs ys).length = pss.length := by rw [zipV_len]; omega
    rw [hz, List.take_length] at hb hM
    refine ⟨_, .vd _, ?_⟩
    repeat walk_at "one"
    refine all_bools rm ?_
    exact ⟨_, rfl, _, ⟨_, rfl, hb, f, g, rfl, hM⟩, Vw.sees (.drop (.drop (.same (.same .nil))))⟩
end
-- P12
section
theorem Ref.le {G : Cx} {n m : Nat} {f : Addr} {args : List V} {ps : List (Lf × Lf)} (h : Ref G n f args ps) (hm : n ≤ m) : Ref G m f args ps := fun i m' L0 os hs A rm => h i m' L0 os hs A (rm.le hm)
/-- the leaves that two values lay one beside the other -/
def vps : Vl → Vl → List (Lf × Lf)
  | .one u, .one v => [(u, v)]
  | .two a b, .two c d => [(a, c), (b, d)]
  | _, _ => []
def shp : Vl → Vl → Bool
  | .one _, .one _ => true
  | .two _ _, .two _ _ => true
  | _, _ => false
theorem vl_ok {G : Cx} (P : Pk G) (x y : Vl) (hs : shp x y = true) : Ref G 5 (P.a 3) [.d x.py, .d y.py] (vps x y) := by
  cases x with
  | one u =>
    cases y with
    | one v => exact (leafv_ok P u v).le (by decide)
    | two _ _ => cases hs
  | two a b =>
    cases y with
    | one v => cases hs
    | two c d =>
      intro i m L0 os hst
      have hm := many_ok P 3 [a.py, b.py] [c.py, d.py] [[(a, c)], [(b, d)]] rfl rfl (by simp) (fun j x y ps hx hy hps => by
        match j with
        | 0 => simp at hx hy hps; subst hx hy hps; exact leafv_ok P a c
        | 1 => simp at hx hy hps; subst hx hy hps; exact leafv_ok P b d
        | j + 2 => simp at hx) i m L0 os hst
      obtain ⟨f, g, rfl, hM⟩ := hst
      refine Fn.intro ["one", "other", "pairs"] P.T (P.hf "is_refined_value" 3 rfl).2 (by walk_at "bind3") rfl (by decide) (by decide) ?_
      intro A L rm
      let hP : Pg G := P.toPg
      show WSs G A _ [(L, .ns [("one", .d (.tuple [a.py, b.py])), ("other", .d (.tuple [c.py, d.py])), ("pairs", .p i m)]), (m, .im g), (i, .im f)] _ _
      refine WSs_cons ?_
      repeat walk_at "one"
      refine if_bf ?_ rfl
      repeat walk_at "one"
      refine if_bf ?_ rfl
      repeat walk_at "one"
      refine if_bf ?_ (by cases a <;> rfl)
      refine WSs_nil (Kx_next (WSs_cons (WS_Return (WE_and2 ?_))))
      repeat walk_at "one"
      refine if_bt ?_ rfl
      refine WE_CallF hP ?_
      repeat walk_at "one"
      refine hm.use rm (.r (.l (.l .nil))) fun v os' hv => ?_
      exact ⟨_, rfl, _, hv, Sees.drop (List.sublist_append_left _ _)⟩
def vpsA (xs ys : List Vl) : List (Lf × Lf) := ((xs.zip ys).map fun q => vps q.1 q.2).flatten
def shpA (xs ys : List Vl) : Prop := xs.length = ys.length ∧ ∀ q ∈ xs.zip ys, shp q.1 q.2 = true
theorem vls_ok {G : Cx} (P : Pk G) (xs ys : List Vl) (hs : shpA xs ys) (hl : xs.length ≤ 1000) : Ref G 6 (P.a 4) [.d (.tuple (xs.map Vl.py)), .d (.tuple (ys.map Vl.py))] (vpsA xs ys) := by
  obtain ⟨h1, h2⟩ := hs
  refine many_ok P 5 _ _ _ (by simp; omega) (by simp; omega) (by simp; omega) fun j x y ps hx hy hps => ?_
  obtain ⟨u, hu, rfl⟩ := map_get hx
  obtain ⟨v, hv, rfl⟩ := map_get hy
  obtain ⟨⟨u', v'⟩, hq, rfl⟩ := map_get hps
  have := List.getElem?_zip_eq_some.mp hq
  simp only at this
  rw [hu, hv] at this
  obtain ⟨e1, e2⟩ := this
  cases e1; cases e2
  exact vl_ok P u v (h2 _ (List.mem_of_getElem? hq))
end
-- D4
section
/-! readings of two runs, one beside the other -/
def good (ps : List (Lf × Lf)) : Bool := oks ps && cons (prs ps)
theorem nxt_good (ps : List (Lf × Lf)) : (nxt (some []) ps).isSome = good ps := by
  unfold nxt good
  simp only [Option.bind_some, List.nil_append]
  cases (oks ps && cons (prs ps)) <;> rfl
theorem good_sub {ps qs : List (Lf × Lf)} (h : ∀ q ∈ qs, q ∈ ps) (k : good ps = true) : good qs = true := by
  unfold good at k ⊢
  rw [Bool.and_eq_true] at k ⊢
  refine ⟨?_, ?_⟩
  · have := k.1
    unfold oks at this ⊢
    rw [List.all_eq_true] at this ⊢
    exact fun q hq => this q (h q hq)
  · rw [cons_iff]
    have := (cons_iff _).mp k.2
    have sub : ∀ p ∈ prs qs, p ∈ prs ps := fun p hp => by
      unfold prs at hp ⊢
      rw [List.mem_flatMap] at hp ⊢
      obtain ⟨q, hq, hp⟩ := hp
      exact ⟨q, h q hq, hp⟩
    exact fun p hp q hq => this p (sub p hp) q (sub q hq)
theorem zip1 {t : Ty} {g g' : List Lf} (h : t.flat.length ≤ g.length) (h' : t.flat.length ≤ g'.length) : g.zip g' = vps (take1 t g).1 (take1 t g').1 ++ (take1 t g).2.zip (take1 t g').2 ∧ shp (take1 t g).1 (take1 t g').1 = true := by
  cases t with
  | v2 => match g, g', h, h' with
    | x :: y :: r, x' :: y' :: r', _, _ => exact ⟨rfl, rfl⟩
    | [_], _, h, _ => simp [Ty.flat] at h
    | [], _, h, _ => simp [Ty.flat] at h
    | _, [_], _, h => simp [Ty.flat] at h
    | _, [], _, h => simp [Ty.flat] at h
  | i2 => match g, g', h, h' with
    | x :: r, x' :: r', _, _ => exact ⟨rfl, rfl⟩
    | [], _, h, _ => simp [Ty.flat] at h
    | _, [], _, h => simp [Ty.flat] at h
  | ptr => match g, g', h, h' with
    | x :: r, x' :: r', _, _ => exact ⟨rfl, rfl⟩
    | [], _, h, _ => simp [Ty.flat] at h
    | _, [], _, h => simp [Ty.flat] at h
theorem zipN : ∀ {ts : List Ty} {g g' : List Lf}, need ts ≤ g.length → need ts ≤ g'.length → g.zip g' = vpsA (takeN ts g).1 (takeN ts g').1 ++ (takeN ts g).2.zip (takeN ts g').2 ∧ shpA (takeN ts g).1 (takeN ts g').1
  | [], g, g', _, _ => ⟨by simp [takeN, vpsA], rfl, fun q hq => by simp [takeN] at hq⟩
  | t :: ts, g, g', h, h' => by
    rw [need_cons] at h h'
    have l1 := take1_len (t := t) (g := g) (by omega)
    have l2 := take1_len (t := t) (g := g') (by omega)
    have z1 := zip1 (t := t) (g := g) (g' := g') (by omega) (by omega)
    have z2 := zipN (ts := ts) (g := (take1 t g).2) (g' := (take1 t g').2) (by omega) (by omega)
    refine ⟨?_, ?_, ?_⟩
    · rw [z1.1, z2.1]
      simp only [takeN, vpsA, List.zip_cons_cons, List.map_cons, List.flatten_cons, List.append_assoc]
    · simp only [takeN, List.length_cons]; exact congrArg (· + 1) z2.2.1
    · intro q hq
      simp only [takeN, List.zip_cons_cons, List.mem_cons] at hq
      rcases hq with rfl | hq
      · exact z1.2
      · exact z2.2.2 q hq
/-- the leaves of two rows of named values -/
def segP (x y : Str × List Vl) : List (Lf × Lf) := vpsA x.2 y.2
def segsP (xs ys : List (Str × List Vl)) : List (Lf × Lf) := ((xs.zip ys).map fun q => segP q.1 q.2).flatten
theorem segs_small {m : Nat} : ∀ {cs : List Sig} {g : List Lf}, (∀ c ∈ cs, c.2.length ≤ m) → ∀ q ∈ (segs cs g).1, q.2.length ≤ m
  | [], _, _, q, hq => by simp [segs] at hq
  | c :: cs, g, h, q, hq => by
    simp only [segs, List.mem_cons] at hq
    rcases hq with rfl | hq
    · simp only [takeN_num]; exact h c (.head _)
    · exact segs_small (fun x hx => h x (.tail _ hx)) q hq
theorem zipS : ∀ {cs ds : List Sig} {g g' : List Lf}, cs.map (·.2) = ds.map (·.2) → needs cs ≤ g.length → needs cs ≤ g'.length →
    g.zip g' = segsP (segs cs g).1 (segs ds g').1 ++ (segs cs g).2.zip (segs ds g').2 ∧ ∀ q ∈ (segs cs g).1.zip (segs ds g').1, shpA q.1.2 q.2.2
  | [], [], g, g', _, _, _ => ⟨by simp [segs, segsP], fun q hq => by simp [segs] at hq⟩
  | [], _ :: _, _, _, h, _, _ => by simp at h
  | _ :: _, [], _, _, h, _, _ => by simp at h
  | c :: cs, d :: ds, g, g', h, h1, h2 => by
    simp only [List.map_cons, List.cons.injEq] at h
    obtain ⟨hc, h⟩ := h
    rw [needs_cons] at h1 h2
    have l1 := takeN_len (ts := c.2) (g := g) (by omega)
    have l2 := takeN_len (ts := c.2) (g := g') (by omega)
    have z1 := zipN (ts := c.2) (g := g) (g' := g') (by omega) (by omega)
    rw [hc] at l2
    have z2 := zipS (cs := cs) (ds := ds) (g := (takeN c.2 g).2) (g' := (takeN d.2 g').2) h (by omega) (by rw [hc] at h2; omega)
    rw [hc] at z1 z2
    simp only [segs, hc]
    refine ⟨?_, ?_⟩
    · rw [z1.1, z2.1]
      simp only [segsP, segP, List.zip_cons_cons, List.map_cons, List.flatten_cons, List.append_assoc]
    · intro q hq
      simp only [List.zip_cons_cons, List.mem_cons] at hq
      rcases hq with rfl | hq
      · exact z1.2
      · exact z2.2 q hq
/-- two runs of one kin -/
structure Kin (a b : Rn) : Prop where
  res : a.form.res = b.form.res
  calls : a.form.calls.map (·.2) = b.form.calls.map (·.2)
  cells : a.form.cells <+: b.form.cells ∨ b.form.cells <+: a.form.cells
theorem Kin.symm {a b : Rn} (h : Kin a b) : Kin b a := ⟨h.res.symm, h.calls.symm, h.cells.symm⟩
theorem needs_map {cs ds : List Sig} (h : cs.map (·.2) = ds.map (·.2)) : needs cs = needs ds := by
  unfold needs
  rw [List.flatMap_def, List.flatMap_def, h]
structure KD (a b : Rn) (cm x y : List Sig) (hc hc' hx hy : List (Str × List Vl)) : Prop where
  ca : a.form.cells = cm ++ x
  cb : b.form.cells = cm ++ y
  xy : x = [] ∨ y = []
  ha : a.bt.held = hc ++ hx
  hb : b.bt.held = hc' ++ hy
  k1 : hc.map (·.1) = cm.map (·.1)
  k2 : hc'.map (·.1) = cm.map (·.1)
  k3 : hx.map (·.1) = x.map (·.1)
  k4 : hy.map (·.1) = y.map (·.1)
  sF : shp a.bt.first b.bt.first = true
  sT : ∀ q ∈ a.bt.trace.zip b.bt.trace, shpA q.1.2 q.2.2
  sH : ∀ q ∈ hc.zip hc', shpA q.1.2 q.2.2
  t1 : a.bt.trace.map (·.1) = a.form.calls.map (·.1)
  t2 : b.bt.trace.map (·.1) = b.form.calls.map (·.1)
  tl : a.bt.trace.length = b.bt.trace.length
  lT : ∀ q ∈ a.bt.trace, q.2.length ≤ 2
  lH : ∀ q ∈ hc, q.2.length ≤ 2
  whole : x = [] → a.gr.zip b.gr = vps a.bt.first b.bt.first ++ (segsP a.bt.trace b.bt.trace ++ segsP hc hc')
theorem kin_data {a b : Rn} (ha : a.wf) (hb : b.wf) (k : Kin a b) : ∃ cm x y hc hc' hx hy, KD a b cm x y hc hc' hx hy := by
  obtain ⟨cm, x, y, e1, e2, hxy⟩ : ∃ cm x y, a.form.cells = cm ++ x ∧ b.form.cells = cm ++ y ∧ (x = [] ∨ y = []) := by
    rcases k.cells with ⟨y, h⟩ | ⟨x, h⟩
    · exact ⟨a.form.cells, [], y, by simp, h.symm, .inl rfl⟩
    · exact ⟨b.form.cells, x, [], h.symm, by simp, .inr rfl⟩
  have la := ha.len
  have lb := hb.len
  rw [types_len] at la lb
  have hres := k.res
  have hcl := needs_map k.calls
  have z1 := zip1 (t := a.form.res) (g := a.gr) (g' := b.gr) (by omega) (by rw [hres]; omega)
  have l1 := take1_len (t := a.form.res) (g := a.gr) (by omega)
  have l1' := take1_len (t := a.form.res) (g := b.gr) (by rw [hres]; omega)
  have z2 := zipS (cs := a.form.calls) (ds := b.form.calls) (g := (take1 a.form.res a.gr).2) (g' := (take1 a.form.res b.gr).2) k.calls (by omega) (by rw [hres] at l1' ⊢; omega)
  have l2 := segs_len (cs := a.form.calls) (g := (take1 a.form.res a.gr).2) (by omega)
  have l2' := segs_len (cs := b.form.calls) (g := (take1 a.form.res b.gr).2) (by rw [hres] at l1' ⊢; omega)
  have ec : needs a.form.cells = needs cm + needs x := by rw [e1, needs_app]
  have ec' : needs b.form.cells = needs cm + needs y := by rw [e2, needs_app]
  have hres' : a.form.res.flat.length = b.form.res.flat.length := by rw [hres]
  have z3 := zipS (cs := cm) (ds := cm) (g := (segs a.form.calls (take1 a.form.res a.gr).2).2) (g' := (segs b.form.calls (take1 a.form.res b.gr).2).2) rfl (by omega) (by omega)
  have l3 := segs_len (cs := cm) (g := (segs a.form.calls (take1 a.form.res a.gr).2).2) (by omega)
  have ba : a.bt = ⟨(take1 a.form.res a.gr).1, (segs a.form.calls (take1 a.form.res a.gr).2).1, (segs a.form.cells (segs a.form.calls (take1 a.form.res a.gr).2).2).1⟩ := rfl
  have bb : b.bt = ⟨(take1 a.form.res b.gr).1, (segs b.form.calls (take1 a.form.res b.gr).2).1, (segs b.form.cells (segs b.form.calls (take1 a.form.res b.gr).2).2).1⟩ := by rw [hres]; rfl
  have n1 := segs_keys a.form.calls (take1 a.form.res a.gr).2
  have n2 := segs_keys b.form.calls (take1 a.form.res b.gr).2
  have sm1 := segs_small (m := 2) (cs := a.form.calls) (g := (take1 a.form.res a.gr).2) fun c hc => (ha.k c (List.mem_append_left _ hc)).2
  have sm2 := segs_small (m := 2) (cs := cm) (g := (segs a.form.calls (take1 a.form.res a.gr).2).2) fun c hc => (ha.k c (List.mem_append_right _ (by rw [e1]; exact List.mem_append_left _ hc))).2
  generalize take1 a.form.res a.gr = q1 at *
  generalize take1 a.form.res b.gr = q1' at *
  generalize segs a.form.calls q1.2 = q2 at *
  generalize segs b.form.calls q1'.2 = q2' at *
  refine ⟨cm, x, y, (segs cm q2.2).1, (segs cm q2'.2).1, (segs x (segs cm q2.2).2).1, (segs y (segs cm q2'.2).2).1, e1, e2, hxy, ?_, ?_, segs_keys _ _, segs_keys _ _, segs_keys _ _, segs_keys _ _, ?_, ?_, z3.2, ?_, ?_, ?_, ?_, sm2, ?_⟩
  · rw [ba, e1, segs_app]
  · rw [bb, e2, segs_app]
  · rw [ba, bb]; exact z1.2
  · rw [ba, bb]; exact z2.2
  · rw [ba]; exact n1
  · rw [bb]; exact n2
  · rw [ba, bb]
    have := congrArg List.length k.calls
    have h1 := congrArg List.length n1
    have h2 := congrArg List.length n2
    simp only [List.length_map] at this h1 h2
    show q2.1.length = q2'.1.length
    omega
  · rw [ba]; exact sm1
  · intro hx
    subst hx
    rw [ba, bb, z1.1, z2.1, z3.1]
    have : (segs cm q2.2).2 = [] := by
      apply List.eq_nil_of_length_eq_zero
      simp only [needs, need, List.flatMap_nil, List.length_nil] at ec
      have ec : needs a.form.cells = needs cm := by simpa [needs, need] using ec
      omega
    rw [this]; simp
end
-- P13
section
theorem sub_sdT {G : Cx} {A : Around} {σ : Sg} {K : V → Sg → Prop} {o sl : Expr} {kvs : List (Str × PyData)} {k : Str} {u : PyData} (hx : kvs.lookup k = some u) (q : K (.d u) σ)
    (hs : ∀ a t, subscripted sl false (.ref a) (.str k t) = operate [.ref a, .str k t] (getItem (.ref a) (.str k t)) := by intros; with_unfolding_all rfl) : W2 G A σ (VR G) (subscriptTail o sl) (.sd kvs) (.d (.str k)) K := by
  intro Y Z s a b bb ra rb
  cases ra with | @sd ad _ hsys ra => cases rb with | d rb =>
    cases rb with | str _ t =>
      obtain ⟨ks, h1, h2, h3⟩ := ra
      have h1 := h1.at fun o e => bb.sub _ _ e
      have hT : s.TypeIs (.ref ad) "dict" := by
        obtain ⟨o, _, _, ho, hc, _⟩ := h1
        exact ⟨o, ho, hc.1⟩
      rcases rd_unmap h2 h3 k with ⟨_, h⟩ | ⟨v, w, hv, h, hr⟩
      · rw [hx] at h; cases h
      · rw [hx] at h; cases h
        exact tail_any hT slot_dict_getitem.lookup (wpAny_getItem_of (knd := PySem.strKind G.prog G.w) (k := k) (by simp [PySem.strKind, Value.isStrOf]) h1.mapOf hv (po_keep bb ⟨_, _, rfl⟩ rfl (.d hr) q)) (hs _ _)
theorem bv_value {r : Rn} (h : r.word = "value") : r.bv = .vt [.d (.str "value"), .d r.bt.first.py, .d (.tuple (r.bt.trace.map segPy)), .sd (r.bt.held.map heldPy)] := by unfold Rn.bv; rw [if_pos h]; rfl
theorem bv_other {r : Rn} (h : ¬ r.word = "value") : r.bv = .d (.tuple [.str r.word, .str "memory"]) := by unfold Rn.bv; rw [if_neg h]
theorem lookup_app {kvs : List (Str × PyData)} {k : Str} : ∀ {l : List (Str × List Vl)}, k ∉ l.map (·.1) → (l.map heldPy ++ kvs).lookup k = kvs.lookup k
  | [], _ => rfl
  | q :: r, h => by
    rw [List.map_cons, List.mem_cons] at h
    rw [List.map_cons, List.cons_append, List.lookup_cons]
    have e : (k == (heldPy q).1) = false := by simpa [heldPy] using fun e => h (.inl e)
    rw [e]
    exact lookup_app fun hm => h (.inr hm)
theorem lookup_held {k : Str} : ∀ {l : List (Str × List Vl)}, k ∉ l.map (·.1) → (l.map heldPy).lookup k = none
  | l, h => by have := lookup_app (kvs := []) h; rwa [List.append_nil] at this
theorem lookup_at {l hx : List (Str × List Vl)} {j : Nat} {q : Str × List Vl} (nd : (l.map (·.1)).Nodup) (h : l[j]? = some q) : ((l ++ hx).map heldPy).lookup q.1 = some (.tuple (q.2.map Vl.py)) := by
  obtain ⟨pre, post, rfl, _⟩ : ∃ pre post, l = pre ++ q :: post ∧ pre.length = j := by
    have hj := (List.getElem?_eq_some_iff.mp h).1
    refine ⟨l.take j, l.drop (j + 1), ?_, by simp; omega⟩
    have := (List.getElem?_eq_some_iff.mp h).2
    rw [← this, List.getElem_cons_drop, List.take_append_drop]
  rw [List.map_append, List.nodup_append] at nd
  have hn : q.1 ∉ pre.map (·.1) := fun hm => nd.2.2 _ hm q.1 (by simp) rfl
  rw [List.append_assoc, List.map_append, lookup_app hn, List.cons_append, List.map_cons, List.lookup_cons]
  simp [heldPy]
theorem ms_same {a b : Rn} (h1 : a.word = "value") (h2 : b.word = "value") (h : a.same b = false) : ms a b = false := by simp [ms, h1, h2, h]
theorem good_false {ps qs : List (Lf × Lf)} (h : ∀ q ∈ qs, q ∈ ps) (k : good qs = false) : good ps = false := by
  cases hp : good ps with
  | false => rfl
  | true => rw [good_sub h hp] at k; cases k
theorem Ref.use {G : Cx} {A : Around} {n k : Nat} {f : Addr} {args : List V} {ps : List (Lf × Lf)} {i m : Addr} {L0 : Option (List (Int × Int))} {ft gt : Int → Option Int} {rest σ : Sg} {K : V → Sg → Prop} (h : Ref G n f args ps) (hM : Mp L0 ft gt) (r : Room k A) (hs : Split [(m, MO.im gt), (i, MO.im ft)] rest σ)
    (kk : ∀ c f' g', (L0.isSome = true → c = (nxt L0 ps).isSome) → Mp (nxt L0 ps) f' g' → K (.d (.bool c)) ((m, .im g') :: (i, .im f') :: rest)) (hn : n ≤ k := by omega) : Wn G A σ (VR G) (cl (.ref f)) (args ++ [.p i m]) K := by
  refine (h i m L0 _ ⟨ft, gt, rfl, hM⟩).use r hs (fun v os' hv => ?_) hn
  obtain ⟨c, rfl, hc, f', g', rfl, hM'⟩ := hv
  exact kk c f' g' hc hM'
theorem find_nodup {α : Type} {k : α → Str} : ∀ {l : List α} {t : Nat} {q : α}, (l.map k).Nodup → l[t]? = some q → l.find? (fun p => decide (k p = k q)) = some q
  | [], t, q, _, h => by simp at h
  | a :: r, 0, q, _, h => by simp at h; subst h; simp
  | a :: r, t + 1, q, nd, h => by
    rw [List.map_cons, List.nodup_cons] at nd
    simp only [List.getElem?_cons_succ] at h
    have hne : ¬ k a = k q := fun e => nd.1 (e ▸ List.mem_map_of_mem (List.mem_of_getElem? h))
    rw [List.find?_cons]
    simp only [hne, decide_false]
    exact find_nodup nd.2 h
theorem refined_ok {G : Cx} (P : Pk G) (a b : Rn) (ha : a.wf) (hb : b.wf) (kin : Kin a b) : Fn G 8 (P.a 5) [] [a.bv, b.bv] fun v os => v = .d (.bool (ms a b)) ∧ os = [] := by
  refine Fn.intro ["one", "other"] P.T (P.hf "is_refined" 5 rfl).2 (by walk_at "bind2") rfl (by decide) (by decide) ?_
  intro A L rm
  let hP : Pg G := P.toPg
  show WSs G A _ [(L, .ns [("one", a.bv), ("other", b.bv)])] _ _
  by_cases h1 : a.word = "value"
  · rw [bv_value h1]
    refine WSs_cons ?_
    repeat walk_at "one"
    refine if_bf ?_ (by decide +kernel)
    refine WSs_nil (Kx_next (WSs_cons (WS_Assign (WE_NewP P (rm.le (by decide)) fun i m => ?_))))
    repeat walk_at "one"
    by_cases h2 : b.word = "value"
    · rw [bv_value h2]
      repeat walk_at "one"
      refine if_bf ?_ (by decide +kernel)
      obtain ⟨cm, x, y, hc, hc', hx, hy, D⟩ := kin_data ha hb kin
      have hms : ms a b = (a.same b && good (a.gr.zip b.gr)) := by rw [ms, if_pos ⟨h1, h2⟩]; rfl
      have F3 : x ≠ [] → ms a b = false := fun hne => ms_same h1 h2 (by
        have : ¬ b.form.cells.take a.form.cells.length = a.form.cells := by
          have hy0 : y = [] := D.xy.resolve_left hne
          rw [D.ca, D.cb, hy0]
          intro e
          have h3 := congrArg List.length e
          have h4 := List.length_pos_iff.mpr hne
          rw [List.append_nil, List.length_take, List.length_append] at h3
          omega
        simp [Rn.same, this])
      have F1 : good (vps a.bt.first b.bt.first ++ (segsP a.bt.trace b.bt.trace ++ segsP hc hc')) = false → ms a b = false := fun hg => by
        by_cases hx0 : x = []
        · rw [hms, D.whole hx0, hg, Bool.and_false]
        · exact F3 hx0
      have F2 : a.form.calls ≠ b.form.calls → ms a b = false := fun hne => ms_same h1 h2 (by simp [Rn.same, hne])
      have FT : x = [] → a.form.calls = b.form.calls → good (vps a.bt.first b.bt.first ++ (segsP a.bt.trace b.bt.trace ++ segsP hc hc')) = true → ms a b = true := fun hx0 hcl hg => by
        rw [hms, D.whole hx0, hg, Bool.and_true]
        have : b.form.cells.take a.form.cells.length = a.form.cells := by
          rw [D.ca, D.cb, hx0, List.append_nil, List.take_left]
        simp [Rn.same, this, hcl]
      have htn : a.bt.trace.length ≤ 2 := by have := congrArg List.length D.t1; have := ha.c1; simp only [List.length_map] at *; omega
      have htl := D.tl
      have okT : ∀ q ∈ a.bt.trace, Ok (.str q.1) := fun q hq => by
        have : q.1 ∈ a.form.calls.map (·.1) := by rw [← D.t1]; exact List.mem_map_of_mem hq
        obtain ⟨c, hc, e⟩ := List.mem_map.mp this
        exact (OkN.str (n := 0) (e ▸ (ha.k c (List.mem_append_left _ hc)).1)).ok
      have okT' : ∀ q ∈ b.bt.trace, Ok (.str q.1) := fun q hq => by
        have : q.1 ∈ b.form.calls.map (·.1) := by rw [← D.t2]; exact List.mem_map_of_mem hq
        obtain ⟨c, hc, e⟩ := List.mem_map.mp this
        exact (OkN.str (n := 0) (e ▸ (hb.k c (List.mem_append_left _ hc)).1)).ok
      have calls_ne : ∀ (j : Nat) (u v : Str × List Vl), a.bt.trace[j]? = some u → b.bt.trace[j]? = some v → ¬ u.1 = v.1 → a.form.calls ≠ b.form.calls := fun j u v hu hv hne e => by
        have e1 : (a.bt.trace.map (·.1))[j]? = some u.1 := by rw [List.getElem?_map, hu]; rfl
        have e2 : (b.bt.trace.map (·.1))[j]? = some v.1 := by rw [List.getElem?_map, hv]; rfl
        rw [D.t1, e, ← D.t2, e2] at e1
        exact hne (Option.some.inj e1).symm
      have calls_eq : (∀ (j : Nat) (u v : Str × List Vl), a.bt.trace[j]? = some u → b.bt.trace[j]? = some v → u.1 = v.1) → a.form.calls = b.form.calls := fun h => by
        have n1 : a.form.calls.map (·.1) = b.form.calls.map (·.1) := by
          rw [← D.t1, ← D.t2]
          refine List.ext_getElem? fun j => ?_
          rw [List.getElem?_map, List.getElem?_map]
          cases hu : a.bt.trace[j]? with
          | none =>
            have : b.bt.trace[j]? = none := by rw [List.getElem?_eq_none_iff] at hu ⊢; omega
            rw [this]
          | some u =>
            have hj := (List.getElem?_eq_some_iff.mp hu).1
            have hv : b.bt.trace[j]? = some (b.bt.trace[j]'(by omega)) := List.getElem?_eq_getElem (by omega)
            rw [hv]; simp only [Option.map_some]; rw [h j u _ hu hv]
        have n2 := kin.calls
        have : ∀ l l' : List Sig, l.map (·.1) = l'.map (·.1) → l.map (·.2) = l'.map (·.2) → l = l' := by
          intro l
          induction l with
          | nil => intro l' h _; cases l' with | nil => rfl | cons _ _ => simp at h
          | cons q l ih =>
            intro l' h h'
            cases l' with
            | nil => simp at h
            | cons q' l' =>
              simp only [List.map_cons, List.cons.injEq] at h h'
              rw [ih l' h.2 h'.2, Prod.ext h.1 h'.1]
        exact this _ _ n1 n2
      have keysA : a.bt.held.map (·.1) = a.form.cells.map (·.1) := by rw [D.ha, D.ca, List.map_append, List.map_append, D.k1, D.k3]
      have ndA := ha.nd
      rw [D.ca, List.map_append] at ndA
      have ndc := (List.nodup_append.mp ndA).1
      have nd1 : (hc.map (·.1)).Nodup := by rw [D.k1]; exact ndc
      have nd2 : (hc'.map (·.1)).Nodup := by rw [D.k2]; exact ndc
      have hheld : a.bt.held.length < 64 := by have := congrArg List.length keysA; have := ha.c2; simp only [List.length_map] at *; omega
      generalize ha_t : a.bt.trace = tr at *
      generalize hb_t : b.bt.trace = tr' at *
      generalize ha_f : a.bt.first = fi at *
      generalize hb_f : b.bt.first = fi' at *
      have sF : shp fi fi' = true := by rw [← ha_f, ← hb_f]; exact D.sF
      have sT : ∀ q ∈ tr.zip tr', shpA q.1.2 q.2.2 := by rw [← ha_t, ← hb_t]; exact D.sT
      have lT : ∀ q ∈ tr, q.2.length ≤ 2 := by rw [← ha_t]; exact D.lT
      rw [D.ha, D.hb]
      have hheld2 : (hc ++ hx).length < 64 := by rw [← D.ha]; exact hheld
      have keysA2 : ∀ nm, nm ∈ ((hc ++ hx).map heldPy).map (·.1) → nm ∈ cm.map (·.1) ∨ nm ∈ x.map (·.1) := fun nm h => by
        rw [List.map_map, show ((fun q : Str × PyData => q.1) ∘ heldPy) = fun q => q.1 from rfl, List.map_append, D.k1, D.k3] at h
        exact List.mem_append.mp h
      have keysA3 : ∀ nm, (nm ∈ cm.map (·.1) ∨ nm ∈ x.map (·.1)) → nm ∈ ((hc ++ hx).map heldPy).map (·.1) := fun nm h => by
        rw [List.map_map, show ((fun q : Str × PyData => q.1) ∘ heldPy) = fun q => q.1 from rfl, List.map_append, D.k1, D.k3]
        exact List.mem_append.mpr h
      refine WA_or (WT_Not (WT_val ?_))
      repeat walk_at "one"
      have hM0 : Mp (some []) (fun _ => none) (fun _ => none) := ⟨fun a b => by simp, fun a b => by simp⟩
      refine (vl_ok P fi fi' sF).use hM0 rm (.l (.l (.r .nil))) fun c f g hc1 hM => ?_
      have hc1 := hc1 rfl
      rw [nxt_good] at hc1
      refine ⟨_, rfl, ?_⟩
      cases c with
      | false =>
        refine if_bt ?_ rfl
        repeat walk_at "one"
        exact ⟨_, ⟨by rw [F1 (good_false (qs := vps fi fi') (fun q hq => List.mem_append_left _ hq) hc1.symm)], rfl⟩, Sees.drop (List.nil_sublist _)⟩
      | true =>
        refine if_bf ?_ rfl
        repeat walk_at "one"
        refine if_bf ?_ (by rw [int_eqv]; simp [htl])
        repeat walk_at "one"
        refine WS_ForR (fun v => v = .d (.bool false) ∧ ms a b = false) (fun _ j σ => ∃ (f g : Int → Option Int), Mp (nxt (some []) (vps fi fi' ++ ((tr.zip tr').take j |>.map fun q => segP q.1 q.2).flatten)) f g ∧ good (vps fi fi' ++ ((tr.zip tr').take j |>.map fun q => segP q.1 q.2).flatten) = true ∧ (∀ (t : Nat) (u v : Str × List Vl), t < j → tr[t]? = some u → tr'[t]? = some v → u.1 = v.1) ∧
          σ = [(m, .im g), (i, .im f), (L, .ns [("pairs", .p i m), ("one", V.vt [V.d (.str "value"), V.d fi.py, V.d (.tuple (tr.map segPy)), V.sd ((hc ++ hx).map heldPy)]), ("other", V.vt [V.d (.str "value"), V.d fi'.py, V.d (.tuple (tr'.map segPy)), V.sd ((hc' ++ hy).map heldPy)])])]) ?_
        refine WI_zip false hP rm ?_
        repeat walk_at "one"
        refine ⟨_, _, rfl, ⟨_, ⟨f, g, ?_, ?_, fun t u v h => absurd h (Nat.not_lt_zero _), rfl⟩, by walk_at "sees"⟩, ?_, ?_, ?_⟩
        · simpa using hM
        · simpa using hc1.symm
        · rintro j x0 _ hx0 ⟨f, g, hM, hg, hnm, rfl⟩
          obtain ⟨pu, pv, hpu, hpv, rfl⟩ := zipV_get hx0
          obtain ⟨u, hu, rfl⟩ := map_get hpu
          obtain ⟨v, hv, rfl⟩ := map_get hpv
          have hz : (tr.zip tr')[j]? = some (u, v) := List.getElem?_zip_eq_some.mpr ⟨hu, hv⟩
          have acc1 : vps fi fi' ++ ((tr.zip tr').take (j + 1) |>.map fun q => segP q.1 q.2).flatten = (vps fi fi' ++ ((tr.zip tr').take j |>.map fun q => segP q.1 q.2).flatten) ++ segP u v := by
            rw [take_succ' hz, List.map_append, List.flatten_append]; simp
          have accsub : ∀ q ∈ vps fi fi' ++ ((tr.zip tr').take (j + 1) |>.map fun q => segP q.1 q.2).flatten, q ∈ vps fi fi' ++ (segsP tr tr' ++ segsP hc hc') := fun q hq => by
            rcases List.mem_append.mp hq with hq | hq
            · exact List.mem_append_left _ hq
            · refine List.mem_append_right _ (List.mem_append_left _ ?_)
              obtain ⟨l, hl, hq⟩ := List.mem_flatten.mp hq
              obtain ⟨w, hw, rfl⟩ := List.mem_map.mp hl
              exact List.mem_flatten.mpr ⟨_, List.mem_map.mpr ⟨w, List.mem_of_mem_take hw, rfl⟩, hq⟩
          have oku := okT u (List.mem_of_getElem? hu)
          have okv := okT' v (List.mem_of_getElem? hv)
          rw [acc1] at accsub ⊢
          generalize vps fi fi' ++ ((tr.zip tr').take j |>.map fun q => segP q.1 q.2).flatten = acc at hM hg accsub ⊢
          unfold segPy
          repeat walk_at "one"
          rw [str_eqv]
          by_cases hn : u.1 = v.1
          · refine if_bf ?_ (by simpa using hn)
            refine WA_or (WT_Not (WT_val ?_))
            repeat walk_at "one"
            refine (vls_ok P u.2 v.2 (sT (u, v) (List.mem_of_getElem? hz)) (Nat.le_trans (lT u (List.mem_of_getElem? hu)) (by decide))).use hM rm (.l (.l (.r .nil))) fun c f' g' hc2 hM2 => ?_
            have hc2 := hc2 (by rw [nxt_good]; exact hg)
            rw [nxt_app] at hc2 hM2
            rw [nxt_good] at hc2
            refine ⟨_, rfl, ?_⟩
            cases c with
            | false =>
              refine if_bt ?_ rfl
              repeat walk_at "one"
              exact FoR_ret ⟨rfl, F1 (good_false accsub hc2.symm)⟩
            | true =>
              refine if_bf ?_ rfl
              repeat walk_at "one"
              refine FoR_next ⟨f', g', hM2, hc2.symm, fun t u' v' ht hu' hv' => ?_, rfl⟩ (by walk_at "sees")
              rcases Nat.lt_succ_iff_lt_or_eq.mp ht with ht | rfl
              · exact hnm t u' v' ht hu' hv'
              · rw [hu] at hu'; rw [hv] at hv'; cases hu'; cases hv'; exact hn
          · refine if_bt ?_ (by simpa using hn)
            repeat walk_at "one"
            exact FoR_ret ⟨rfl, F2 (calls_ne j u v hu hv hn)⟩
        · rintro v σ2 ⟨rfl, e⟩
          exact ⟨_, rfl, _, ⟨by rw [e], rfl⟩, Sees.drop (List.nil_sublist _)⟩
        · rintro _ ⟨f, g, hM, hg, hnm, rfl⟩
          have hzl : (zipV (tr.map segPy) (tr'.map segPy)).length = (tr.zip tr').length := by rw [zipV_len]; simp
          rw [hzl, List.take_length] at hM hg
          have hcl := calls_eq fun t u v hu hv => hnm t u v (by rw [hzl, List.length_zip]; have := (List.getElem?_eq_some_iff.mp hu).1; omega) hu hv
          change Mp (nxt (some []) (vps fi fi' ++ segsP tr tr')) f g at hM
          change good (vps fi fi' ++ segsP tr tr') = true at hg
          let pn : Str → List (Lf × Lf) := fun nm => match (hc.zip hc').find? (fun q => q.1.1 = nm) with | some q => segP q.1 q.2 | none => []
          have pn_at : ∀ (t : Nat) (u v : Str × List Vl), hc[t]? = some u → hc'[t]? = some v → pn u.1 = segP u v := by
            intro t u v hu hv
            have hz : (hc.zip hc')[t]? = some (u, v) := List.getElem?_zip_eq_some.mpr ⟨hu, hv⟩
            have hll : hc.length = hc'.length := by have e1 := congrArg List.length D.k1; have e2 := congrArg List.length D.k2; simp only [List.length_map] at e1 e2; omega
            have hm : (hc.zip hc').map (fun q => q.1.1) = hc.map (·.1) := by
              rw [show (fun q : (Str × List Vl) × (Str × List Vl) => q.1.1) = (fun q => q.1) ∘ Prod.fst from rfl, ← List.map_map, List.map_fst_zip (by omega)]
            have := find_nodup (k := fun q : (Str × List Vl) × (Str × List Vl) => q.1.1) (by rw [hm]; exact nd1) hz
            show (match (hc.zip hc').find? (fun q => q.1.1 = u.1) with | some q => segP q.1 q.2 | none => []) = _
            rw [this]
          have pn_sub : ∀ nm, ∀ q ∈ pn nm, q ∈ segsP hc hc' := by
            intro nm q hq
            have hq : q ∈ (match (hc.zip hc').find? (fun q => q.1.1 = nm) with | some q => segP q.1 q.2 | none => []) := hq
            cases hf : (hc.zip hc').find? (fun q => q.1.1 = nm) with
            | none => rw [hf] at hq; cases hq
            | some w =>
              rw [hf] at hq
              exact List.mem_flatten.mpr ⟨_, List.mem_map.mpr ⟨w, List.mem_of_find?_eq_some hf, rfl⟩, hq⟩
          refine Kx_next (WSs_cons (WS_ForR (fun v => v = .d (.bool false) ∧ ms a b = false) (fun xs j σ => ∃ (ss : List Str) (f g : Int → Option Int), xs = (ss.map PyData.str).map V.d ∧ ss.Perm (((hc ++ hx).map heldPy).map (·.1)) ∧ Mp (nxt (some []) (vps fi fi' ++ segsP tr tr' ++ ((ss.take j).map pn).flatten)) f g ∧ good (vps fi fi' ++ segsP tr tr' ++ ((ss.take j).map pn).flatten) = true ∧ (∀ nm ∈ ss.take j, nm ∈ cm.map (·.1)) ∧
            σ = [(m, .im g), (i, .im f), (L, .ns [("pairs", .p i m), ("one", V.vt [V.d (.str "value"), V.d fi.py, V.d (.tuple (tr.map segPy)), V.sd ((hc ++ hx).map heldPy)]), ("other", V.vt [V.d (.str "value"), V.d fi'.py, V.d (.tuple (tr'.map segPy)), V.sd ((hc' ++ hy).map heldPy)])])]) ?_))
          refine WI_val rm (WE_CallB hP ?_)
          repeat walk_at "one"
          refine sorted_sd rm (by simpa using hheld2) fun ss hperm _ => ?_
          refine ⟨_, Seqs.l _, ⟨_, ⟨ss, f, g, rfl, hperm, by simpa using hM, by simpa using hg, fun nm h => by simp at h, rfl⟩, by walk_at "sees"⟩, ?_, ?_, ?_⟩
          · rintro j x0 _ hx0 ⟨ss, f, g, hxs, hperm, hM, hg, hnm, rfl⟩
            rw [hxs] at hx0
            obtain ⟨w, hw, rfl⟩ := map_get hx0
            obtain ⟨nm, hnj, rfl⟩ := map_get hw
            have hmem : nm ∈ ((hc ++ hx).map heldPy).map (·.1) := hperm.mem_iff.mp (List.mem_of_getElem? hnj)
            have acc1 : vps fi fi' ++ segsP tr tr' ++ ((ss.take (j + 1)).map pn).flatten = (vps fi fi' ++ segsP tr tr' ++ ((ss.take j).map pn).flatten) ++ pn nm := by
              rw [take_succ' hnj, List.map_append, List.flatten_append]; simp
            have accsub : ∀ q ∈ vps fi fi' ++ segsP tr tr' ++ ((ss.take (j + 1)).map pn).flatten, q ∈ vps fi fi' ++ (segsP tr tr' ++ segsP hc hc') := fun q hq => by
              rw [← List.append_assoc]
              rcases List.mem_append.mp hq with hq | hq
              · exact List.mem_append_left _ hq
              · refine List.mem_append_right _ ?_
                obtain ⟨l, hl, hq⟩ := List.mem_flatten.mp hq
                obtain ⟨w, hw, rfl⟩ := List.mem_map.mp hl
                exact pn_sub w q hq
            have hnm2 : nm ∈ cm.map (·.1) → ∀ n' ∈ ss.take (j + 1), n' ∈ cm.map (·.1) := fun hc0 n' hn' => by
              rw [take_succ' hnj] at hn'
              rcases List.mem_append.mp hn' with hn' | hn'
              · exact hnm n' hn'
              · rw [List.mem_singleton.mp hn']; exact hc0
            clear_value pn
            rcases keysA2 nm hmem with hin | hin
            · have h1' : nm ∈ hc.map (·.1) := by rw [D.k1]; exact hin
              obtain ⟨u, hu, rfl⟩ := List.mem_map.mp h1'
              obtain ⟨t, hut⟩ := List.getElem?_of_mem hu
              have htl : t < hc'.length := by
                have e1 := congrArg List.length D.k1; have e2 := congrArg List.length D.k2
                have := (List.getElem?_eq_some_iff.mp hut).1
                simp only [List.length_map] at e1 e2; omega
              have hvt : hc'[t]? = some hc'[t] := List.getElem?_eq_getElem htl
              generalize hc'[t] = v at hvt
              have huv : u.1 = v.1 := by
                have e1 : (hc.map (·.1))[t]? = some u.1 := by rw [List.getElem?_map, hut]; rfl
                have e2 : (hc'.map (·.1))[t]? = some v.1 := by rw [List.getElem?_map, hvt]; rfl
                rw [D.k1, ← D.k2, e2] at e1
                exact (Option.some.inj e1).symm
              have l1 := lookup_at (hx := hx) nd1 hut
              have l2 := lookup_at (hx := hy) nd2 hvt
              rw [← huv] at l2
              have shH := D.sH (u, v) (List.mem_of_getElem? (List.getElem?_zip_eq_some.mpr ⟨hut, hvt⟩))
              have lH := D.lH u hu
              rw [pn_at t u v hut hvt] at acc1
              rw [acc1] at accsub
              have hnm2 := hnm2 hin
              generalize vps fi fi' ++ segsP tr tr' ++ ((ss.take j).map pn).flatten = acc at hM hg accsub acc1
              repeat walk_at "one"
              refine notin_sd ?_
              rw [l2]
              refine ⟨_, rfl, if_bf ?_ rfl⟩
              repeat walk_at "one"
              refine sub_sdT l1 ?_
              repeat walk_at "one"
              refine sub_sdT l2 ?_
              repeat walk_at "one"
              refine (vls_ok P u.2 v.2 shH (Nat.le_trans lH (by decide))).use hM rm (.l (.l (.r .nil))) fun c f' g' hc2 hM2 => ?_
              have hc2 := hc2 (by rw [nxt_good]; exact hg)
              rw [nxt_app] at hc2 hM2
              rw [nxt_good] at hc2
              refine ⟨_, rfl, ?_⟩
              cases c with
              | false =>
                refine if_bt ?_ rfl
                repeat walk_at "one"
                exact FoR_ret ⟨rfl, F1 (good_false accsub hc2.symm)⟩
              | true =>
                refine if_bf ?_ rfl
                repeat walk_at "one"
                exact FoR_next ⟨ss, f', g', hxs, hperm, by rw [acc1]; exact hM2, by rw [acc1]; exact hc2.symm, hnm2, rfl⟩ (by walk_at "sees")
            · have hne : x ≠ [] := fun e => by rw [e] at hin; cases hin
              have hy0 : y = [] := D.xy.resolve_left hne
              have hl : ((hc' ++ hy).map heldPy).lookup nm = none := lookup_held (by
                rw [List.map_append, D.k2, D.k4, hy0, List.map_nil, List.append_nil]
                exact fun hm => (List.nodup_append.mp ndA).2.2 nm hm nm hin rfl)
              repeat walk_at "one"
              refine notin_sd ?_
              rw [hl]
              refine ⟨_, rfl, if_bt ?_ rfl⟩
              repeat walk_at "one"
              exact FoR_ret ⟨rfl, F3 hne⟩
          · rintro v σ2 ⟨rfl, e⟩
            exact ⟨_, rfl, _, ⟨by rw [e], rfl⟩, Sees.drop (List.nil_sublist _)⟩
          · rintro _ ⟨ss, f, g, hxs, hperm, hM, hg, hnm, rfl⟩
            rw [hxs] at hg hnm
            simp only [List.length_map] at hg hnm
            rw [List.take_length] at hg hnm
            have hx0 : x = [] := by
              cases hx1 : x with
              | nil => rfl
              | cons c x' =>
                exfalso
                have hc0 : c.1 ∈ x.map (·.1) := by rw [hx1]; simp
                have := hnm c.1 (hperm.mem_iff.mpr (keysA3 _ (.inr hc0)))
                exact (List.nodup_append.mp ndA).2.2 c.1 this c.1 hc0 rfl
            have hall := FT hx0 hcl (good_sub (fun q hq => by
              rw [← List.append_assoc] at hq
              rcases List.mem_append.mp hq with hq | hq
              · exact List.mem_append_left _ hq
              · refine List.mem_append_right _ ?_
                obtain ⟨l, hl, hq⟩ := List.mem_flatten.mp hq
                obtain ⟨⟨u, v⟩, hw, rfl⟩ := List.mem_map.mp hl
                obtain ⟨t, ht⟩ := List.getElem?_of_mem hw
                obtain ⟨hut, hvt⟩ := List.getElem?_zip_eq_some.mp ht
                refine List.mem_flatten.mpr ⟨pn u.1, List.mem_map.mpr ⟨u.1, hperm.mem_iff.mpr (keysA3 _ (.inl ?_)), rfl⟩, ?_⟩
                · rw [← D.k1]; exact List.mem_map_of_mem (List.mem_of_getElem? hut)
                · rw [pn_at t u v hut hvt]; exact hq) hg)
            repeat walk_at "one"
            exact ⟨_, ⟨by rw [hall], rfl⟩, Sees.drop (List.nil_sublist _)⟩
    · rw [bv_other h2]
      have ok2 : Ok (.str b.word) := (OkN.str (n := 0) hb.w).ok
      repeat walk_at "one"
      refine if_bt ?_ (by rw [str_eqv]; simpa using h2)
      repeat walk_at "one"
      exact ⟨_, ⟨by simp [ms, h1, h2], rfl⟩, Sees.drop (List.nil_sublist _)⟩
  · rw [bv_other h1]
    have ok1 : Ok (.str a.word) := (OkN.str (n := 0) ha.w).ok
    refine WSs_cons ?_
    repeat walk_at "one"
    refine if_bt ?_ (by rw [str_eqv]; simpa using h1)
    repeat walk_at "one"
    exact ⟨_, ⟨by simp [ms, h1], rfl⟩, Sees.drop (List.nil_sublist _)⟩
end
-- P14
section
section
variable {G : Cx} {A : Around} {env : Env} {σ : Sg} {p : Pos}
theorem WE_takeTT {K : V → Sg → Prop} {o u : Expr} {q : Pos} (h : WE G A env σ o fun v σ1 => ∃ xs : List PyData, v = .d (.tuple xs) ∧ xs.length ≤ 100000 ∧ WE G A env σ1 u fun v' σ2 => ∃ k : Int, v' = .d (.int k) ∧ 0 ≤ k ∧ k ≤ xs.length ∧ K (.d (.tuple (xs.take k.toNat))) σ2)
    (hs : ∀ l sl, subscripted (.Slice none (some u) none q) false (.ref l) (.ref sl) = operate [.ref sl, .ref l] (getItem (.ref l) (.ref sl)) := by intros; with_unfolding_all rfl) : WE G A env σ (.Subscript o (.Slice none (some u) none q) p) K := by
  intro Y Z s b
  refine Subscript_ (h.bind b fun Z1 v σ1 a s1 le1 b1 sm1 r1 k1 => ?_)
  obtain ⟨xs, rfl, hl, k1⟩ := k1
  obtain ⟨l, vs, n, rfl, hL, hR⟩ := r1.tup
  refine wpAny_Slice (evalPart_none_step (evalPart_some_step (Wt.bind k1 b1 fun Z2 v' σ2 a2 s2 le2 b2 sm2 r2 k2 => evalPart_none_step ?_)))
  obtain ⟨k, rfl, h0, hk, k2⟩ := k2
  cases r2 with | d r2 => cases r2 with | int _ t =>
    have e1 := rd_length hR
    obtain ⟨kn, rfl⟩ : ∃ kn : Nat, k = kn := ⟨k.toNat, by omega⟩
    have ht0 : IsTup s2.heap l vs.toArray := ⟨_, b2.sub _ _ (le2 _ _ hL), rfl, _, rfl⟩
    have ht' : IsTup (s2.heap.push { cls := .type "slice", data := .fields #[Value.none, .int kn t, .none] }) l vs.toArray := ht0.keeps fun _ _ e => Heap.get?_push_of_some _ e
    refine tail_any (s := { s2 with heap := s2.heap.push { cls := .type "slice", data := .fields #[Value.none, .int kn t, .none] } }) ht'.typeIs slot_tuple_getitem.lookup
      (getItem_tuple_upto ht' (Heap.IsSliceOf.new ..) (by simp; omega) ?_ ?_ (Nat.le_trans (by simp; omega) (show (100000 : Nat) ≤ sizeLine by decide))) (hs _ _)
    · intro hq
      simp at hq
      refine ⟨Z2, _, σ2, fun c o e => le2 c o (le1 c o e), b2.grow (le_push _ _), (sm1.trans sm2).trans ⟨_, _, rfl⟩, .d (.tuple (le2 _ _ hL) ?_), k2⟩
      rw [Int.toNat_natCast, hq, e1, List.take_length]
      exact hR.le le2
    · refine Po.back (fun c o e => le2 c o (le1 c o e)) (sm1.trans sm2) (Po.back (Z1 := Z2) (s1 := { s2 with heap := s2.heap.push _ }) (fun _ _ e => e) ⟨_, _, rfl⟩ (po_new (s := { s2 with heap := s2.heap.push _ }) (tk := s2.toks) (b2.grow (le_push _ _)) (le_push _ _) (fun Z' le fz => ?_) k2))
      exact .d (.tuple (vs := vs.take kn) (n := 0) (fz _ _ (Heap.get?_push_size _ rfl) (Nat.le_refl _)) (rdall_take ((hR.le le2).le le) _))

end
/-- the names that a run's cells bear -/
def cellNames (nb n : Nat) : List Str := ((["a", "b"] : List Str).take nb) ++ (List.range' nb (n - nb)).map fun (i : Nat) => ("z" : Str) ++ (toString (i : Int) : String)
def theCalls : List Str := ["g", "h", "u"]
/-- a run as the law draws it -/
structure Rn.ok (nb : Nat) (k : Nat) (r : Rn) : Prop where
  w : r.word = "value" ∨ r.word = "stop" ∨ r.word = "limit"
  nbv : nb = 1 ∨ nb = 2
  c1 : r.form.calls.length ≤ 2
  cn : ∀ c ∈ r.form.calls, c.1 = "g" ∨ c.1 = "h" ∨ c.1 = "u"
  ck : ∀ c ∈ r.form.calls, c.2.length ≤ 2
  c2 : r.form.cells.length ≤ k
  c3 : nb ≤ r.form.cells.length
  dn : r.form.cells.map (·.1) = cellNames nb r.form.cells.length
  dk : ∀ c ∈ r.form.cells, c.2.length ≤ 2
  len : r.gr.length = r.form.types.length
theorem names_ok : ∀ nb, nb = 1 ∨ nb = 2 → ∀ n, n ≤ 8 → (cellNames nb n).Nodup ∧ ∀ x ∈ cellNames nb n, PyData.strOk x = true := by
  intro nb h n hn
  have : ∀ nb : Fin 3, ∀ n : Fin 9, (cellNames nb.val n.val).Nodup ∧ ∀ x ∈ cellNames nb.val n.val, PyData.strOk x = true := by decide +kernel
  exact this ⟨nb, by omega⟩ ⟨n, by omega⟩
theorem Rn.ok.wf {nb k : Nat} {r : Rn} (h : r.ok nb k) (hk : k ≤ 8) : r.wf := by
  have h2 := h.c2
  have hn := names_ok nb h.nbv r.form.cells.length (by omega)
  refine ⟨?_, h.c1, by omega, fun c hc => ?_, by rw [h.dn]; exact hn.1, h.len⟩
  · rcases h.w with e | e | e <;> rw [e] <;> decide +kernel
  · rcases List.mem_append.mp hc with hc | hc
    · refine ⟨?_, h.ck c hc⟩
      rcases h.cn c hc with e | e | e <;> rw [e] <;> decide +kernel
    · refine ⟨hn.2 c.1 ?_, h.dk c hc⟩
      rw [← h.dn]; exact List.mem_map_of_mem hc
theorem ty_of3 {u : PyData} (h : u ∈ [PyData.str "i2", .str "ptr", .str "v2"]) : ∃ t : Ty, u = t.py := by
  simp only [List.mem_cons, List.not_mem_nil, or_false] at h
  rcases h with rfl | rfl | rfl
  · exact ⟨.i2, rfl⟩
  · exact ⟨.ptr, rfl⟩
  · exact ⟨.v2, rfl⟩
theorem ty_of3' {u : PyData} (h : u ∈ [PyData.str "ptr", .str "i2", .str "v2"]) : ∃ t : Ty, u = t.py := by
  simp only [List.mem_cons, List.not_mem_nil, or_false] at h
  rcases h with rfl | rfl | rfl
  · exact ⟨.ptr, rfl⟩
  · exact ⟨.i2, rfl⟩
  · exact ⟨.v2, rfl⟩
theorem ty_of2 {u : PyData} (h : u ∈ [PyData.str "ptr", .str "i2"]) : ∃ t : Ty, u = t.py := by
  simp only [List.mem_cons, List.not_mem_nil, or_false] at h
  rcases h with rfl | rfl
  · exact ⟨.ptr, rfl⟩
  · exact ⟨.i2, rfl⟩
theorem run_ok {G : Cx} (P : Pg G) (wa : Addr) : Fn G 3 (P.a 11) [(wa, .w)] [.r wa] fun v os => (∃ nb r, v = .d (Rn.py r) ∧ r.ok nb 2) ∧ os = [(wa, .w)] := by
  refine Fn.intro ["well"] P.T (P.hf "_law_run" 11 rfl).2 (by walk_at "bind") rfl (by decide) (by decide) ?_
  intro A L rm
  show WSs G A _ [(L, .ns []), (L + 1, .cell (some (.r wa))), (wa, .w)] _ _
  refine WSs_cons ?_
  repeat walk_at "one"
  refine one_u P rm (by walk_at "mem") fun u hu => ?_
  obtain ⟨res, rfl⟩ := ty_of3 hu
  repeat walk_at "one"
  refine WE_LisM ?_
  repeat walk_at "one"
  intro ac
  repeat walk_at "one"
  refine WS_ForR (fun _ => False) (fun xs i σ => ∃ cs : List Sig, cs.length = i ∧ xs.length ≤ 2 ∧ (∀ c ∈ cs, (c.1 = "g" ∨ c.1 = "h") ∧ c.2.length ≤ 2) ∧ σ = [(ac, .l (cs.map sigPy)), (L, .ns [("result", .d res.py), ("calls", .r ac)]), (L + 1, .cell (some (.r wa))), (wa, .w)]) ?_
  refine WI_range P rm ?_
  repeat walk_at "one"
  refine draw_u P rm (by decide) (by walk_at "mem") fun k h0 h1 => ?_
  repeat walk_at "one"
  refine ⟨h0, by omega, ⟨_, ⟨[], rfl, by rw [rangeV_len]; omega, fun c h => by simp at h, rfl⟩, by walk_at "sees"⟩, ?_, fun v σ2 h => h.elim, ?_⟩
  · rintro i x _ hx ⟨cs, hl, hxl, hcs, rfl⟩
    obtain ⟨hi, rfl⟩ := rangeV_get hx
    repeat walk_at "one"
    refine one_u P rm (by walk_at "mem") fun nm hnm => ?_
    obtain ⟨nm, rfl, hnm'⟩ : ∃ s : Str, nm = .str s ∧ (s = "g" ∨ s = "h") := by
      simp only [List.mem_cons, List.not_mem_nil, or_false] at hnm
      rcases hnm with rfl | rfl
      · exact ⟨_, rfl, .inl rfl⟩
      · exact ⟨_, rfl, .inr rfl⟩
    repeat walk_at "one"
    refine WE_LC (fun xs i us σ => ∃ ks : List Ty, xs.length ≤ 2 ∧ us = (ks.map Ty.py).map V.d ∧ ks.length = i ∧ σ = [(ac, .l (cs.map sigPy)), (L, .ns [("result", .d res.py), ("calls", .r ac)]), (L + 1, .cell (some (.r wa))), (wa, .w)]) ?_
    refine WI_range P rm ?_
    repeat walk_at "one"
    refine draw_u P rm (by decide) (by walk_at "mem") fun k2 h20 h21 => ?_
    repeat walk_at "one"
    refine ⟨by omega, by omega, ⟨_, ⟨[], by rw [rangeV_len]; omega, rfl, rfl, rfl⟩, by walk_at "sees"⟩, by rw [rangeV_len]; omega, ?_, ?_⟩
    · rintro C D j x us _ hx _ ⟨ks, hkl, rfl, hks, rfl⟩
      obtain ⟨hj, rfl⟩ := rangeV_get hx
      repeat walk_at "one"
      refine WTs_nil (if_t ?_)
      repeat walk_at "one"
      refine one_u P rm (by walk_at "mem") fun u hu => ?_
      obtain ⟨t, rfl⟩ := ty_of3' hu
      exact ⟨_, ⟨ks ++ [t], hkl, by simp, by simp [hks], rfl⟩, by walk_at "sees"⟩
    · rintro us _ ⟨ks, hkl, rfl, hks, rfl⟩
      refine ⟨_, .vd _, ?_⟩
      repeat walk_at "one"
      first | refine app_l (by walk_at "up") (by simp; omega) ?_ | skip
      refine FoR_next ⟨cs ++ [(nm, ks)], by simp [hl], hxl, fun c hc => ?_, rfl⟩ ?_
      · rcases List.mem_append.mp hc with hc | hc
        · exact hcs c hc
        · rw [List.mem_singleton.mp hc]; exact ⟨hnm', by show ks.length ≤ 2; omega⟩
      · rw [List.map_append]
        show Sees G [(ac, .l (cs.map sigPy ++ [sigPy (nm, ks)])), _, _, _] _
        walk_at "sees"
  · rintro _ ⟨cs, hl, hxl, hcs, rfl⟩
    refine Kx_next (WSs_cons (WS_AsgLC (fun xs i us σ => ∃ (nb : Nat) (ds : List Sig), (nb = 1 ∨ nb = 2) ∧ xs = (((["a", "b"] : List Str).take nb).map PyData.str).map V.d ∧ us = (ds.map sigPy).map V.d ∧ ds.map (·.1) = ((["a", "b"] : List Str).take nb).take i ∧ (∀ c ∈ ds, c.2.length = 2) ∧
      σ = [(ac, .l (cs.map sigPy)), (L, .ns [("result", .d res.py), ("calls", .r ac)]), (L + 1, .cell (some (.r wa))), (wa, .w)]) ?_))
    refine WI_val rm (WE_takeTT ?_)
    repeat walk_at "one"
    refine ⟨by decide, ?_⟩
    repeat walk_at "one"
    refine draw_u P rm (by decide) (by walk_at "mem") fun k2 h20 h21 => ?_
    repeat walk_at "one"
    obtain ⟨nb, hnb, e12⟩ : ∃ nb : Nat, 1 + k2 = (nb : Int) ∧ (nb = 1 ∨ nb = 2) := ⟨(1 + k2).toNat, by omega, by omega⟩
    rw [hnb]
    refine ⟨by omega, by simp; omega, _, Seqs.t _, ⟨_, ⟨nb, [], e12, by rw [Int.toNat_natCast]; simp [List.map_take], rfl, by simp, fun c h => by simp at h, rfl⟩, by walk_at "sees"⟩, by simp; omega, ?_, ?_⟩
    · rintro C D i x us _ hx _ ⟨nb', ds, e12', hxs, rfl, hds, hdk, rfl⟩
      rw [hxs] at hx
      obtain ⟨w, hw, rfl⟩ := map_get hx
      obtain ⟨nm, hnm, rfl⟩ := map_get hw
      repeat walk_at "one"
      refine WTs_nil (if_t ?_)
      repeat walk_at "one"
      refine WE_LisD ?_
      repeat walk_at "one"
      refine one_u P rm (by walk_at "mem") fun u hu => ?_
      obtain ⟨t, rfl⟩ := ty_of2 hu
      repeat walk_at "one"
      refine mul_l2 ?_
      repeat walk_at "one"
      refine ⟨_, ⟨nb', ds ++ [(nm, [t, t])], e12', hxs, by simp [sigPy], by rw [List.map_append, hds, take_succ' hnm]; rfl, fun c hc => ?_, rfl⟩, by walk_at "sees"⟩
      rcases List.mem_append.mp hc with hc | hc
      · exact hdk c hc
      · rw [List.mem_singleton.mp hc]; rfl
    · rintro us _ ⟨nb', ds, e12', hxs, rfl, hds, hdk, rfl⟩
      have hdl : ds.map (·.1) = (["a", "b"] : List Str).take nb' := by
        rw [hds, hxs]
        simp only [List.length_map]
        rw [List.take_length]
      clear hds hxs hnb e12
      refine ⟨_, .vd _, fun C => ?_⟩
      refine WG_local (L := L) (by walk_at "up") ⟨_, rfl, Kx_next ?_⟩
      refine Wt_frzL (L := L) (x := "calls") (a := ac) (by walk_at "del") (.l _) ?_ (by walk_at "up") ?_
      · walk_at "lk"
      repeat walk_at "one"
      have hdlen : ds.length = nb' := by
        have := congrArg List.length hdl
        simp at this; omega
      have hcl : cs.length ≤ 2 := by omega
      have hwf : ∀ gr, gr.length = (Fm.types ⟨res, cs, ds⟩).length → Rn.ok nb' 2 ⟨"value", ⟨res, cs, ds⟩, gr⟩ := fun gr hg => by
        refine ⟨.inl rfl, e12', hcl, fun c hc => ?_, fun c hc => (hcs c hc).2, by show ds.length ≤ 2; omega, by show nb' ≤ ds.length; omega, ?_, fun c hc => Nat.le_of_eq (hdk c hc), hg⟩
        · rcases (hcs c hc).1 with e | e
          · exact .inl e
          · exact .inr (.inl e)
        · show ds.map (·.1) = cellNames nb' ds.length
          rw [hdl, cellNames, hdlen]; simp
      have htold := (Rn.ok.wf (hwf (List.replicate (Fm.types ⟨res, cs, ds⟩).length .poi) (by simp)) (by decide)).told
      have hgrl := (Rn.ok.wf (hwf (List.replicate (Fm.types ⟨res, cs, ds⟩).length .poi) (by simp)) (by decide)).gr
      simp only [List.length_replicate] at htold hgrl
      refine WE_LC (fun xs i us σ => ∃ ls : List Lf, xs = ((Fm.types ⟨res, cs, ds⟩).map Ty.py).map V.d ∧ us = (ls.map Lf.py).map V.d ∧ ls.length = i ∧ σ = [(L, .ns [("form", .d (Fm.py ⟨res, cs, ds⟩))]), (L + 1, .cell (some (.r wa))), (wa, .w)]) ?_
      refine WI_val rm ?_
      repeat walk_at "one"
      refine types_u P (f := ⟨res, cs, ds⟩) rm rfl (by omega) (by show cs.length + ds.length ≤ 1000; omega) ?_
      refine ⟨_, Seqs.l _, ⟨_, ⟨[], rfl, rfl, rfl, rfl⟩, by walk_at "sees"⟩, by simp; omega, ?_, ?_⟩
      · rintro C D i x us _ hx _ ⟨ls, hxs, rfl, hl, rfl⟩
        obtain ⟨w, hw, rfl⟩ := map_get hx
        obtain ⟨t, ht, rfl⟩ := map_get hw
        repeat walk_at "one"
        refine WTs_nil (if_t ?_)
        repeat walk_at "one"
        refine leaf_u P rm (by walk_at "mem") fun l => ?_
        exact ⟨_, ⟨ls ++ [l], hxs, by simp, by simp [hl], rfl⟩, by walk_at "sees"⟩
      · rintro us _ ⟨ls, hxs, rfl, hl, rfl⟩
        refine ⟨_, .vd _, ?_⟩
        repeat walk_at "one"
        refine ⟨_, ⟨⟨nb', ⟨"value", ⟨res, cs, ds⟩, ls⟩, rfl, hwf ls (by rw [hl]; simp)⟩, rfl⟩, Vw.sees (.drop (.drop (.same .nil)))⟩
end
-- P15
section
/-- one run made of another -/
structure Ext (a b : Rn) : Prop where
  res : a.form.res = b.form.res
  calls : a.form.calls.map (·.2) = b.form.calls.map (·.2)
  cells : a.form.cells <+: b.form.cells
theorem Ext.refl (a : Rn) : Ext a a := ⟨rfl, rfl, List.prefix_refl _⟩
theorem Ext.trans {a b c : Rn} (h : Ext a b) (k : Ext b c) : Ext a c := ⟨h.res.trans k.res, h.calls.trans k.calls, h.cells.trans k.cells⟩
theorem Ext.kin {a b : Rn} (h : Ext a b) : Kin a b := ⟨h.res, h.calls, .inl h.cells⟩
theorem Wt.sees {α β : Type} {G : Cx} {A : Around} {σ σ' : Sg} {R : Heap → β → α → Prop} {K : β → Sg → Prop} {t : Sem α} (h : Wt G A σ' R t K) (k : Sees G σ σ') : Wt G A σ R t K := fun Y Z s b => h Y Z s (k _ _ _ b)
theorem Rn.ok.up {nb k m : Nat} {r : Rn} (h : r.ok nb k) (hm : k ≤ m) : r.ok nb m := ⟨h.w, h.nbv, h.c1, h.cn, h.ck, Nat.le_trans h.c2 hm, h.c3, h.dn, h.dk, h.len⟩
theorem Rn.ok.gset {nb k : Nat} {r : Rn} (h : r.ok nb k) {g : List Lf} (hg : g.length = r.gr.length) : Rn.ok nb k ⟨r.word, r.form, g⟩ := ⟨h.w, h.nbv, h.c1, h.cn, h.ck, h.c2, h.c3, h.dn, h.dk, hg.trans h.len⟩
theorem Rn.ok.pos {nb k : Nat} {r : Rn} (h : r.ok nb k) : 0 < r.gr.length := by
  rw [h.len, types_len]
  have : 0 < r.form.res.flat.length := by cases r.form.res <;> decide
  omega
theorem ints_ok (l : List Int) : Ok (.list (l.map .int)) := OkN.ok (n := 1) (.list (.of fun d hd => by obtain ⟨_, _, rfl⟩ := List.mem_map.mp hd; exact .int _))
theorem ints_nil (l : List Int) : PyData.eqv (.list (l.map .int)) (.list []) = decide (l = []) := by cases l <;> simp [PyData.eqv, PyData.eqvAll]
theorem names_succ {nb n : Nat} (h : nb ≤ n) : cellNames nb (n + 1) = cellNames nb n ++ [("z" : Str) ++ (toString (n : Int) : String)] := by
  unfold cellNames
  rw [show n + 1 - nb = (n - nb) + 1 from by omega, List.range'_concat, List.map_append, List.append_assoc]
  congr 1
  simp only [List.map_cons, List.map_nil]
  rw [show nb + 1 * (n - nb) = n from by omega]
theorem WT_keep {G : Cx} {A : Around} {env : Env} {σ : Sg} {e : Expr} {K : Bool → Sg → Prop} (h : WT G A env σ e (fun _ σ' => σ' = σ)) (k : ∀ c, K c σ) : WT G A env σ e K := h.mono fun c σ' e => by subst e; exact k c
def chS (af L wa : Addr) (r' : Rn) : Sg := [(af, .l (r'.gr.map Lf.py)), (L, .ns [("word", .d (.str r'.word)), ("result", .d r'.form.res.py), ("calls", .d (.list (r'.form.calls.map sigPy))), ("cells", .d (.list (r'.form.cells.map sigPy))), ("found", .r af)]), (wa, .w)]
def Kch (G : Cx) (nb k : Nat) (r : Rn) (af L wa : Addr) : Fl → Sg → Prop := fun fl σ => fl = .next ∧ ∃ r', r'.ok nb (k + 1) ∧ Ext r r' ∧ Sees G σ (chS af L wa r')
theorem changed_ok {G : Cx} (P : Pg G) (wa : Addr) (r : Rn) (nb k : Nat) (hr : r.ok nb k) (hk : k ≤ 7) :
    Fn G 3 (P.a 12) [(wa, .w)] [.r wa, .d r.py] fun v os => (∃ r', v = .d (Rn.py r') ∧ r'.ok nb (k + 1) ∧ Ext r r') ∧ os = [(wa, .w)] := by
  refine Fn.intro ["well", "run"] P.T (P.hf "_law_changed" 12 rfl).2 (by walk_at "bind2") rfl (by decide) (by decide) ?_
  intro A L rm
  have hwf := hr.wf (by omega)
  have hg := hwf.gr
  have htold := hwf.told
  have hpos := hr.pos
  have hlen := hr.len
  have hc1 := hr.c1
  have hc2 := hr.c2
  have hup := hr.up (Nat.le_succ k)
  obtain ⟨word, ⟨res, calls, cells⟩, gr⟩ := r
  simp only at hg hpos hlen hc1 hc2
  replace htold : (Fm.told ⟨res, calls, cells⟩).length ≤ 45 := htold
  show WSs G A _ [(L, .ns [("well", .r wa), ("run", .d (.tuple [.str word, .tuple [res.py, .list (calls.map sigPy), .list (cells.map sigPy)], .list (gr.map Lf.py)]))]), (L + 1, .cell none), (wa, .w)] _ _
  have fin : ∀ (af : Addr) (r' : Rn), r'.ok nb (k + 1) → Ext ⟨word, ⟨res, calls, cells⟩, gr⟩ r' → ∀ σ', Sees G σ' [(af, .l (r'.gr.map Lf.py)), (L, .ns [("word", .d (.str r'.word)), ("result", .d r'.form.res.py), ("calls", .d (.list (r'.form.calls.map sigPy))), ("cells", .d (.list (r'.form.cells.map sigPy))), ("found", .r af)]), (wa, .w)] →
      WSs G A (En (fdI 12).scope L (cellsFrom (L + 1) (fdI 12).scope.names []) (P.q 12) (P.a 12) (P.c 12)) σ' ((fdI 12).body.drop 4) fun fl σ' => ∃ v, fl = .ret v ∧ ∃ os', ((∃ r', v = .d (Rn.py r') ∧ r'.ok nb (k + 1) ∧ Ext ⟨word, ⟨res, calls, cells⟩, gr⟩ r') ∧ os' = [(wa, .w)]) ∧ Sees G σ' os' := by
    intro af r' h1 h2 σ' hs
    refine Wt.sees ?_ hs
    refine WSs_cons (WS_Return (WE_TupD (WDs_cons (WE_local (by walk_at "mem") (by walk_at "lk") ⟨_, rfl, ?_⟩))))
    refine WDs_cons (WE_TupD ?_)
    iterate 11 walk_at "one"
    refine WDs_cons (WE_frz ?_)
    repeat walk_at "one"
    refine ⟨_, _, _, _, rfl, .l _, by walk_at "del", ?_⟩
    repeat walk_at "one"
    exact ⟨_, ⟨⟨r', rfl, h1, h2⟩, rfl⟩, Vw.sees (.drop (.same .nil))⟩
  refine WSs_cons ?_
  repeat walk_at "one"
  refine WS_Swap (names := ["way", "at", "found"]) rm ?_
  repeat walk_at "one"
  refine draw_u P rm (by decide) (by walk_at "mem") fun way hw0 hw1 => ?_
  repeat walk_at "one"
  refine draw_u P rm (by simp; omega) (by walk_at "mem") fun at_ ha0 ha1 => ?_
  repeat walk_at "one"
  rename_i af
  refine ⟨by simp, rfl, ?_⟩
  simp only [List.reverse_cons, List.reverse_nil, List.nil_append, List.cons_append]
  repeat walk_at "one"
  refine types_u P (f := ⟨res, calls, cells⟩) rm rfl (by omega) (by show calls.length + cells.length ≤ 1000; omega) ?_
  refine WG_local (L := L) (by walk_at "up") (Kx_next ?_)
  have key : WS G A (En (fdI 12).scope L (cellsFrom (L + 1) (fdI 12).scope.names []) (P.q 12) (P.a 12) (P.c 12)) [(af, .l (gr.map Lf.py)), (L, .ns [("well", .r wa), ("word", .d (.str word)), ("result", .d res.py), ("calls", .d (.list (calls.map sigPy))), ("cells", .d (.list (cells.map sigPy))), ("found", .r af), ("way", .d (.int way)), ("at", .d (.int at_)), ("kinds", .d (.list ((Fm.types ⟨res, calls, cells⟩).map Ty.py)))]), (L + 1, .cell (some (.d (.list (gr.map Lf.py))))), (wa, .w)]
      ((fdI 12).body[3]?.getD (.Pass default)) (Kch G nb k ⟨word, ⟨res, calls, cells⟩, gr⟩ af L wa) := by
    clear fin
    have hk2 : ∀ (j : Int), 0 ≤ j → j < (gr.length : Int) → ∃ t : Ty, ((Fm.types ⟨res, calls, cells⟩).map Ty.py)[j.toNat]? = some t.py := fun j h0 h1 => by
      have hj : j.toNat < (Fm.types ⟨res, calls, cells⟩).length := by rw [← hlen]; omega
      exact ⟨_, by rw [List.getElem?_map, List.getElem?_eq_getElem hj]; rfl⟩
    have mset : ∀ (j : Nat) (l : Lf), (gr.map Lf.py).set j l.py = (gr.set j l).map Lf.py := fun j l => by rw [List.map_set]
    have eset : ∀ (g : List Lf), Ext ⟨word, ⟨res, calls, cells⟩, gr⟩ ⟨word, ⟨res, calls, cells⟩, g⟩ := fun g => ⟨rfl, rfl, List.prefix_refl _⟩
    show WS G A _ _ (Stmt.If _ _ _ _) _
    refine WS_If ?_
    repeat walk_at "one"
    refine if_d (fun c1 => ?_) (fun c1 => ?_)
    · -- poison becomes something
      refine WSs_cons (WS_AsgLC (fun xs i us σ => ∃ js : List Int, js.length ≤ i ∧ xs.length ≤ 100 ∧ us = (js.map PyData.int).map V.d ∧ (∀ j ∈ js, 0 ≤ j ∧ j < (gr.length : Int)) ∧ σ = [(af, .l (gr.map Lf.py)), (L, .ns [("well", .r wa), ("word", .d (.str word)), ("result", .d res.py), ("calls", .d (.list (calls.map sigPy))), ("cells", .d (.list (cells.map sigPy))), ("found", .r af), ("way", .d (.int way)), ("at", .d (.int at_)), ("kinds", .d (.list ((Fm.types ⟨res, calls, cells⟩).map Ty.py)))]), (L + 1, .cell (some (.d (.list (gr.map Lf.py))))), (wa, .w)]) ?_)
      refine WI_range P rm ?_
      repeat walk_at "one"
      refine ⟨by simp, by simp; omega, ⟨_, ⟨[], Nat.zero_le _, by rw [rangeV_len]; simp; omega, rfl, fun j h => by simp at h, rfl⟩, Sees.refl _⟩, by rw [rangeV_len]; simp; omega, ?_, ?_⟩
      · rintro C D j x us _ hx _ ⟨js, hjl, hxl, rfl, hjs, rfl⟩
        obtain ⟨hj, rfl⟩ := rangeV_get hx
        simp only [List.length_map] at hj
        repeat walk_at "one"
        have hgj : (gr.map Lf.py)[(j : Int).toNat]? = some (gr[j]'(by omega)).py := by
          rw [Int.toNat_natCast, List.getElem?_map, List.getElem?_eq_getElem (by omega)]; rfl
        refine WTs_one (WT_Cmp ?_)
        repeat walk_at "one"
        refine sub_dl (by omega) hgj (by simp; omega) ?_
        repeat walk_at "one"
        refine if_b (fun _ => ?_) (fun _ => ?_)
        · repeat walk_at "one"
          exact ⟨_, ⟨js ++ [(j : Int)], by simp; omega, hxl, by simp, fun q hq => by
            rcases List.mem_append.mp hq with hq | hq
            · exact hjs q hq
            · rw [List.mem_singleton.mp hq]; omega, rfl⟩, by walk_at "sees"⟩
        · exact ⟨_, ⟨js, by omega, hxl, rfl, hjs, rfl⟩, by walk_at "sees"⟩
      · rintro us _ ⟨js, hjl0, hxl, rfl, hjs, rfl⟩
        refine ⟨_, .vd _, fun C => ?_⟩
        refine WG_local (L := L) (by walk_at "up") ⟨_, rfl, Kx_next ?_⟩
        refine WSs_cons (WS_If (WT_Cmp ?_))
        repeat walk_at "one"
        refine WE_LisD ?_
        repeat walk_at "one"
        refine ne_ok rm (ints_ok js) (by walk_at "ok") ?_
        repeat walk_at "one"
        rw [ints_nil]
        refine if_b (fun hne => ?_) (fun _ => ?_)
        · have hne : js ≠ [] := by simpa using hne
          have hjl : 0 < js.length := List.length_pos_iff.mpr hne
          have hjb : js.length ≤ 100 := by omega
          clear hjl0 hxl
          repeat walk_at "one"
          refine mod_ii (by simp; omega) ?_
          rw [List.length_map]
          have hq0 := Int.fmod_nonneg_of_pos at_ (b := (js.length : Int)) (by omega)
          have hq1 := Int.fmod_lt_of_pos at_ (b := (js.length : Int)) (by omega)
          generalize at_.fmod (js.length : Int) = q at hq0 hq1 ⊢
          have hqn : q.toNat < js.length := by omega
          obtain ⟨hj0, hj1⟩ := hjs js[q.toNat] (List.getElem_mem hqn)
          have hqe : (js.map PyData.int)[q.toNat]? = some (.int js[q.toNat]) := by rw [List.getElem?_map, List.getElem?_eq_getElem hqn]; rfl
          generalize js[q.toNat] = j at hj0 hj1 hqe
          refine sub_dl hq0 hqe (by simp; omega) ?_
          repeat walk_at "one"
          obtain ⟨t, ht⟩ := hk2 j hj0 hj1
          refine sub_dl hj0 ht (by simp; omega) ?_
          repeat walk_at "one"
          refine leaf_u P rm (by walk_at "mem") fun l => ?_
          repeat walk_at "one"
          refine set_l (by walk_at "up") hj0 (by simp; omega) (by simp; omega) ?_
          repeat walk_at "one"
          refine ⟨rfl, ⟨word, ⟨res, calls, cells⟩, gr.set j.toNat l⟩, hup.gset (by simp), eset _, ?_⟩
          rw [mset]
          unfold chS
          walk_at "sees"
        · repeat walk_at "one"
          exact ⟨rfl, ⟨word, ⟨res, calls, cells⟩, gr⟩, hup, Ext.refl _, by unfold chS; walk_at "sees"⟩
    · refine WSs_cons (WS_If (WT_keep (WT_Bool (WA_or ?_)) fun c2 => ?_))
      · repeat walk_at "one"
        rw [int_eqv]
        refine if_d (fun _ => rfl) (fun _ => ?_)
        repeat walk_at "one"
        rw [int_eqv]
        refine if_d (fun _ => rfl) (fun _ => ?_)
        repeat walk_at "one"
        rw [int_eqv]
        refine if_d (fun _ => rfl) (fun _ => ?_)
        repeat walk_at "one"
        rfl
      have kchK : ∀ fl σ, Kch G nb k ⟨word, ⟨res, calls, cells⟩, gr⟩ af L wa fl σ → Kx (Kch G nb k ⟨word, ⟨res, calls, cells⟩, gr⟩ af L wa) (fun σ1 => WSs G A (En (fdI 12).scope L (cellsFrom (L + 1) (fdI 12).scope.names []) (P.q 12) (P.a 12) (P.c 12)) σ1 [] (Kch G nb k ⟨word, ⟨res, calls, cells⟩, gr⟩ af L wa)) fl σ := fun fl σ ⟨e, h⟩ => by subst e; exact Kx_next (WSs_nil ⟨rfl, h⟩)
      refine if_b (fun _ => ?_) (fun _ => ?_)
      · -- objects numbered otherwise
        refine Wt.mono (K := Kch G nb k ⟨word, ⟨res, calls, cells⟩, gr⟩ af L wa) ?_ kchK
        refine WSs_cons (Wt.mono (K := fun fl σ => fl = .next ∧ ∃ p q s : Fin 3, Sees G σ [(af, .l (gr.map Lf.py)), (L, .ns [("word", .d (.str word)), ("result", .d res.py), ("calls", .d (.list (calls.map sigPy))), ("cells", .d (.list (cells.map sigPy))), ("found", .r af), ("lead", .d (.tuple [.int (p.val : Int), .int (q.val : Int), .int (s.val : Int)]))]), (L + 1, .cell (some (.d (.list (gr.map Lf.py))))), (wa, .w)]) ?_ ?_)
        · repeat walk_at "one"
          refine if_d (fun _ => ?_) (fun _ => ?_)
          · repeat walk_at "one"
            refine WE_LisD ?_
            repeat walk_at "one"
            refine draw_u P rm (by decide) (by walk_at "mem") fun r h0 h1 => ?_
            have : r = 0 ∨ r = 1 ∨ r = 2 ∨ r = 3 := by omega
            rcases this with rfl | rfl | rfl | rfl
            · repeat walk_at "one"
              exact ⟨rfl, 0, 1, 2, by walk_at "sees"⟩
            · repeat walk_at "one"
              exact ⟨rfl, 1, 2, 0, by walk_at "sees"⟩
            · repeat walk_at "one"
              exact ⟨rfl, 2, 1, 0, by walk_at "sees"⟩
            · repeat walk_at "one"
              exact ⟨rfl, 1, 0, 2, by walk_at "sees"⟩
          · repeat walk_at "one"
            exact ⟨rfl, 0, 0, 1, by walk_at "sees"⟩
        · rintro _ σ ⟨rfl, p, q, s, hs⟩
          refine Kx_next (Wt.sees ?_ hs)
          refine WSs_cons (WS_ForR (fun _ => False) (fun xs j σ => ∃ fs : List Lf, fs.length = gr.length ∧ σ = [(af, .l (fs.map Lf.py)), (L, .ns [("word", .d (.str word)), ("result", .d res.py), ("calls", .d (.list (calls.map sigPy))), ("cells", .d (.list (cells.map sigPy))), ("found", .r af), ("lead", .d (.tuple [.int (p.val : Int), .int (q.val : Int), .int (s.val : Int)]))]), (L + 1, .cell (some (.d (.list (gr.map Lf.py))))), (wa, .w)]) ?_)
          refine WI_enum P rm ?_
          repeat walk_at "one"
          refine ⟨⟨_, ⟨gr, rfl, rfl⟩, Sees.refl _⟩, ?_, fun v σ2 h => h.elim, ?_⟩
          · rintro j x _ hx ⟨fs, hfl, rfl⟩
            obtain ⟨u, hu, rfl⟩ := enumV_get hx
            obtain ⟨t, ht, rfl⟩ := map_get hu
            have hj : j < gr.length := (List.getElem?_eq_some_iff.mp ht).1
            repeat walk_at "one"
            rw [Lf.isTup]
            cases t with
            | al o f =>
              refine if_bt ?_ rfl
              rw [show (Lf.al o f).py = .tuple [.str "alloca", .int (o.val : Int), .int (f.val : Int)] from rfl]
              repeat walk_at "one"
              refine if_bt ?_ (by decide +kernel)
              repeat walk_at "one"
              obtain ⟨w, hw⟩ : ∃ w : Fin 3, ([.int (p.val : Int), .int (q.val : Int), .int (s.val : Int)] : List PyData)[(o.val : Int).toNat]? = some (.int (w.val : Int)) := by
                match o with
                | ⟨0, _⟩ => exact ⟨p, rfl⟩
                | ⟨1, _⟩ => exact ⟨q, rfl⟩
                | ⟨2, _⟩ => exact ⟨s, rfl⟩
              refine sub_dt (by omega) hw (by simp) ?_
              repeat walk_at "one"
              refine set_l (by walk_at "up") (by omega) (by simp; omega) (by simp; omega) ?_
              repeat walk_at "one"
              refine FoR_next ⟨fs.set j (.al w f), by simp [hfl], rfl⟩ ?_
              rw [List.map_set]
              walk_at "sees"
            | poi =>
              refine if_bf ?_ rfl
              repeat walk_at "one"
              exact FoR_next ⟨fs, hfl, rfl⟩ (by walk_at "sees")
            | int n =>
              refine if_bf ?_ rfl
              repeat walk_at "one"
              exact FoR_next ⟨fs, hfl, rfl⟩ (by walk_at "sees")
            | nul =>
              refine if_bt ?_ rfl
              rw [show Lf.nul.py = .tuple [.str "null", .int 0, .int 1] from rfl]
              repeat walk_at "one"
              refine if_bf ?_ (by decide +kernel)
              repeat walk_at "one"
              exact FoR_next ⟨fs, hfl, rfl⟩ (by walk_at "sees")
            | glo n =>
              refine if_bt ?_ rfl
              rw [show (Lf.glo n).py = .tuple [.str "global", .str "a", .int (n.val : Int)] from rfl]
              repeat walk_at "one"
              refine if_bf ?_ (by decide +kernel)
              repeat walk_at "one"
              exact FoR_next ⟨fs, hfl, rfl⟩ (by walk_at "sees")
          · rintro _ ⟨fs, hfl, rfl⟩
            refine Kx_next (WSs_nil ⟨rfl, ⟨word, ⟨res, calls, cells⟩, fs⟩, hup.gset hfl, eset _, ?_⟩)
            unfold chS
            walk_at "sees"
      · refine Wt.mono (K := Kch G nb k ⟨word, ⟨res, calls, cells⟩, gr⟩ af L wa) ?_ kchK
        refine WSs_cons (Wt.mono (K := Kch G nb k ⟨word, ⟨res, calls, cells⟩, gr⟩ af L wa) ?_ kchK)
        have hl7 : cells.length ≤ 7 := by omega
        have hat : at_ < (gr.length : Int) := by simpa using ha1
        refine WS_If ?_
        repeat walk_at "one"
        rw [int_eqv]
        refine if_d (fun _ => ?_) (fun _ => ?_)
        · obtain ⟨t, ht⟩ := hk2 at_ ha0 hat
          repeat walk_at "one"
          refine sub_dl ha0 ht (by simp; omega) ?_
          repeat walk_at "one"
          refine leaf_u P rm (by walk_at "mem") fun l => ?_
          repeat walk_at "one"
          refine set_l (by walk_at "up") ha0 (by simp; omega) (by simp; omega) ?_
          repeat walk_at "one"
          refine ⟨rfl, ⟨word, ⟨res, calls, cells⟩, gr.set at_.toNat l⟩, hup.gset (by simp), eset _, ?_⟩
          rw [mset]
          unfold chS
          walk_at "sees"
        refine WSs_cons (Wt.mono (K := Kch G nb k ⟨word, ⟨res, calls, cells⟩, gr⟩ af L wa) ?_ kchK)
        refine WS_If ?_
        repeat walk_at "one"
        rw [int_eqv]
        refine if_d (fun _ => ?_) (fun _ => ?_)
        · repeat walk_at "one"
          refine set_l (by walk_at "up") ha0 (by simp; omega) (by simp; omega) ?_
          repeat walk_at "one"
          refine ⟨rfl, ⟨word, ⟨res, calls, cells⟩, gr.set at_.toNat .poi⟩, hup.gset (by simp), eset _, ?_⟩
          have := mset at_.toNat .poi
          rw [show Lf.poi.py = PyData.none from rfl] at this
          rw [this]
          unfold chS
          walk_at "sees"
        refine WSs_cons (Wt.mono (K := Kch G nb k ⟨word, ⟨res, calls, cells⟩, gr⟩ af L wa) ?_ kchK)
        refine WS_If ?_
        repeat walk_at "one"
        rw [int_eqv]
        refine if_d (fun _ => ?_) (fun _ => ?_)
        · have hstr : (Str.ofString (toString (cells.length : Int))).length ≤ 10 := by
            have : ∀ n : Fin 8, (Str.ofString (toString (n.val : Int))).length ≤ 10 := by decide +kernel
            exact this ⟨cells.length, by omega⟩
          repeat walk_at "one"
          refine WE_LisD ?_
          repeat walk_at "one"
          refine str_i (by rw [List.length_map]; exact Nat.lt_of_le_of_lt (Nat.log2_le_self _) (by simp; omega)) ?_
          rw [List.length_map]
          repeat walk_at "one"
          refine add_ss (by have : (Str.ofString "z").length = 1 := by decide +kernel
                            omega) ?_
          repeat walk_at "one"
          refine WE_LisD ?_
          repeat walk_at "one"
          refine add_ll (by simp; omega) ?_
          repeat walk_at "one"
          refine leaf_u (t := .i2) P rm (by walk_at "mem") fun l => ?_
          repeat walk_at "one"
          first | refine app_l (by walk_at "up") (by simp; omega) ?_ | skip
          repeat walk_at "one"
          have hnb := hr.c3
          have hdn := hr.dn
          simp only at hnb hdn
          refine ⟨rfl, ⟨word, ⟨res, calls, cells ++ [(("z" : Str) ++ (toString (cells.length : Int) : String), [.i2])]⟩, gr ++ [l]⟩, ⟨hr.w, hr.nbv, hr.c1, hr.cn, hr.ck, by simp; omega, by simp; omega, ?_, fun c hc => ?_, ?_⟩, ⟨rfl, rfl, List.prefix_append _ _⟩, ?_⟩
          · simp only [List.map_append, List.map_cons, List.map_nil, List.length_append, List.length_cons, List.length_nil]
            rw [names_succ hnb, hdn]
          · rcases List.mem_append.mp hc with hc | hc
            · exact hr.dk c hc
            · rw [List.mem_singleton.mp hc]; exact Nat.le_succ 1
          · rw [types_len] at hlen ⊢
            simp only [List.length_append, List.length_cons, List.length_nil, needs_app] at hlen ⊢
            have : needs [(("z" : Str) ++ (toString (cells.length : Int) : String), [Ty.i2])] = 1 := rfl
            omega
          · unfold chS
            simp only [List.map_append, List.map_cons, List.map_nil, sigPy]
            walk_at "sees"
        refine WSs_cons (Wt.mono (K := Kch G nb k ⟨word, ⟨res, calls, cells⟩, gr⟩ af L wa) ?_ kchK)
        refine WS_If ?_
        repeat walk_at "one"
        rw [int_eqv]
        refine if_d (fun _ => ?_) (fun _ => ?_)
        · refine WSs_cons (WS_AsgLC (fun xs i us σ => us = (((calls.take i).map fun c => (("u" : Str), c.2)).map sigPy).map V.d ∧ σ = [(af, .l (gr.map Lf.py)), (L, .ns [("word", .d (.str word)), ("result", .d res.py), ("calls", .d (.list (calls.map sigPy))), ("cells", .d (.list (cells.map sigPy))), ("found", .r af)]), (L + 1, .cell (some (.d (.list (gr.map Lf.py))))), (wa, .w)]) ?_)
          refine WI_val rm ?_
          repeat walk_at "one"
          refine ⟨_, Seqs.l _, ⟨_, ⟨rfl, rfl⟩, by walk_at "sees"⟩, by simp; omega, ?_, ?_⟩
          · rintro C D i x us _ hx _ ⟨rfl, rfl⟩
            obtain ⟨w, hw, rfl⟩ := map_get hx
            obtain ⟨c, hc, rfl⟩ := map_get hw
            unfold sigPy
            repeat walk_at "one"
            refine WTs_nil (if_t ?_)
            repeat walk_at "one"
            refine ⟨_, ⟨?_, rfl⟩, by walk_at "sees"⟩
            rw [take_succ' hc]
            simp only [List.map_append, List.map_cons, List.map_nil, sigPy]
          · rintro us _ ⟨rfl, rfl⟩
            simp only [List.length_map]
            rw [List.take_length]
            refine ⟨_, .vd _, fun C => ?_⟩
            refine WG_local (L := L) (by walk_at "up") ⟨_, rfl, Kx_next (WSs_nil ?_)⟩
            refine ⟨rfl, ⟨word, ⟨res, calls.map fun c => (("u" : Str), c.2), cells⟩, gr⟩, ⟨hr.w, hr.nbv, by simp; omega, fun c hc => ?_, fun c hc => ?_, hup.c2, hr.c3, hr.dn, hr.dk, ?_⟩, ⟨rfl, ?_, List.prefix_refl _⟩, ?_⟩
            · obtain ⟨d, hd, rfl⟩ := List.mem_map.mp hc; exact .inr (.inr rfl)
            · obtain ⟨d, hd, rfl⟩ := List.mem_map.mp hc; exact hr.ck d hd
            · have hn : needs (calls.map fun c => (("u" : Str), c.2)) = needs calls := needs_map (by rw [List.map_map]; rfl)
              rw [types_len] at hlen ⊢
              simp only at hlen ⊢
              rw [hn]; exact hlen
            · rw [List.map_map]; rfl
            · unfold chS
              walk_at "sees"
        · repeat walk_at "one"
          refine one_u P rm (by walk_at "mem") fun u hu => ?_
          obtain ⟨nw, rfl, hnw⟩ : ∃ s : Str, u = .str s ∧ (s = "stop" ∨ s = "limit") := by
            simp only [List.mem_cons, List.not_mem_nil, or_false] at hu
            rcases hu with rfl | rfl
            · exact ⟨_, rfl, .inl rfl⟩
            · exact ⟨_, rfl, .inr rfl⟩
          repeat walk_at "one"
          refine ⟨rfl, ⟨nw, ⟨res, calls, cells⟩, gr⟩, ⟨.inr hnw, hr.nbv, hr.c1, hr.cn, hr.ck, hup.c2, hr.c3, hr.dn, hr.dk, hr.len⟩, ⟨rfl, rfl, List.prefix_refl _⟩, ?_⟩
          unfold chS
          walk_at "sees"
  refine Wt.sees (σ' := [(af, .l (gr.map Lf.py)), (L, .ns [("well", .r wa), ("word", .d (.str word)), ("result", .d res.py), ("calls", .d (.list (calls.map sigPy))), ("cells", .d (.list (cells.map sigPy))), ("found", .r af), ("way", .d (.int way)), ("at", .d (.int at_)), ("kinds", .d (.list ((Fm.types ⟨res, calls, cells⟩).map Ty.py)))]), (L + 1, .cell (some (.d (.list (gr.map Lf.py))))), (wa, .w)]) ?_ (by walk_at "sees")
  refine WSs_cons (Wt.mono key ?_)
  rintro fl σ ⟨rfl, r', h1, h2, hs⟩
  exact Kx_next (fin af r' h1 h2 σ hs)
end
-- D5
section
/-! the plain law -/
theorem oks_iff (g g' : List Lf) : oks (g.zip g') = true ↔ ∀ (j : Nat) x y, g[j]? = some x → g'[j]? = some y → okp x y = true := by
  unfold oks
  rw [List.all_eq_true]
  constructor
  · intro h j x y hx hy
    exact h (x, y) (List.mem_of_getElem? (List.getElem?_zip_eq_some.mpr ⟨hx, hy⟩))
  · rintro h ⟨x, y⟩ hq
    obtain ⟨j, hj⟩ := List.getElem?_of_mem hq
    obtain ⟨h1, h2⟩ := List.getElem?_zip_eq_some.mp hj
    exact h j x y h1 h2
theorem mem_prs {g g' : List Lf} {a b : Int} : (a, b) ∈ prs (g.zip g') ↔ ∃ (j : Nat) (o : Fin 3) (f : Fin 2) (p : Fin 3) (q : Fin 2), g[j]? = some (.al o f) ∧ g'[j]? = some (.al p q) ∧ a = (o.val : Int) ∧ b = (p.val : Int) := by
  unfold prs
  rw [List.mem_flatMap]
  constructor
  · rintro ⟨⟨x, y⟩, hq, h⟩
    obtain ⟨j, hj⟩ := List.getElem?_of_mem hq
    obtain ⟨h1, h2⟩ := List.getElem?_zip_eq_some.mp hj
    simp only at h1 h2 h
    cases x <;> cases y <;> simp only [prp, List.not_mem_nil, List.mem_singleton, Prod.mk.injEq] at h
    exact ⟨j, _, _, _, _, h1, h2, h.1, h.2⟩
  · rintro ⟨j, o, f, p, q, h1, h2, rfl, rfl⟩
    exact ⟨(.al o f, .al p q), List.mem_of_getElem? (List.getElem?_zip_eq_some.mpr ⟨h1, h2⟩), by simp [prp]⟩
theorem fin_int {n : Nat} {a b : Fin n} : ((a.val : Int) = (b.val : Int)) ↔ a = b := ⟨fun h => Fin.ext (by omega), fun h => by rw [h]⟩
theorem prs_iff (g g' : List Lf) : cons (prs (g.zip g')) = true ↔ ∀ (j k : Nat) (o : Fin 3) (f : Fin 2) (p : Fin 3) (q : Fin 2) (o' : Fin 3) (f' : Fin 2) (p' : Fin 3) (q' : Fin 2), g[j]? = some (.al o f) → g'[j]? = some (.al p q) → g[k]? = some (.al o' f') → g'[k]? = some (.al p' q') → (o = o' ↔ p = p') := by
  rw [cons_iff]
  constructor
  · intro h j k o f p q o' f' p' q' h1 h2 h3 h4
    have := h (_, _) (mem_prs.mpr ⟨j, o, f, p, q, h1, h2, rfl, rfl⟩) (_, _) (mem_prs.mpr ⟨k, o', f', p', q', h3, h4, rfl, rfl⟩)
    simp only [fin_int] at this
    exact this
  · rintro h ⟨a, b⟩ h1 ⟨c, d⟩ h2
    obtain ⟨j, o, f, p, q, e1, e2, rfl, rfl⟩ := mem_prs.mp h1
    obtain ⟨k, o', f', p', q', e3, e4, rfl, rfl⟩ := mem_prs.mp h2
    simp only [fin_int]
    exact h j k o f p q o' f' p' q' e1 e2 e3 e4
theorem okp_refl (x : Lf) : okp x x = true := by cases x <;> simp [okp]
theorem ms_refl (a : Rn) : ms a a = true := by
  unfold ms
  split
  · next h =>
    rw [Bool.and_eq_true, Bool.and_eq_true]
    refine ⟨by simp [Rn.same], (oks_iff _ _).mpr fun j x y hx hy => ?_, (prs_iff _ _).mpr fun j k o f p q o' f' p' q' h1 h2 h3 h4 => ?_⟩
    · rw [hx] at hy; cases hy; exact okp_refl x
    · rw [h1] at h2; rw [h3] at h4; cases h2; cases h4; exact Iff.rfl
  · next h => simpa using h
theorem ms_value {a b : Rn} (h : ms a b = true) (ha : a.word = "value") : b.word = "value" ∧ a.same b = true ∧ oks (a.gr.zip b.gr) = true ∧ cons (prs (a.gr.zip b.gr)) = true := by
  unfold ms at h
  by_cases hb : b.word = "value"
  · rw [if_pos ⟨ha, hb⟩, Bool.and_eq_true, Bool.and_eq_true] at h
    exact ⟨hb, h.1, h.2.1, h.2.2⟩
  · rw [if_neg (fun q => hb q.2)] at h
    simp [ha] at h
theorem same_iff {a b : Rn} : a.same b = true ↔ a.form.calls = b.form.calls ∧ b.form.cells.take a.form.cells.length = a.form.cells := by
  unfold Rn.same; rw [Bool.and_eq_true, decide_eq_true_iff, decide_eq_true_iff]
theorem take_le {α : Type} {l m : List α} (h : m.take l.length = l) : l.length ≤ m.length := by
  have := congrArg List.length h
  rw [List.length_take] at this; omega
theorem gr_le {a b : Rn} (ha : a.wf) (hb : b.wf) (hr : a.form.res = b.form.res) (hc : a.form.calls = b.form.calls) (h : b.form.cells.take a.form.cells.length = a.form.cells) : a.gr.length ≤ b.gr.length := by
  rw [ha.len, hb.len, types_len, types_len, hr, hc]
  have : needs b.form.cells = needs a.form.cells + needs (b.form.cells.drop a.form.cells.length) := by
    conv => lhs; rw [← List.take_append_drop a.form.cells.length b.form.cells]
    rw [needs_app, h]
  omega
theorem okp_trans {x y z : Lf} (h : okp x y = true) (k : okp y z = true) : okp x z = true := by
  cases x <;> cases y <;> simp [okp] at h <;> cases z <;> simp_all [okp]
theorem okp_al {o : Fin 3} {f : Fin 2} {y : Lf} (h : okp (.al o f) y = true) : ∃ p, y = .al p f := by
  cases y <;> simp [okp] at h
  exact ⟨_, by rw [h]⟩
theorem ms_trans {a b c : Rn} (ha : a.wf) (hb : b.wf) (hc : c.wf) (k1 : Kin a b) (k2 : Kin b c) (h1 : ms a b = true) (h2 : ms b c = true) : ms a c = true := by
  by_cases hw : a.word = "value"
  · obtain ⟨wb, s1, o1, p1⟩ := ms_value h1 hw
    obtain ⟨wc, s2, o2, p2⟩ := ms_value h2 wb
    obtain ⟨c1, t1⟩ := same_iff.mp s1
    obtain ⟨c2, t2⟩ := same_iff.mp s2
    have l1 := gr_le ha hb k1.res c1 t1
    rw [oks_iff] at o1 o2
    rw [prs_iff] at p1 p2
    have mid : ∀ (j : Nat) (x : Lf), a.gr[j]? = some x → ∃ y, b.gr[j]? = some y := fun j x hx => by
      have := (List.getElem?_eq_some_iff.mp hx).1
      exact ⟨_, List.getElem?_eq_getElem (by omega)⟩
    unfold ms
    rw [if_pos ⟨hw, wc⟩, Bool.and_eq_true, Bool.and_eq_true]
    refine ⟨same_iff.mpr ⟨c1.trans c2, ?_⟩, (oks_iff _ _).mpr fun j x z hx hz => ?_, (prs_iff _ _).mpr fun j k o f p q o' f' p' q' e1 e2 e3 e4 => ?_⟩
    · have e : (c.form.cells.take b.form.cells.length).take a.form.cells.length = c.form.cells.take a.form.cells.length := by rw [List.take_take, Nat.min_eq_left (take_le t1)]
      rw [← e, t2, t1]
    · obtain ⟨y, hy⟩ := mid j x hx
      exact okp_trans (o1 j x y hx hy) (o2 j y z hy hz)
    · obtain ⟨y, hy⟩ := mid j _ e1
      obtain ⟨y', hy'⟩ := mid k _ e3
      obtain ⟨m1, rfl⟩ := okp_al (o1 j _ _ e1 hy)
      obtain ⟨m2, rfl⟩ := okp_al (o1 k _ _ e3 hy')
      exact (p1 j k _ _ _ _ _ _ _ _ e1 hy e3 hy').trans (p2 j k _ _ _ _ _ _ _ _ hy e2 hy' e4)
  · unfold ms
    rw [if_neg (fun q => hw q.1)]
    simpa using hw
theorem idx_pairs (P : List (Int × Int)) (hP : ∀ p ∈ P, ∀ q ∈ P, (p.1 = q.1 ↔ p.2 = q.2)) : ∀ (S : List (Int × Int)), (∀ s ∈ S, s ∈ P) → ∀ p ∈ P, ((p.1 ∈ S.map (·.1)) ↔ (p.2 ∈ S.map (·.2))) ∧ (S.map (·.1)).idxOf p.1 = (S.map (·.2)).idxOf p.2
  | [], _, p, hp => by simp
  | s :: S, hS, p, hp => by
    have ih := idx_pairs P hP S (fun x hx => hS x (.tail _ hx)) p hp
    have e := hP s (hS s (.head _)) p hp
    constructor
    · simp only [List.map_cons, List.mem_cons]
      rw [ih.1]
      have : (p.1 = s.1) ↔ (p.2 = s.2) := ⟨fun h => (e.mp h.symm).symm, fun h => (e.mpr h.symm).symm⟩
      rw [this]
    · simp only [List.map_cons, List.idxOf_cons]
      by_cases h : s.1 = p.1
      · have h2 := e.mp h
        simp [h, h2]
      · have h2 : ¬ s.2 = p.2 := fun q => h (e.mpr q)
        have b1 : (s.1 == p.1) = false := by simpa using h
        have b2 : (s.2 == p.2) = false := by simpa using h2
        rw [b1, b2, ih.2]
theorem plains_eq (P : List (Int × Int)) (hP : ∀ p ∈ P, ∀ q ∈ P, (p.1 = q.1 ↔ p.2 = q.2)) : ∀ (g g' : List Lf) (S : List (Int × Int)), g.length = g'.length → (∀ s ∈ S, s ∈ P) →
    (∀ (j : Nat) x y, g[j]? = some x → g'[j]? = some y → (x = y ∧ ∀ o f, x ≠ .al o f) ∨ ∃ o p f, x = .al o f ∧ y = .al p f ∧ ((o.val : Int), (p.val : Int)) ∈ P) → plains (S.map (·.1)) g = plains (S.map (·.2)) g'
  | [], [], _, _, _, _ => rfl
  | [], _ :: _, _, h, _, _ => by simp at h
  | _ :: _, [], _, h, _, _ => by simp at h
  | x :: g, y :: g', S, hl, hS, h => by
    have ih := fun S hS => plains_eq P hP g g' S (by simpa using hl) hS fun j x y hx hy => h (j + 1) x y hx hy
    simp only [plains]
    rcases h 0 x y rfl rfl with ⟨rfl, hna⟩ | ⟨o, p, f, rfl, rfl, hp⟩
    · have e1 : plainPy (S.map (·.1)) x = plainPy (S.map (·.2)) x := by
        cases x with
        | al o f => exact absurd rfl (hna o f)
        | _ => rfl
      have e2 : ∀ l, seenN l x = l := fun l => by
        cases x with
        | al o f => exact absurd rfl (hna o f)
        | _ => rfl
      rw [e1, e2, e2, ih S hS]
    · have hi := idx_pairs P hP S hS _ hp
      simp only at hi
      have hi2 := idx_pairs P hP (S ++ [((o.val : Int), (p.val : Int))]) (fun s hs => by
        rcases List.mem_append.mp hs with hs | hs
        · exact hS s hs
        · rw [List.mem_singleton.mp hs]; exact hp) _ hp
      simp only [List.map_append, List.map_cons, List.map_nil] at hi2
      by_cases hm : (o.val : Int) ∈ S.map (·.1)
      · have hm' := hi.1.mp hm
        simp only [plainPy, seenN, hm, hm', if_true, hi.2]
        rw [ih S hS]
      · have hm' : (p.val : Int) ∉ S.map (·.2) := fun q => hm (hi.1.mpr q)
        simp only [plainPy, seenN, hm, hm', if_false, hi2.2]
        have := ih (S ++ [((o.val : Int), (p.val : Int))]) fun s hs => by
          rcases List.mem_append.mp hs with hs | hs
          · exact hS s hs
          · rw [List.mem_singleton.mp hs]; exact hp
        simp only [List.map_append, List.map_cons, List.map_nil] at this
        rw [this]
theorem ms_plain {a b : Rn} (ha : a.wf) (hb : b.wf) (k : Kin a b) (h1 : ms a b = true) (h2 : ms b a = true) (hw : a.word = "value") : a.plain = b.plain := by
  obtain ⟨wb, s1, o1, p1⟩ := ms_value h1 hw
  obtain ⟨_, s2, o2, p2⟩ := ms_value h2 wb
  obtain ⟨c1, t1⟩ := same_iff.mp s1
  obtain ⟨c2, t2⟩ := same_iff.mp s2
  have l1 := take_le t1
  have l2 := take_le t2
  have hcells : a.form.cells = b.form.cells := by
    rw [List.take_of_length_le (by omega)] at t1; exact t1.symm
  have hform : a.form = b.form := by
    have hr := k.res
    revert hr c1 hcells
    cases a.form; cases b.form
    rintro h1 h2 h3
    simp only at h1 h2 h3
    rw [h1, h2, h3]
  have hgl : a.gr.length = b.gr.length := by rw [ha.len, hb.len, hform]
  rw [oks_iff] at o1 o2
  have hP := (cons_iff _).mp p1
  unfold Rn.plain
  rw [hw, wb, hform]
  have := plains_eq (prs (a.gr.zip b.gr)) hP a.gr b.gr [] hgl (fun s hs => by simp at hs) fun j x y hx hy => by
    have h1 := o1 j x y hx hy
    have h2 := o2 j y x hy hx
    cases x with
    | al o f =>
      obtain ⟨p, rfl⟩ := okp_al h1
      exact .inr ⟨o, p, f, rfl, rfl, mem_prs.mpr ⟨j, o, f, p, f, hx, hy, rfl, rfl⟩⟩
    | poi => cases y <;> simp [okp] at h2; exact .inl ⟨rfl, fun _ _ e => by cases e⟩
    | int n => refine .inl ⟨?_, fun _ _ e => by cases e⟩; simpa [okp] using h1
    | nul => refine .inl ⟨?_, fun _ _ e => by cases e⟩; simpa [okp] using h1
    | glo n => refine .inl ⟨?_, fun _ _ e => by cases e⟩; simpa [okp] using h1
  simp only [List.map_nil] at this
  rw [this]
end
-- N2
section
section
variable {G : Cx} {A : Around} {env : Env} {Y : List (Addr × Obj)} {Z : Heap} {σ : Sg} {s : Shared} {pos : Pos}
theorem B.swap {p q : Addr × MO} {h : Heap} (b : B G Y Z (p :: q :: σ) h) : B G Y Z (q :: p :: σ) h := by
  refine ⟨b.base, b.sub, b.priv, fun r hr => b.objs r ?_, ?_, fun r hr hm => b.ap r hr ?_, b.yn⟩
  · rcases List.mem_cons.mp hr with rfl | hr
    · exact .tail _ (.head _)
    · rcases List.mem_cons.mp hr with rfl | hr
      · exact .head _
      · exact .tail _ (.tail _ hr)
  · have nd := b.nd
    simp only [List.map_cons, List.nodup_cons, List.mem_cons, not_or] at nd ⊢
    exact ⟨⟨fun e => nd.1.1 e.symm, nd.2.1⟩, nd.1.2, nd.2.2⟩
  · simp only [List.map_cons, List.mem_cons] at hm ⊢
    rcases hm with h | h | h
    · exact .inr (.inl h)
    · exact .inl h
    · exact .inr (.inr h)
/-- the new frame of a comprehension that has one cell of its own -/
theorem comp_env1 {scope : Scope} {cl : List (Str × Addr)} {x : Str} {Q : Env → Shared → Prop} {E : Value → Shared → Prop} {M : Model} (b : B G Y Z σ s.heap) (hcf : ∀ n, cellsFrom n scope.names cl = (x, n) :: cl)
    (hpc : ∀ h, pushCells h scope.names = h.push { cls := .type "cell", data := .cell none })
    (k : ∀ C c s', B G Y Z ((C, .ns []) :: (c, .cell none) :: σ) s'.heap → Sm s s' → Q (newEnv scope C env.globals ((x, c) :: cl) env.qual none .none (some env) builtinsNs) s') :
    wpAny M A (newFunctionEnv scope env.globals cl [] env.qual none .none (some env)) Q E s := by
  simp only [newFunctionEnv, Option.isSome_some, if_true]
  refine wpAny_bind (wpAny_alloc (wpAny_bind (wpAny_layCells _ (fun _ _ _ => rfl) _ _ _ _ ?_)))
  rw [hcf, hpc, List.forIn_nil]
  refine wpAny_bind (wpAny_pure (wpAny_pure (k _ _ _ ?_ ⟨_, _, rfl⟩)))
  exact ((b.add (le_push _ _) (Nat.le_refl _) (.ns (loc := []) (m := fun _ => none) (Heap.Ns.new ..) fun y w e => absurd (show (none : Option V) = some w from e) (by simp))).add (le_push _ _) (Nat.le_refl _) (.cell0 ⟨_, Heap.get?_push_size _ rfl, rfl⟩)).swap

/-- the turn of a comprehension that has a cell of its own -/
def LCt1 (G : Cx) (A : Around) (env : Env) (scope : Scope) (cl : List (Str × Addr)) (x1 : Str) (target elt : Expr) (I : List V → Nat → List V → Sg → Prop) (xs : List V) : Prop :=
  ∀ C c D o i x us σ2, xs[i]? = some x → us.length ≤ i → I xs i us σ2 → WG G A (compEnvC scope ((x1, c) :: cl) C env) ((C, .ns []) :: (c, .cell o) :: (D, .vl us) :: σ2) target x fun σ3 =>
    WE G A (compEnvC scope ((x1, c) :: cl) C env) σ3 elt fun v σ5 => ∃ o' σ6, I xs (i + 1) (us ++ [v]) σ6 ∧ Sees G σ5 ((C, .ns []) :: (c, .cell o') :: (D, .vl us) :: σ6)
theorem LC_core1 {elt target iter : Expr} {scope : Scope} {cl : List (Str × Addr)} {x1 : Str} {pos' : Pos} {use : Option (Value → Sem Unit)} {Q : Value → Shared → Prop} (I : List V → Nat → List V → Sg → Prop)
    (hWI : WI G A env σ target iter fun xs σ1 => (∃ σ0, I xs 0 [] σ0 ∧ Sees G σ1 σ0) ∧ xs.length ≤ 1000 ∧ LCt1 G A env scope cl x1 target elt I xs ∧
      ∀ us σ', I xs xs.length us σ' → ∃ v', FzV (.vl us) v' ∧ ∀ C Z' s' a, Le Z Z' → B G Y Z' ((C, .ns []) :: σ') s'.heap → Sm s s' → VR G Z' v' a → compPost (MM G) A E0 use Q a C (.ok .next) s')
    (b : B G Y Z σ s.heap) (hs : ∀ x, foldedSetIterable iter env x = pure x) (hclos : closureFor scope env = pure cl) (hcf : ∀ n, cellsFrom n scope.names cl = (x1, n) :: cl)
    (hpc : ∀ h, pushCells h scope.names = h.push { cls := .type "cell", data := .cell none }) (hkind : scope.kind = .function)
    (hnames : ∀ x ∈ scope.names, x.2 = .local → scope.names.lookup x.1 = some .local) :
    wpAny (MM G) A (comprehension (.ListComp elt [⟨target, iter, [], 0⟩] scope pos) scope env pos' (newList []) false (eval iter env) use) Q E0 s := by
  refine wpAny_comprehension_free (g := ⟨target, iter, [], 0⟩) (gs := []) rfl hs hclos hkind hnames (wpAny_mono (hWI Y Z s b) (fun x s1 h1 => wpAny_mono h1 (fun it s2 h2 => ?_) E0.any) E0.any)
  obtain ⟨Z2, σ2, xs, S, Y0, le2, b2, sm2, hS, T, ⟨σ0, h0, se0⟩, hlen, ht, hfin⟩ := h2
  replace b2 := se0 _ _ _ b2
  refine wpAny_newList (comp_env1 (x := x1) (vl_new b2) hcf hpc fun C c s4 b4 sm4 => ?_)
  have smA : Sm s s4 := sm2.trans (Sm.trans ⟨_, _, rfl⟩ sm4)
  generalize hD : s2.heap.objs.size = D at b4 ⊢
  have loop : codeAny (MM G) A (.compLoop (.ListComp elt [⟨target, iter, [], 0⟩] scope pos) 0 it (.ref D) (compEnvC scope ((x1, c) :: cl) C env)) (compPost (MM G) A E0 use Q (.ref D) C) s4 := by
    refine comp_loop (target := target) (iter := iter) (ifs := []) (fun i σ' => ∃ us o σ3, σ' = (C, .ns []) :: (c, .cell o) :: (D, .vl us) :: σ3 ∧ us.length ≤ i ∧ I xs i us σ3) (by rfl) rfl rfl rfl T b4 hS ⟨[], _, _, rfl, Nat.le_refl _, h0⟩ ?_ ?_
    · rintro i x _ hx ⟨us, o, σ3, rfl, hl, hI⟩
      refine (ht C c D o i x us σ3 hx hl hI).mono fun _ σ3 h3 => WTs_nil ?_
      refine W_emit (Wt.mono (Wt.post (K' := fun v σ'' => ∃ o' σ6, σ'' = (C, .ns []) :: (c, .cell o') :: (D, .vl us) :: σ6 ∧ I xs (i + 1) (us ++ [v]) σ6) h3 ?_) ?_)
      · rintro v σ5 ⟨o', σ6, hI, se⟩
        exact ⟨_, ⟨o', σ6, rfl, hI⟩, se⟩
      · rintro v _ ⟨o', σ6, rfl, hI⟩
        have hi : i < xs.length := (List.getElem?_eq_some_iff.mp hx).1
        exact ⟨us, _, .tail (.tail (.head _)), by omega, _, ⟨us ++ [v], o', σ6, rfl, by simp; omega, hI⟩, .refl _⟩
    · rintro Z' σ' s' le' b' sm' ⟨us, o, σ3, rfl, hl, hI⟩
      obtain ⟨v', f, k⟩ := hfin us σ3 hI
      obtain ⟨Z5, le5, b5, o5⟩ := b'.freeze (q := (D, .vl us)) (.tail (.tail (.head _)))
      exact k C Z5 s' (.ref D) (fun c o e => le5 c o (le' c o (le2 c o e))) (b5.drop (.cons_cons _ (.cons _ (List.Sublist.refl _)))) (smA.trans sm') (f.vr o5)
  exact codeAny_compStart_any rfl rfl rfl (fun _ => rfl) loop (T.self 0 Y Y0 Z2 _ s4 _ hS (fun _ _ e => e) (b4.drop ((List.Sublist.refl _))) loop)
theorem WE_LC1 {elt target iter : Expr} {scope : Scope} {cl : List (Str × Addr)} {x1 : Str} {K : V → Sg → Prop} (I : List V → Nat → List V → Sg → Prop)
    (hWI : WI G A env σ target iter fun xs σ1 => (∃ σ0, I xs 0 [] σ0 ∧ Sees G σ1 σ0) ∧ xs.length ≤ 1000 ∧ LCt1 G A env scope cl x1 target elt I xs ∧ ∀ us σ', I xs xs.length us σ' → ∃ v', FzV (.vl us) v' ∧ K v' σ')
    (hs : ∀ x, foldedSetIterable iter env x = pure x := by intro _; rfl) (hclos : closureFor scope env = pure cl := by with_unfolding_all rfl) (hcf : ∀ n, cellsFrom n scope.names cl = (x1, n) :: cl := by intro _; with_unfolding_all rfl)
    (hpc : ∀ h, pushCells h scope.names = h.push { cls := .type "cell", data := .cell none } := by intro _; with_unfolding_all rfl) (hkind : scope.kind = .function := by with_unfolding_all rfl)
    (hnames : ∀ x ∈ scope.names, x.2 = .local → scope.names.lookup x.1 = some .local := by decide) :
    WE G A env σ (.ListComp elt [⟨target, iter, [], 0⟩] scope pos) K := by
  intro Y Z s b
  show wpAny _ A (eval _ env) _ _ _
  rw [eval_ListComp]
  refine LC_core1 (cl := cl) (x1 := x1) I (hWI.mono fun xs σ1 ⟨h0, h1, h2, h3⟩ => ⟨h0, h1, h2, fun us σ' hI => ?_⟩) b hs hclos hcf hpc hkind hnames
  obtain ⟨v', f, k⟩ := h3 us σ' hI
  refine ⟨v', f, fun C Z' s' a le' b' sm' r => ?_⟩
  cases (b'.objs _ (.head _)).1 with
  | ns hn _ => exact ⟨_, hn, fun h' hs' => ⟨Z', v', σ', le', b'.but hs'.extBut, sm'.trans ⟨_, _, rfl⟩, r, k⟩⟩
end
end
-- P16
section
section
variable {G : Cx} {A : Around} {env : Env} {σ : Sg} {M : Model} {s : Shared} {E : Value → Shared → Prop}
theorem wpAny_And3 {x y z : Expr} {pos : Pos} {Q : Value → Shared → Prop}
    (h : wpAny M A (eval x env) (fun v s₁ => wpAny M A (truthy v) (fun t s₂ => if t then wpAny M A (eval (.BoolOp .And [y, z] pos) env) Q E s₂ else Q v s₂) E s₁) E s) :
    wpAny M A (eval (.BoolOp .And [x, y, z] pos) env) Q E s := by
  show wpAny M A (do
    let v ← eval x env
    standAt pos
    let t ← holding [v] (truthy v)
    match BoolOp.And, t with
    | .And, false | .Or, true => pure v
    | _, _ => boolOp pos .And [eval y env, eval z env]) Q E s
  refine wpAny_bind (wpAny_mono h (fun v s₁ h₁ => wpAny_bind (wpAny_standAt (wpAny_bind (wpAny_holding (wpAny_mono h₁ (fun t s₂ h₂ => ?_) fun _ _ x => x))))) fun _ _ x => x)
  cases t with
  | false => exact wpAny_pure h₂
  | true => exact h₂
theorem WE_and3 {K : V → Sg → Prop} {x y z : Expr} {p : Pos} (h : WE G A env σ x fun v σ1 => ∃ c, v = .d (.bool c) ∧ if c then WE G A env σ1 (.BoolOp .And [y, z] p) K else K (.d (.bool false)) σ1) : WE G A env σ (.BoolOp .And [x, y, z] p) K := by
  intro Y Z s b
  refine wpAny_And3 (h.bind b fun Z1 v σ1 a s1 le1 b1 sm1 r1 k1 => ?_)
  obtain ⟨c, rfl, k1⟩ := k1
  refine wpTruthyB r1 ?_
  cases c with
  | true => exact wpBack le1 sm1 (k1 Y Z1 s1 b1)
  | false => exact ⟨Z1, _, σ1, le1, b1, sm1, r1, k1⟩
end
theorem plainPy_ok (l : List Int) (x : Lf) : OkN 1 (plainPy l x) := by
  cases x with
  | al o f => exact .tuple (.cons (.str (by decide +kernel)) (.cons (.int _) (.cons (.int _) (.of fun d hd => by cases hd))))
  | poi => exact Lf.ok .poi
  | int n => exact Lf.ok (.int n)
  | nul => exact Lf.ok .nul
  | glo n => exact Lf.ok (.glo n)
theorem plains_ok : ∀ (l : List Int) (gs : List Lf), ∀ d ∈ plains l gs, OkN 1 d
  | _, [], d, h => by cases h
  | l, x :: r, d, h => by
    rcases List.mem_cons.mp h with rfl | h
    · exact plainPy_ok l x
    · exact plains_ok _ r d h
theorem Rn.plain_ok {r : Rn} (h : r.wf) : OkN 5 r.plain := by
  have hc : ∀ c ∈ r.form.calls, PyData.strOk c.1 = true := fun c hc => (h.k c (List.mem_append_left _ hc)).1
  have hd : ∀ c ∈ r.form.cells, PyData.strOk c.1 = true := fun c hc => (h.k c (List.mem_append_right _ hc)).1
  have hf : OkN 4 r.form.py := .tuple (.cons (r.form.res.ok.le (by decide)) (.cons (sigs_ok hc) (.cons (sigs_ok hd) (.of fun d hd => by cases hd))))
  exact .tuple (.cons (.str h.w) (.cons hf (.cons ((OkN.list (n := 1) (.of (plains_ok [] r.gr))).le (by decide)) (.of fun d hd => by cases hd))))
theorem law_loops {G : Cx} (P : Pk G) {A : Around} (rm : Room 12 A) (L : Addr) (q : Str) (f : Addr) (c : Value) (wa : Addr) (bt : Option V) (rs : List Rn) (hl : rs.length = 3) (hw : ∀ r ∈ rs, r.wf) (hk : ∀ a ∈ rs, ∀ b ∈ rs, Kin a b) :
    WSs G A (En (fdI 17).scope L (cellsFrom (L + 1) (fdI 17).scope.names []) q f c) [(L, .ns [("well", .r wa), ("runs", .d (.list (rs.map Rn.py)))]), (L + 4, .cell none), (L + 3, .cell none), (L + 2, .cell (some (.d (.list (rs.map fun a => .list (rs.map fun b => .bool (ms a b))))))), (L + 1, .cell bt)]
      ((fdI 17).body.drop 5) fun fl _ => fl = .ret (.d (.bool true)) := by
  let hP : Pg G := P.toPg
  have hrow : ∀ (i : Nat) (a : Rn), rs[i]? = some a → (rs.map fun a => PyData.list (rs.map fun b => .bool (ms a b)))[(i : Int).toNat]? = some (.list (rs.map fun b => .bool (ms a b))) := fun i a h => by rw [Int.toNat_natCast, List.getElem?_map, h]; rfl
  have hent : ∀ (a : Rn) (i : Nat) (b : Rn), rs[i]? = some b → (rs.map fun b => PyData.bool (ms a b))[(i : Int).toNat]? = some (.bool (ms a b)) := fun a i b h => by rw [Int.toNat_natCast, List.getElem?_map, h]; rfl
  have hrun : ∀ (i : Nat) (b : Rn), rs[i]? = some b → (rs.map Rn.py)[(i : Int).toNat]? = some b.py := fun i b h => by rw [Int.toNat_natCast, List.getElem?_map, h]; rfl
  have hs1 : (rs.map fun a => PyData.list (rs.map fun b => .bool (ms a b))).length < 2 ^ 63 := by rw [List.length_map, hl]; decide
  have hs2 : ∀ a, (rs.map fun b => PyData.bool (ms a b)).length < 2 ^ 63 := fun a => by rw [List.length_map, hl]; decide
  have hs3 : (rs.map Rn.py).length < 2 ^ 63 := by rw [List.length_map, hl]; decide
  show WSs G A _ _ (_ :: _ :: []) _
  generalize hT : (rs.map fun a => PyData.list (rs.map fun b => .bool (ms a b))) = T at hrow hs1 ⊢
  refine WSs_cons (WS_ForR (fun _ => False) (fun xs i σ => ∃ va vb, xs.length = 3 ∧ σ = [(L, .ns [("well", .r wa), ("runs", .d (.list (rs.map Rn.py)))]), (L + 4, .cell vb), (L + 3, .cell va), (L + 2, .cell (some (.d (.list T)))), (L + 1, .cell bt)]) ?_)
  refine WI_range P.toPg rm ?_
  repeat walk_at "one"
  refine ⟨by decide, by decide, ⟨_, ⟨none, none, by rw [rangeV_len]; rfl, rfl⟩, by walk_at "sees"⟩, ?_, fun v σ2 h => h.elim, ?_⟩
  · rintro i x _ hx ⟨va, vb, hxl, rfl⟩
    obtain ⟨hi, rfl⟩ := rangeV_get hx
    obtain ⟨a, ha⟩ : ∃ a, rs[i]? = some a := ⟨_, List.getElem?_eq_getElem (by omega)⟩
    have hma := List.mem_of_getElem? ha
    refine WG_cell (c := L + 3) rfl (by walk_at "up") ?_
    repeat walk_at "one"
    refine sub_dl (by omega) (hrow i a ha) hs1 ?_
    repeat walk_at "one"
    refine sub_dl (by omega) (hent a i a ha) (hs2 a) ?_
    rw [ms_refl]
    repeat walk_at "one"
    refine if_f ?_
    repeat walk_at "one"
    refine WS_ForR (fun _ => False) (fun xs j σ => ∃ vb, xs.length = 3 ∧ σ = [(L, .ns [("well", .r wa), ("runs", .d (.list (rs.map Rn.py)))]), (L + 4, .cell vb), (L + 3, .cell (some (.d (.int i)))), (L + 2, .cell (some (.d (.list T)))), (L + 1, .cell bt)]) ?_
    refine WI_range P.toPg rm ?_
    repeat walk_at "one"
    refine ⟨by decide, by decide, ⟨_, ⟨vb, by rw [rangeV_len]; rfl, rfl⟩, by walk_at "sees"⟩, ?_, fun v σ2 h => h.elim, ?_⟩
    · rintro j x _ hx2 ⟨vb, hxl2, rfl⟩
      obtain ⟨hj, rfl⟩ := rangeV_get hx2
      obtain ⟨b, hb⟩ : ∃ b, rs[j]? = some b := ⟨_, List.getElem?_eq_getElem (by omega)⟩
      have hmb := List.mem_of_getElem? hb
      refine WG_cell (c := L + 4) rfl (by walk_at "up") ?_
      refine WSs_cons (WS_If (WT_Cmp ?_))
      repeat walk_at "one"
      refine sub_dl (by omega) (hrow i a ha) hs1 ?_
      repeat walk_at "one"
      refine sub_dl (by omega) (hent a j b hb) (hs2 a) ?_
      repeat walk_at "one"
      refine sub_dl (by omega) (hrun i a ha) hs3 ?_
      repeat walk_at "one"
      refine sub_dl (by omega) (hrun j b hb) hs3 ?_
      repeat walk_at "one"
      refine (may_ok P.toPg a b (hw a hma) (hw b hmb)).none1 rm (fun v os' ⟨e, e'⟩ => ⟨e', ?_⟩) (by omega)
      subst e
      repeat walk_at "one"
      rw [bool_ne, show (ms a b != ms a b) = false from by cases ms a b <;> rfl]
      refine if_f ?_
      repeat walk_at "one"
      refine Wt.mono (K := fun v σ' => ∃ m : Bool, v = .d (.bool m) ∧ (m = true → ms a b = true ∧ ms b a = true ∧ a.word = "value") ∧ σ' = [(L, .ns [("well", .r wa), ("runs", .d (.list (rs.map Rn.py)))]), (L + 4, .cell (some (.d (.int j)))), (L + 3, .cell (some (.d (.int i)))), (L + 2, .cell (some (.d (.list T)))), (L + 1, .cell bt)]) ?_ ?_
      · refine WE_and3 ?_
        repeat walk_at "one"
        refine sub_dl (by omega) (hrow i a ha) hs1 ?_
        repeat walk_at "one"
        refine sub_dl (by omega) (hent a j b hb) (hs2 a) ?_
        repeat walk_at "one"
        refine if_b (fun m1 => ?_) (fun m1 => ⟨_, rfl, (fun e => nomatch e), rfl⟩)
        refine WE_and2 ?_
        repeat walk_at "one"
        refine sub_dl (by omega) (hrow j b hb) hs1 ?_
        repeat walk_at "one"
        refine sub_dl (by omega) (hent b i a ha) (hs2 b) ?_
        repeat walk_at "one"
        refine if_b (fun m2 => ?_) (fun m2 => ⟨_, rfl, (fun e => nomatch e), rfl⟩)
        repeat walk_at "one"
        refine sub_dl (by omega) (hrun i a ha) hs3 ?_
        walk_at "one"
        show W2 G A _ _ _ (.d (.tuple [.str a.word, a.form.py, .list (a.gr.map Lf.py)])) _ _
        repeat walk_at "one"
        refine eq_ok rm (OkN.str (n := 0) (hw a hma).w).ok (OkN.str (n := 0) (by decide +kernel)).ok ?_
        rw [str_eqv]
        exact ⟨_, rfl, fun e => ⟨m1, m2, by simpa using e⟩, rfl⟩
      rintro _ _ ⟨m, rfl, hm, rfl⟩
      refine WG_local (L := L) (by walk_at "up") (Kx_next ?_)
      refine WSs_cons (WS_If ?_)
      refine Wt.mono (K := fun ok σ' => ok = false ∧ σ' = [(L, .ns [("well", .r wa), ("runs", .d (.list (rs.map Rn.py))), ("is_mutual", .d (.bool m))]), (L + 4, .cell (some (.d (.int j)))), (L + 3, .cell (some (.d (.int i)))), (L + 2, .cell (some (.d (.list T)))), (L + 1, .cell bt)]) ?_ ?_
      · repeat walk_at "one"
        refine if_b (fun em => ?_) (fun em => ⟨rfl, rfl⟩)
        obtain ⟨m1, m2, ew⟩ := hm em
        repeat walk_at "one"
        refine sub_dl (by omega) (hrun i a ha) hs3 ?_
        repeat walk_at "one"
        refine (plain_ok P.toPg a (Nat.le_trans (hw a hma).gr (by decide))).none1 rm (fun v os' ⟨e, e'⟩ => ⟨e', ?_⟩) (by omega)
        subst e
        repeat walk_at "one"
        refine sub_dl (by omega) (hrun j b hb) hs3 ?_
        repeat walk_at "one"
        refine (plain_ok P.toPg b (Nat.le_trans (hw b hmb).gr (by decide))).none1 rm (fun v os' ⟨e, e'⟩ => ⟨e', ?_⟩) (by omega)
        subst e
        refine ne_ok rm (Rn.plain_ok (hw a hma)).ok (Rn.plain_ok (hw b hmb)).ok ?_
        rw [ms_plain (hw a hma) (hw b hmb) (hk a hma b hmb) m1 m2 ew, PySem.SeqAt.eqv_refl _ (Rn.plain_ok (hw b hmb)).1]
        repeat walk_at "one"
        refine if_f ?_
        exact ⟨rfl, rfl⟩
      rintro _ _ ⟨rfl, rfl⟩
      refine if_f (WSs_nil (Kx_next ?_))
      refine WSs_cons (WS_If ?_)
      refine Wt.mono (K := fun ok σ' => ok = false ∧ σ' = [(L, .ns [("well", .r wa), ("runs", .d (.list (rs.map Rn.py))), ("is_mutual", .d (.bool m))]), (L + 4, .cell (some (.d (.int j)))), (L + 3, .cell (some (.d (.int i)))), (L + 2, .cell (some (.d (.list T)))), (L + 1, .cell bt)]) ?_ ?_
      · repeat walk_at "one"
        refine sub_dl (by omega) (hrow i a ha) hs1 ?_
        repeat walk_at "one"
        refine sub_dl (by omega) (hent a j b hb) (hs2 a) ?_
        repeat walk_at "one"
        refine if_b (fun m1 => ?_) (fun m1 => ⟨rfl, rfl⟩)
        refine WA_and (WT_Cmp ?_)
        refine WE_LC (fun xs k us σ => xs.length = 3 ∧ us = [] ∧ σ = [(L, .ns [("well", .r wa), ("runs", .d (.list (rs.map Rn.py))), ("is_mutual", .d (.bool m))]), (L + 4, .cell (some (.d (.int j)))), (L + 3, .cell (some (.d (.int i)))), (L + 2, .cell (some (.d (.list T)))), (L + 1, .cell bt)]) ?_
        refine WI_range P.toPg rm ?_
        repeat walk_at "one"
        refine ⟨by decide, by decide, ⟨_, ⟨by rw [rangeV_len]; rfl, rfl, rfl⟩, by walk_at "sees"⟩, by rw [rangeV_len]; decide, ?_, ?_⟩
        · rintro C D k x us _ hx3 _ ⟨hxl3, rfl, rfl⟩
          obtain ⟨hkk, rfl⟩ := rangeV_get hx3
          obtain ⟨d, hd⟩ : ∃ d, rs[k]? = some d := ⟨_, List.getElem?_eq_getElem (by omega)⟩
          have hmd := List.mem_of_getElem? hd
          refine WG_local (L := C) (by walk_at "up") ?_
          refine WTs_one (WT_Bool ?_)
          repeat walk_at "one"
          refine sub_dl (by omega) (hrow j b hb) hs1 ?_
          repeat walk_at "one"
          refine sub_dl (by omega) (hent b k d hd) (hs2 b) ?_
          repeat walk_at "one"
          refine if_b (fun m2 => ?_) (fun m2 => ?_)
          · repeat walk_at "one"
            refine sub_dl (by omega) (hrow i a ha) hs1 ?_
            repeat walk_at "one"
            refine sub_dl (by omega) (hent a k d hd) (hs2 a) ?_
            rw [ms_trans (hw a hma) (hw b hmb) (hw d hmd) (hk a hma b hmb) (hk b hmb d hmd) m1 m2]
            repeat walk_at "one"
            refine if_f ?_
            refine if_f ?_
            exact ⟨_, ⟨hxl3, rfl, rfl⟩, by walk_at "sees"⟩
          · refine if_f ?_
            exact ⟨_, ⟨hxl3, rfl, rfl⟩, by walk_at "sees"⟩
        · rintro _ _ ⟨_, rfl, rfl⟩
          refine ⟨_, .vd [], ?_⟩
          refine WE_LisD (WDs_nil ⟨by decide, ?_⟩)
          refine ne_ok rm (OkN.ok (n := 1) (.list (.nil 0))) (OkN.ok (n := 1) (.list (.nil 0))) ?_
          rw [PySem.SeqAt.eqv_refl _ (OkN.ok (n := 1) (.list (.nil 0))).1]
          repeat walk_at "one"
          refine if_f ?_
          exact ⟨rfl, rfl⟩
      rintro _ _ ⟨rfl, rfl⟩
      refine if_f ?_
      repeat walk_at "one"
      exact FoR_next ⟨_, hxl2, rfl⟩ (by walk_at "sees")
    · rintro _ ⟨vb, _, rfl⟩
      repeat walk_at "one"
      exact FoR_next ⟨_, _, hxl, rfl⟩ (by walk_at "sees")
  · rintro _ ⟨va, vb, _, rfl⟩
    repeat walk_at "one"
    try exact rfl
end
-- P17
section
theorem law_tail {G : Cx} (P : Pk G) {A : Around} (rm : Room 12 A) (L : Addr) (q : Str) (f : Addr) (c : Value) (wa : Addr) (rs : List Rn) (hl : rs.length = 3) (hw : ∀ r ∈ rs, r.wf) (hk : ∀ a ∈ rs, ∀ b ∈ rs, Kin a b) :
    WSs G A (En (fdI 17).scope L (cellsFrom (L + 1) (fdI 17).scope.names []) q f c) [(L, .ns [("well", .r wa), ("runs", .d (.list (rs.map Rn.py)))]), (L + 4, .cell none), (L + 3, .cell none), (L + 2, .cell none), (L + 1, .cell none)]
      ((fdI 17).body.drop 3) fun fl _ => fl = .ret (.d (.bool true)) := by
  let hP : Pg G := P.toPg
  show WSs G A _ _ (_ :: _ :: _ :: _ :: []) _
  refine WSs_cons (WS_Assign (WE_LC (fun xs i us σ => xs.length = 3 ∧ us = (rs.take i).map Rn.bv ∧ σ = [(L, .ns [("well", .r wa), ("runs", .d (.list (rs.map Rn.py)))]), (L + 4, .cell none), (L + 3, .cell none), (L + 2, .cell none), (L + 1, .cell none)]) ?_))
  refine WI_val rm ?_
  repeat walk_at "one"
  refine ⟨_, Seqs.l _, ⟨_, ⟨by simpa using hl, rfl, rfl⟩, by walk_at "sees"⟩, by simp [hl], ?_, ?_⟩
  · rintro C D i x us _ hx _ ⟨hxl, rfl, rfl⟩
    obtain ⟨u, hu, rfl⟩ := map_get hx
    obtain ⟨r, hr, rfl⟩ := map_get hu
    repeat walk_at "one"
    refine WTs_nil (if_t ?_)
    repeat walk_at "one"
    refine (built_ok P.toPg r (hw r (List.mem_of_getElem? hr))).none1 rm (fun v os' ⟨e, e'⟩ => ⟨e', ?_⟩) (by omega)
    subst e
    exact ⟨_, ⟨hxl, by rw [take_succ' hr]; simp, rfl⟩, by walk_at "sees"⟩
  · rintro us _ ⟨_, rfl, rfl⟩
    rw [List.length_map, List.length_map, List.take_length]
    refine ⟨_, .vl _, ?_⟩
    refine WG_cell (c := L + 1) rfl (by walk_at "up") (Kx_next ?_)
    refine WSs_cons (WS_Assign (WE_LC1 (fun xs i us σ => xs.length = 3 ∧ us = (rs.take i).map (fun a => V.d (.list (rs.map fun b => .bool (ms a b)))) ∧ σ = [(L, .ns [("well", .r wa), ("runs", .d (.list (rs.map Rn.py)))]), (L + 4, .cell none), (L + 3, .cell none), (L + 2, .cell none), (L + 1, .cell (some (.vl (rs.map Rn.bv))))]) ?_))
    refine WI_val rm ?_
    repeat walk_at "one"
    refine ⟨_, Seqs.vl _, ⟨_, ⟨by simpa using hl, rfl, rfl⟩, by walk_at "sees"⟩, by simp [hl], ?_, ?_⟩
    · rintro C co D o i x us _ hx _ ⟨hxl, rfl, rfl⟩
      obtain ⟨a, ha, rfl⟩ := map_get hx
      have hma := List.mem_of_getElem? ha
      repeat walk_at "one"
      refine WE_LC (fun xs j us σ => xs.length = 3 ∧ us = ((rs.take j).map fun b => PyData.bool (ms a b)).map V.d ∧ σ = [(C, .ns []), (co, .cell (some a.bv)), (D, .vl ((rs.take i).map (fun a => V.d (.list (rs.map fun b => .bool (ms a b)))))), (L, .ns [("well", .r wa), ("runs", .d (.list (rs.map Rn.py)))]), (L + 4, .cell none), (L + 3, .cell none), (L + 2, .cell none), (L + 1, .cell (some (.vl (rs.map Rn.bv))))]) ?_
      refine WI_val rm ?_
      repeat walk_at "one"
      refine ⟨_, Seqs.vl _, ⟨_, ⟨by simpa using hl, rfl, rfl⟩, by walk_at "sees"⟩, by simp [hl], ?_, ?_⟩
      · rintro C2 D2 j x us _ hx _ ⟨hxl2, rfl, rfl⟩
        obtain ⟨b, hb, rfl⟩ := map_get hx
        have hmb := List.mem_of_getElem? hb
        repeat walk_at "one"
        refine WTs_nil (if_t ?_)
        repeat walk_at "one"
        refine (refined_ok P a b (hw a hma) (hw b hmb) (hk a hma b hmb)).none1 rm (fun v os' ⟨e, e'⟩ => ⟨e', ?_⟩) (by omega)
        subst e
        exact ⟨_, ⟨hxl2, by rw [take_succ' hb]; simp, rfl⟩, by walk_at "sees"⟩
      · rintro us _ ⟨_, rfl, rfl⟩
        rw [List.length_map, List.take_length]
        refine ⟨_, .vd _, ?_⟩
        exact ⟨_, _, ⟨hxl, by rw [take_succ' ha]; simp, rfl⟩, by walk_at "sees"⟩
    · rintro us _ ⟨_, rfl, rfl⟩
      rw [List.length_map, List.take_length]
      have e3 : rs.map (fun a => V.d (.list (rs.map fun b => .bool (ms a b)))) = (rs.map fun a => PyData.list (rs.map fun b => .bool (ms a b))).map V.d := by simp
      rw [e3]
      refine ⟨_, .vd _, ?_⟩
      refine WG_cell (c := L + 2) rfl (by walk_at "up") (Kx_next ?_)
      exact law_loops P rm L q f c wa _ rs hl hw hk
end
-- P18
section
theorem run_u {G : Cx} {A : Around} {σ : Sg} {m : Nat} (P : Pg G) {wa : Addr} {K : V → Sg → Prop} (rm : Room m A) (hq : (wa, MO.w) ∈ σ) (k : ∀ nb r, Rn.ok nb 2 r → K (.d r.py) σ) (h1 : 3 ≤ m := by omega) : Wn G A σ (VR G) (cl (.ref (P.a 11))) [.r wa] K :=
  (run_ok P wa).same1 rm hq (fun v os' ⟨⟨nb, r, e, h⟩, e'⟩ => ⟨e', e ▸ k nb r h⟩) h1
theorem changed_u {G : Cx} {A : Around} {σ : Sg} {m : Nat} (P : Pg G) {wa : Addr} {r : Rn} {nb n : Nat} {K : V → Sg → Prop} (rm : Room m A) (hq : (wa, MO.w) ∈ σ) (hr : r.ok nb n) (hn : n ≤ 7) (k : ∀ r', Rn.ok nb (n + 1) r' → Ext r r' → K (.d r'.py) σ) (h1 : 3 ≤ m := by omega) : Wn G A σ (VR G) (cl (.ref (P.a 12))) [.r wa, .d r.py] K :=
  (changed_ok P wa r nb n hr hn).same1 rm hq (fun v os' ⟨⟨r', e, h, h'⟩, e'⟩ => ⟨e', e ▸ k r' h h'⟩) h1
/-- what the law has drawn: runs, each made of the one before -/
structure Drawn (nb n : Nat) (rs : List Rn) : Prop where
  ok : ∀ r ∈ rs, Rn.ok nb n r
  ext : rs.Pairwise Ext
theorem drawn_snoc {nb n m : Nat} {rs : List Rn} {l r : Rn} (h : Drawn nb n (rs ++ [l])) (hr : Rn.ok nb m r) (he : Ext l r) (hm : n ≤ m) : Drawn nb m ((rs ++ [l]) ++ [r]) := by
  refine ⟨fun x hx => ?_, ?_⟩
  · rcases List.mem_append.mp hx with hx | hx
    · exact (h.ok x hx).up hm
    · rw [List.mem_singleton.mp hx]; exact hr
  · rw [List.pairwise_append]
    refine ⟨h.ext, by simp, fun x hx y hy => ?_⟩
    rw [List.mem_singleton.mp hy]
    rcases List.mem_append.mp hx with hx1 | hx1
    · have := (List.pairwise_append.mp h.ext).2.2 x hx1 l (by simp)
      exact this.trans he
    · rw [List.mem_singleton.mp hx1]; exact he
theorem law_ok {G : Cx} (P : Pk G) {A : Around} (rm : Room 12 A) (L : Addr) (q : Str) (f : Addr) (c : Value) (ns : List Int) (hns : ns.length ≤ 63) :
    WSs G A (En (fdI 17).scope L (cellsFrom (L + 1) (fdI 17).scope.names []) q f c) (startS (fdI 17).scope L [("script", .vl ((ns.map PyData.int).map V.d))] []) (fdI 17).body fun fl _ => fl = .ret (.d (.bool true)) := by
  let hP : Pg G := P.toPg
  show WSs G A _ [(L, .ns [("script", .vl ((ns.map PyData.int).map V.d))]), (L + 4, .cell none), (L + 3, .cell none), (L + 2, .cell none), (L + 1, .cell none)] _ _
  refine WSs_cons (WS_Assign (WE_LisM (WDs_cons (WE_frz (WE_CallB (by assumption) (WEs_cons (WE_take ?_)))))))
  repeat walk_at "one"
  refine ⟨ns.map PyData.int, .inr rfl, by simp; omega, ?_⟩
  repeat walk_at "one"
  refine ⟨by decide, ?_⟩
  repeat walk_at "one"
  refine list_d (by simp; omega) (fun la => ?_)
  repeat walk_at "one"
  refine ⟨_, _, _, _, rfl, .l _, by walk_at "del", ?_⟩
  repeat walk_at "one"
  intro wa
  rw [← List.map_take]
  refine WG_local (L := L) (by walk_at "up") (Kx_next ?_)
  refine shut_w (.head _) (by simp; omega) (by decide) ?_
  repeat walk_at "one"
  refine WE_LisM ?_
  repeat walk_at "one"
  refine run_u P.toPg rm (by walk_at "mem") fun nb r hr => ?_
  repeat walk_at "one"
  intro ar
  repeat walk_at "one"
  refine WS_ForR (fun _ => False) (fun xs i σ => ∃ rs : List Rn, xs.length = 2 ∧ Drawn nb (2 + 3 * i) rs ∧ rs.length = i + 1 ∧ σ = [(ar, .l (rs.map Rn.py)), (wa, .w), (L, .ns [("well", .r wa), ("runs", .r ar)]), (L + 4, .cell none), (L + 3, .cell none), (L + 2, .cell none), (L + 1, .cell none)]) ?_
  refine WI_range P.toPg rm ?_
  repeat walk_at "one"
  refine ⟨by decide, by decide, ⟨_, ⟨[r], by rw [rangeV_len]; rfl, ⟨fun x hx => by rw [List.mem_singleton.mp hx]; exact hr, by simp⟩, rfl, rfl⟩, by walk_at "sees"⟩, ?_, fun v σ2 h => h.elim, ?_⟩
  · rintro i x _ hx ⟨rs0, hxl, hd, hl, rfl⟩
    obtain ⟨hi, rfl⟩ := rangeV_get hx
    obtain ⟨rs, l, rfl⟩ : ∃ rs' l, rs0 = rs' ++ [l] := ⟨_, _, (List.dropLast_concat_getLast (l := rs0) (by intro e; rw [e] at hl; simp at hl)).symm⟩
    have e1 : (rs ++ [l]).map Rn.py = rs.map Rn.py ++ [l.py] := by simp
    have hl' : rs.length = i := by simpa using hl
    rw [e1]
    walk_at "one"
    walk_at "one"
    refine WS_Assign (WE_Sub ?_)
    repeat walk_at "one"
    refine WE_neg ?_
    repeat walk_at "one"
    refine sub_last (by walk_at "mem") (by simp; omega) ?_
    repeat walk_at "one"
    refine WS_ForR (fun _ => False) (fun xs j σ => ∃ r' : Rn, xs.length ≤ 3 ∧ Rn.ok nb (2 + 3 * i + j) r' ∧ Ext l r' ∧ σ = [(ar, .l (rs.map Rn.py ++ [l.py])), (wa, .w), (L, .ns [("well", .r wa), ("runs", .r ar), ("run", .d r'.py)]), (L + 4, .cell none), (L + 3, .cell none), (L + 2, .cell none), (L + 1, .cell none)]) ?_
    refine WI_range P.toPg rm ?_
    repeat walk_at "one"
    refine draw_u P.toPg rm (by decide) (by walk_at "mem") fun k h0 h1 => ?_
    repeat walk_at "one"
    refine ⟨by omega, by omega, ⟨_, ⟨l, by rw [rangeV_len]; omega, hd.ok l (by simp), Ext.refl _, rfl⟩, by walk_at "sees"⟩, ?_, fun v σ2 h => h.elim, ?_⟩
    · rintro j x _ hx ⟨r', hxl', hr', he, rfl⟩
      obtain ⟨hj, rfl⟩ := rangeV_get hx
      repeat walk_at "one"
      refine changed_u P.toPg rm (by walk_at "mem") hr' (by omega) fun r2 h2 e2 => ?_
      repeat walk_at "one"
      exact FoR_next ⟨r2, hxl', h2, he.trans e2, rfl⟩ (by walk_at "sees")
    · rintro _ ⟨r', hxl', hr', he, rfl⟩
      repeat walk_at "one"
      have e2 : rs.map Rn.py ++ [l.py] ++ [r'.py] = ((rs ++ [l]) ++ [r']).map Rn.py := by simp
      rw [e2]
      exact FoR_next ⟨(rs ++ [l]) ++ [r'], hxl, drawn_snoc hd (hr'.up (by omega)) he (by omega), by simp; omega, rfl⟩ (by walk_at "sees")
  · rintro _ ⟨rs, hxl, hd, hl, rfl⟩
    rw [hxl] at hd hl
    clear hxl hr
    refine Kx_next ?_
    refine Wt_frzL (L := L) (x := "runs") (a := ar) (by walk_at "del") (.l _) ?_ (by walk_at "up") ?_
    · walk_at "lk"
    refine Wt.sees (σ' := [(L, .ns [("well", .r wa), ("runs", .d (.list (rs.map Rn.py)))]), (L + 4, .cell none), (L + 3, .cell none), (L + 2, .cell none), (L + 1, .cell none)]) ?_ (by walk_at "sees")
    refine law_tail P rm L q f c wa rs hl (fun r hr => (hd.ok r hr).wf (by decide)) ?_
    have hp := hd.ext
    intro a ha b hb
    obtain ⟨i, hi, rfl⟩ := List.getElem_of_mem ha
    obtain ⟨j, hj, rfl⟩ := List.getElem_of_mem hb
    rcases Nat.lt_trichotomy i j with h | h | h
    · exact (List.pairwise_iff_getElem.mp hp i j hi hj h).kin
    · subst h; exact (Ext.refl _).kin
    · exact (List.pairwise_iff_getElem.mp hp j i hj hi h).kin.symm
end
-- J1
section
set_option maxHeartbeats 8000000
/-- where the head's heap holds the functions, and their code -/
def fnA : Nat → Addr
  | 2 => 49 | 3 => 56 | 4 => 61 | 5 => 68 | 7 => 75 | 8 => 82 | 9 => 89 | 10 => 96 | 11 => 101 | 12 => 106 | 13 => 113 | 14 => 120 | 15 => 125 | 16 => 132 | 20 => 28 | 21 => 35 | _ => 0
def fnC : Nat → Addr
  | 2 => 48 | 3 => 55 | 4 => 60 | 5 => 67 | 7 => 74 | 8 => 81 | 9 => 88 | 10 => 95 | 11 => 100 | 12 => 105 | 13 => 112 | 14 => 119 | 15 => 124 | 16 => 131 | 20 => 27 | 21 => 34 | _ => 0
def fnQ : Nat → Str
  | 20 => "Pairs.__init__" | 21 => "Pairs.are_one" | i => (fdI i).name
theorem mg_of {w : World} {h : Heap} {mg : Str → Option Value} (KX : (KF w.params).In h) (g : h.Ns mainGlobals mg) {x : Str} {v : Value}
    (hx : ∀ o, (KF w.params).lookup 3 = some o → ∀ es ep, o.data = .dict es ep → nsFind es x = some v) (hl : ((KF w.params).lookup 3).isSome = true) : mg x = some v := by
  obtain ⟨o, es, ep, h1, h2, _, h4⟩ := g
  obtain ⟨o', ho'⟩ := Option.isSome_iff_exists.mp hl
  have e := KX _ _ ho'
  have e2 : o = o' := by
    have : h.get? 3 = some o := h1
    rw [e] at this; exact (Option.some.inj this).symm
  subst e2
  rw [← h4, hx _ ho' es ep h2]
theorem fn2 {G : Cx} (w : World) (KX : (KF w.params).In G.H0) : FnAt G 49 (fdI 2) (fnQ 2) (.ref 48) :=
  ⟨⟨_, _, KX 49 _ rfl, rfl, rfl, rfl, rfl, rfl, rfl, rfl, rfl, rfl, rfl, rfl, ⟨48, _, _, _, rfl, KX 48 _ rfl, rfl, rfl⟩⟩⟩
theorem fn3 {G : Cx} (w : World) (KX : (KF w.params).In G.H0) : FnAt G 56 (fdI 3) (fnQ 3) (.ref 55) :=
  ⟨⟨_, _, KX 56 _ rfl, rfl, rfl, rfl, rfl, rfl, rfl, rfl, rfl, rfl, rfl, rfl, ⟨55, _, _, _, rfl, KX 55 _ rfl, rfl, rfl⟩⟩⟩
theorem fn4 {G : Cx} (w : World) (KX : (KF w.params).In G.H0) : FnAt G 61 (fdI 4) (fnQ 4) (.ref 60) :=
  ⟨⟨_, _, KX 61 _ rfl, rfl, rfl, rfl, rfl, rfl, rfl, rfl, rfl, rfl, rfl, rfl, ⟨60, _, _, _, rfl, KX 60 _ rfl, rfl, rfl⟩⟩⟩
theorem fn5 {G : Cx} (w : World) (KX : (KF w.params).In G.H0) : FnAt G 68 (fdI 5) (fnQ 5) (.ref 67) :=
  ⟨⟨_, _, KX 68 _ rfl, rfl, rfl, rfl, rfl, rfl, rfl, rfl, rfl, rfl, rfl, rfl, ⟨67, _, _, _, rfl, KX 67 _ rfl, rfl, rfl⟩⟩⟩
theorem fn7 {G : Cx} (w : World) (KX : (KF w.params).In G.H0) : FnAt G 75 (fdI 7) (fnQ 7) (.ref 74) :=
  ⟨⟨_, _, KX 75 _ rfl, rfl, rfl, rfl, rfl, rfl, rfl, rfl, rfl, rfl, rfl, rfl, ⟨74, _, _, _, rfl, KX 74 _ rfl, rfl, rfl⟩⟩⟩
theorem fn8 {G : Cx} (w : World) (KX : (KF w.params).In G.H0) : FnAt G 82 (fdI 8) (fnQ 8) (.ref 81) :=
  ⟨⟨_, _, KX 82 _ rfl, rfl, rfl, rfl, rfl, rfl, rfl, rfl, rfl, rfl, rfl, rfl, ⟨81, _, _, _, rfl, KX 81 _ rfl, rfl, rfl⟩⟩⟩
theorem fn9 {G : Cx} (w : World) (KX : (KF w.params).In G.H0) : FnAt G 89 (fdI 9) (fnQ 9) (.ref 88) :=
  ⟨⟨_, _, KX 89 _ rfl, rfl, rfl, rfl, rfl, rfl, rfl, rfl, rfl, rfl, rfl, rfl, ⟨88, _, _, _, rfl, KX 88 _ rfl, rfl, rfl⟩⟩⟩
theorem fn10 {G : Cx} (w : World) (KX : (KF w.params).In G.H0) : FnAt G 96 (fdI 10) (fnQ 10) (.ref 95) :=
  ⟨⟨_, _, KX 96 _ rfl, rfl, rfl, rfl, rfl, rfl, rfl, rfl, rfl, rfl, rfl, rfl, ⟨95, _, _, _, rfl, KX 95 _ rfl, rfl, rfl⟩⟩⟩
theorem fn11 {G : Cx} (w : World) (KX : (KF w.params).In G.H0) : FnAt G 101 (fdI 11) (fnQ 11) (.ref 100) :=
  ⟨⟨_, _, KX 101 _ rfl, rfl, rfl, rfl, rfl, rfl, rfl, rfl, rfl, rfl, rfl, rfl, ⟨100, _, _, _, rfl, KX 100 _ rfl, rfl, rfl⟩⟩⟩
theorem fn12 {G : Cx} (w : World) (KX : (KF w.params).In G.H0) : FnAt G 106 (fdI 12) (fnQ 12) (.ref 105) :=
  ⟨⟨_, _, KX 106 _ rfl, rfl, rfl, rfl, rfl, rfl, rfl, rfl, rfl, rfl, rfl, rfl, ⟨105, _, _, _, rfl, KX 105 _ rfl, rfl, rfl⟩⟩⟩
theorem fn13 {G : Cx} (w : World) (KX : (KF w.params).In G.H0) : FnAt G 113 (fdI 13) (fnQ 13) (.ref 112) :=
  ⟨⟨_, _, KX 113 _ rfl, rfl, rfl, rfl, rfl, rfl, rfl, rfl, rfl, rfl, rfl, rfl, ⟨112, _, _, _, rfl, KX 112 _ rfl, rfl, rfl⟩⟩⟩
theorem fn14 {G : Cx} (w : World) (KX : (KF w.params).In G.H0) : FnAt G 120 (fdI 14) (fnQ 14) (.ref 119) :=
  ⟨⟨_, _, KX 120 _ rfl, rfl, rfl, rfl, rfl, rfl, rfl, rfl, rfl, rfl, rfl, rfl, ⟨119, _, _, _, rfl, KX 119 _ rfl, rfl, rfl⟩⟩⟩
theorem fn15 {G : Cx} (w : World) (KX : (KF w.params).In G.H0) : FnAt G 125 (fdI 15) (fnQ 15) (.ref 124) :=
  ⟨⟨_, _, KX 125 _ rfl, rfl, rfl, rfl, rfl, rfl, rfl, rfl, rfl, rfl, rfl, rfl, ⟨124, _, _, _, rfl, KX 124 _ rfl, rfl, rfl⟩⟩⟩
theorem fn16 {G : Cx} (w : World) (KX : (KF w.params).In G.H0) : FnAt G 132 (fdI 16) (fnQ 16) (.ref 131) :=
  ⟨⟨_, _, KX 132 _ rfl, rfl, rfl, rfl, rfl, rfl, rfl, rfl, rfl, rfl, rfl, rfl, ⟨131, _, _, _, rfl, KX 131 _ rfl, rfl, rfl⟩⟩⟩
theorem fn20 {G : Cx} (w : World) (KX : (KF w.params).In G.H0) : FnAt G 28 (fdC 0) (fnQ 20) (.ref 27) :=
  ⟨⟨_, _, KX 28 _ rfl, rfl, rfl, rfl, rfl, rfl, rfl, rfl, rfl, rfl, rfl, rfl, ⟨27, _, _, _, rfl, KX 27 _ rfl, rfl, rfl⟩⟩⟩
theorem fn21 {G : Cx} (w : World) (KX : (KF w.params).In G.H0) : FnAt G 35 (fdC 1) (fnQ 21) (.ref 34) :=
  ⟨⟨_, _, KX 35 _ rfl, rfl, rfl, rfl, rfl, rfl, rfl, rfl, rfl, rfl, rfl, rfl, ⟨34, _, _, _, rfl, KX 34 _ rfl, rfl, rfl⟩⟩⟩
theorem mg2 {w : World} {h : Heap} {mg : Str → Option Value} (KX : (KF w.params).In h) (g : h.Ns mainGlobals mg) : mg "is_refined_pointer" = some (.ref 49) := mg_of KX g (fun o ho es ep hd => by cases ho; cases hd; rfl) rfl
theorem mg3 {w : World} {h : Heap} {mg : Str → Option Value} (KX : (KF w.params).In h) (g : h.Ns mainGlobals mg) : mg "is_refined_value" = some (.ref 56) := mg_of KX g (fun o ho es ep hd => by cases ho; cases hd; rfl) rfl
theorem mg4 {w : World} {h : Heap} {mg : Str → Option Value} (KX : (KF w.params).In h) (g : h.Ns mainGlobals mg) : mg "are_refined" = some (.ref 61) := mg_of KX g (fun o ho es ep hd => by cases ho; cases hd; rfl) rfl
theorem mg5 {w : World} {h : Heap} {mg : Str → Option Value} (KX : (KF w.params).In h) (g : h.Ns mainGlobals mg) : mg "is_refined" = some (.ref 68) := mg_of KX g (fun o ho es ep hd => by cases ho; cases hd; rfl) rfl
theorem mg7 {w : World} {h : Heap} {mg : Str → Option Value} (KX : (KF w.params).In h) (g : h.Ns mainGlobals mg) : mg "_law_draw" = some (.ref 75) := mg_of KX g (fun o ho es ep hd => by cases ho; cases hd; rfl) rfl
theorem mg8 {w : World} {h : Heap} {mg : Str → Option Value} (KX : (KF w.params).In h) (g : h.Ns mainGlobals mg) : mg "_law_one" = some (.ref 82) := mg_of KX g (fun o ho es ep hd => by cases ho; cases hd; rfl) rfl
theorem mg9 {w : World} {h : Heap} {mg : Str → Option Value} (KX : (KF w.params).In h) (g : h.Ns mainGlobals mg) : mg "_law_types" = some (.ref 89) := mg_of KX g (fun o ho es ep hd => by cases ho; cases hd; rfl) rfl
theorem mg10 {w : World} {h : Heap} {mg : Str → Option Value} (KX : (KF w.params).In h) (g : h.Ns mainGlobals mg) : mg "_law_leaf" = some (.ref 96) := mg_of KX g (fun o ho es ep hd => by cases ho; cases hd; rfl) rfl
theorem mg11 {w : World} {h : Heap} {mg : Str → Option Value} (KX : (KF w.params).In h) (g : h.Ns mainGlobals mg) : mg "_law_run" = some (.ref 101) := mg_of KX g (fun o ho es ep hd => by cases ho; cases hd; rfl) rfl
theorem mg12 {w : World} {h : Heap} {mg : Str → Option Value} (KX : (KF w.params).In h) (g : h.Ns mainGlobals mg) : mg "_law_changed" = some (.ref 106) := mg_of KX g (fun o ho es ep hd => by cases ho; cases hd; rfl) rfl
theorem mg13 {w : World} {h : Heap} {mg : Str → Option Value} (KX : (KF w.params).In h) (g : h.Ns mainGlobals mg) : mg "_law_taken" = some (.ref 113) := mg_of KX g (fun o ho es ep hd => by cases ho; cases hd; rfl) rfl
theorem mg14 {w : World} {h : Heap} {mg : Str → Option Value} (KX : (KF w.params).In h) (g : h.Ns mainGlobals mg) : mg "_law_built" = some (.ref 120) := mg_of KX g (fun o ho es ep hd => by cases ho; cases hd; rfl) rfl
theorem mg15 {w : World} {h : Heap} {mg : Str → Option Value} (KX : (KF w.params).In h) (g : h.Ns mainGlobals mg) : mg "_law_may_stand" = some (.ref 125) := mg_of KX g (fun o ho es ep hd => by cases ho; cases hd; rfl) rfl
theorem mg16 {w : World} {h : Heap} {mg : Str → Option Value} (KX : (KF w.params).In h) (g : h.Ns mainGlobals mg) : mg "_law_plain" = some (.ref 132) := mg_of KX g (fun o ho es ep hd => by cases ho; cases hd; rfl) rfl
theorem mgP {w : World} {h : Heap} {mg : Str → Option Value} (KX : (KF w.params).In h) (g : h.Ns mainGlobals mg) : mg "Pairs" = some (.ref 38) := mg_of KX g (fun o ho es ep hd => by cases ho; cases hd; rfl) rfl
theorem lk2 {α : Type} {x : Str} {n : Str} {v v' : α} {r : List (Str × α)} {Q : Prop} (h : ((n, v) :: r).lookup x = some v') (h1 : x = n → v' = v → Q) (h2 : r.lookup x = some v' → Q) : Q := by
  rw [List.lookup_cons] at h
  cases e : x == n with
  | true => rw [e] at h; exact h1 (by simpa using e) (Option.some.inj h).symm
  | false => rw [e] at h; exact h2 h
end
-- J2
section
set_option maxHeartbeats 8000000
theorem bl_ok {mg mb : Str → Option Value} {p : Program} {L : List Str} {mean : ExcName → Option Value} {h : Heap} (T : Top p L mean mg mb h)
    (hf : ∀ x ∈ bl.map (·.1), x ∉ startupNames ∧ x ∉ L ∧ x ∉ (recsOf p).map (·.name) ∧ x ∉ (litsOf p).map (·.1) ∧ x ∉ (clssOf p L).map (·.name)) : ∀ x v, bl.lookup x = some v → mg x = none ∧ mb x = some v := by
  intro x v hx
  have hm : x ∈ bl.map (·.1) := List.mem_map.mpr ⟨_, mem_of_lookup hx, rfl⟩
  obtain ⟨h1, h2, h3, h4, h5⟩ := hf x hm
  refine ⟨T.free x h1 h2 h3 h4 h5, ?_⟩
  have e : x ≠ "__name__" := by
    rintro rfl
    revert hm; decide
  rw [T.builtins x e]
  revert hx
  unfold bl
  intro hx
  refine lk2 hx (fun e ev => by subst e ev; exact boot_len) fun hx => ?_
  refine lk2 hx (fun e ev => by subst e ev; exact boot_range) fun hx => ?_
  refine lk2 hx (fun e ev => by subst e ev; exact boot_list) fun hx => ?_
  refine lk2 hx (fun e ev => by subst e ev; exact boot_tuple) fun hx => ?_
  refine lk2 hx (fun e ev => by subst e ev; exact boot_str) fun hx => ?_
  refine lk2 hx (fun e ev => by subst e ev; exact boot_isinstance) fun hx => ?_
  refine lk2 hx (fun e ev => by subst e ev; exact boot_enumerate) fun hx => ?_
  refine lk2 hx (fun e ev => by subst e ev; exact boot_zip) fun hx => ?_
  refine lk2 hx (fun e ev => by subst e ev; exact boot_sorted) fun hx => ?_
  refine lk2 hx (fun e ev => by subst e ev; exact boot_all) fun hx => ?_
  cases hx
section
variable (p : Params)
theorem kI : findIn (KF p) (.ref 38) "__init__" = some (some (.ref 28)) := by rfl
theorem kA : findIn (KF p) (.ref 38) "are_one" = some (some (.ref 35)) := by rfl
theorem kga : findIn (KF p) (.ref 38) "__getattribute__" = some (some (.builtin "object.__getattribute__")) := by rfl
theorem kgg : findIn (KF p) (.ref 38) "__getattr__" = some none := by rfl
theorem kfi : findIn (KF p) (.ref 38) "its" = some none := by rfl
theorem kfm : findIn (KF p) (.ref 38) "mine" = some none := by rfl
theorem ksa : findIn (KF p) (.ref 38) "__setattr__" = some (some (.builtin "object.__setattr__")) := by rfl
theorem kmk : makesIn (KF p) 38 = true := by rfl
theorem ktI : typeIn (KF p) (.ref 28) = some (.type "function") := by rfl
theorem ktA : typeIn (KF p) (.ref 35) = some (.type "function") := by rfl
theorem khd : hasDictIn (KF p) 38 = true := by rfl
theorem kpo : plainOver (KF p) 38 = true := by rfl
theorem kkp : keepIn (KF p) (.ref 38) = true := by rfl
end
noncomputable def thePk {G : Cx} {w : World} {p : Program} {L : List Str} {mean : ExcName → Option Value} {mg mb : Str → Option Value} (hC : G.C = 38) (KX : (KF w.params).In G.H0) (T : Top p L mean mg mb G.H0)
    (hf : ∀ x ∈ bl.map (·.1), x ∉ startupNames ∧ x ∉ L ∧ x ∉ (recsOf p).map (·.name) ∧ x ∉ (litsOf p).map (·.1) ∧ x ∉ (clssOf p L).map (·.name)) : Pk G :=
  { mg := mg, mb := mb, a := fnA, q := fnQ, c := fun i => .ref (fnC i), T := ⟨T.g, T.b, T.nolimit⟩, hb := bl_ok T hf,
    hf := by
      intro x i hx
      unfold fl at hx
      refine lk2 hx (fun e ev => by subst e ev; exact ⟨mg2 KX T.g, fn2 w KX⟩) fun hx => ?_
      refine lk2 hx (fun e ev => by subst e ev; exact ⟨mg3 KX T.g, fn3 w KX⟩) fun hx => ?_
      refine lk2 hx (fun e ev => by subst e ev; exact ⟨mg4 KX T.g, fn4 w KX⟩) fun hx => ?_
      refine lk2 hx (fun e ev => by subst e ev; exact ⟨mg5 KX T.g, fn5 w KX⟩) fun hx => ?_
      refine lk2 hx (fun e ev => by subst e ev; exact ⟨mg7 KX T.g, fn7 w KX⟩) fun hx => ?_
      refine lk2 hx (fun e ev => by subst e ev; exact ⟨mg8 KX T.g, fn8 w KX⟩) fun hx => ?_
      refine lk2 hx (fun e ev => by subst e ev; exact ⟨mg9 KX T.g, fn9 w KX⟩) fun hx => ?_
      refine lk2 hx (fun e ev => by subst e ev; exact ⟨mg10 KX T.g, fn10 w KX⟩) fun hx => ?_
      refine lk2 hx (fun e ev => by subst e ev; exact ⟨mg11 KX T.g, fn11 w KX⟩) fun hx => ?_
      refine lk2 hx (fun e ev => by subst e ev; exact ⟨mg12 KX T.g, fn12 w KX⟩) fun hx => ?_
      refine lk2 hx (fun e ev => by subst e ev; exact ⟨mg13 KX T.g, fn13 w KX⟩) fun hx => ?_
      refine lk2 hx (fun e ev => by subst e ev; exact ⟨mg14 KX T.g, fn14 w KX⟩) fun hx => ?_
      refine lk2 hx (fun e ev => by subst e ev; exact ⟨mg15 KX T.g, fn15 w KX⟩) fun hx => ?_
      refine lk2 hx (fun e ev => by subst e ev; exact ⟨mg16 KX T.g, fn16 w KX⟩) fun hx => ?_
      cases hx
    K := KF w.params, X := KX, mkk := hC ▸ kmk _, fI := hC ▸ kI _, tI := ktI _, atI := fn20 w KX, fA := hC ▸ kA _, tA := ktA _, atA := fn21 w KX, ga := hC ▸ kga _, gg := hC ▸ kgg _, hd := hC ▸ khd _,
    fi := hC ▸ kfi _, fm := hC ▸ kfm _, sa := hC ▸ ksa _, po := hC ▸ kpo _, hg := hC ▸ mgP KX T.g, kp := hC ▸ kkp _ }
theorem hfree : ∀ x ∈ bl.map (·.1), x ∉ startupNames ∧ x ∉ looseW vw [] ∧ x ∉ (recsOf vw).map (·.name) ∧ x ∉ (litsOf vw).map (·.1) ∧ x ∉ (clssOf vw (looseW vw [])).map (·.name) := by decide +kernel
end
-- J3
section
set_option maxHeartbeats 8000000
theorem ints_vrs {G : Cx} {Z : Heap} : ∀ {vs : List Value} {ns : List Int}, IntsAre vs ns → VRs G Z ((ns.map PyData.int).map V.d) vs
  | _, _, .nil => .nil
  | _, _, .cons n t h => .cons (.d (.int n t)) (ints_vrs h)
theorem start_B {G : Cx} {Z h : Heap} {L : Addr} {m : Str → Option Value} {x : Str} {v : V} {u : Value} {o4 o3 o2 o1 : Obj} (base : Le G.H0 Z) (F : Fr Z Z.objs.size h m) (hL : L = Z.objs.size) (hm : m x = some u) (r : VR G Z v u)
    (N0 : News Z Z.objs.size h [(L + 1 + 1 + 1 + 1, o4), (L + 1 + 1 + 1, o3), (L + 1 + 1, o2), (L + 1, o1)])
    (d4 : o4.data = .cell none) (d3 : o3.data = .cell none) (d2 : o2.data = .cell none) (d1 : o1.data = .cell none) :
    B G [] Z [(L, .ns [(x, v)]), (L + 4, .cell none), (L + 3, .cell none), (L + 2, .cell none), (L + 1, .cell none)] h := by
  have fresh : ∀ a, Z.objs.size ≤ a → Z.get? a = none := fun a ha => Heap.get?_none_of_le ha
  refine ⟨base, F.keep, (fun p hp => nomatch hp), ?_, ?_, (fun p hp => nomatch hp), .nil⟩
  · intro q hq
    simp only [List.mem_cons, List.not_mem_nil, or_false] at hq
    rcases hq with rfl | rfl | rfl | rfl | rfl
    · refine ⟨.ns (hL ▸ F.ns) fun y V e => ?_, fresh _ (by rw [hL]; exact Nat.le_refl _)⟩
      by_cases hy : x = y
      · subst hy
        rw [show lk [(x, v)] x = some v by simp [lk]] at e
        cases e
        exact ⟨u, hm, r⟩
      · rw [show lk [(x, v)] y = none by simp [lk, Ne.symm hy]] at e
        cases e
    · exact ⟨.cell0 ⟨o4, (N0 (_, o4) (by simp)).1, d4⟩, fresh _ (by rw [hL]; show Z.objs.size ≤ Z.objs.size + 4; omega)⟩
    · exact ⟨.cell0 ⟨o3, (N0 (_, o3) (by simp)).1, d3⟩, fresh _ (by rw [hL]; show Z.objs.size ≤ Z.objs.size + 3; omega)⟩
    · exact ⟨.cell0 ⟨o2, (N0 (_, o2) (by simp)).1, d2⟩, fresh _ (by rw [hL]; show Z.objs.size ≤ Z.objs.size + 2; omega)⟩
    · exact ⟨.cell0 ⟨o1, (N0 (_, o1) (by simp)).1, d1⟩, fresh _ (by rw [hL]; show Z.objs.size ≤ Z.objs.size + 1; omega)⟩
  · show ([L, L + 4, L + 3, L + 2, L + 1] : List Nat).Nodup
    simp
theorem fin_law {w : World} {mg mb : Str → Option Value} {mean : ExcName → Option Value} {s₁ : Shared} {h₁ : Heap} {tk₁ : Nat} {fa la : Addr} {cd : Value} {q : Str} {vs : List Value} {ns : List Int} {A : Around}
    {m : Str → Option Value} {o4 o3 o2 o1 : Obj} {Q : Flow → Shared → Prop} {E : Value → Shared → Prop}
    (KX : (KF w.params).In s₁.heap) (T : Top vw (looseW vw []) mean mg mb s₁.heap)
    (F : Fr s₁.heap s₁.heap.objs.size h₁ m) (hm : m "script" = some (.ref la)) (hL : s₁.heap.IsList la vs.toArray) (hI : IntsAre vs ns) (hns : ns.length ≤ 63)
    (N0 : News s₁.heap s₁.heap.objs.size h₁ [(s₁.heap.objs.size + 1 + 1 + 1 + 1, o4), (s₁.heap.objs.size + 1 + 1 + 1, o3), (s₁.heap.objs.size + 1 + 1, o2), (s₁.heap.objs.size + 1, o1)])
    (d4 : o4.data = .cell none) (d3 : o3.data = .cell none) (d2 : o2.data = .cell none) (d1 : o1.data = .cell none)
    (rm : Room 12 A)
    (hq : ∀ h tk, (∀ b o, s₁.heap.get? b = some o → h.get? b = some o) → Q (.ret (.bool true)) { s₁ with heap := h, toks := tk }) :
    wpAny (model PySem.Challenge.rw_sa0607_01.row.prog w) A (execs (fdI 17).body (En (fdI 17).scope s₁.heap.objs.size (cellsFrom (s₁.heap.objs.size + 1) (fdI 17).scope.names []) q fa cd)) Q E { s₁ with heap := h₁, toks := tk₁ } := by
  let G : Cx := ⟨PySem.Challenge.rw_sa0607_01.row.prog, w, 38, s₁.heap, 3, _, by decide, KX 3 _ rfl⟩
  have P : Pk G := thePk (G := G) rfl KX T hfree
  have W := law_ok P rm s₁.heap.objs.size q fa cd ns hns
  have b : B G [] s₁.heap (startS (fdI 17).scope s₁.heap.objs.size [("script", .vl ((ns.map PyData.int).map V.d))] []) h₁ :=
    start_B (G := G) (fun _ _ e => e) F rfl hm (.vl hL (ints_vrs hI)) N0 d4 d3 d2 d1
  refine wpAny_mono (W [] s₁.heap { s₁ with heap := h₁, toks := tk₁ } b) ?_ fun _ _ h => h.elim
  rintro a s' ⟨Z', fl, σ', le, b', ⟨h', tk', es⟩, r, k⟩
  subst k
  cases r with | ret r => cases r with | d r => cases r with | bool =>
  subst es
  exact hq _ _ fun x o e => b'.sub x o (le x o e)
end
end Mine
set_option maxHeartbeats 8000000
theorem PySem.Challenge.cw_sa0607_01_holds : PySem.Challenge.rw_sa0607_01.Holds := by
  w_on
  o_law
  refine holds_open (q := Mine.vw) (loose := []) (Xt := Mine.xt) (XP := XL Mine.vw []) (Yf := Hook.obs Mine.KH) (Ya := Hook.val Mine.KH) (YP := Hook.says Mine.KH) (N := 1592) Mine.left1 (Hook.of Mine.KH) (Hook.keeps Mine.KH) (fun s e => xl_of s (Bool.and_eq_true_iff.mp e).1) XL.keeps (by rfl) (by rfl) (by rfl) (fun s e => recFacts_of (Bool.and_eq_true_iff.mp e).2) (by rfl) (by assumption) (by decide +kernel) ⟨rfl, rfl, rfl, rfl, rfl, by decide +kernel⟩ ?hw ?hc
  case hw => w_witness2
  case hc =>
   w_strict (
    k_go0
    refine Mine.fin_law ‹(Mine.KF _).In _› ‹Top _ _ _ _ _ _› ‹Fr _ _ _ _› (by with_unfolding_all rfl) ‹Heap.IsList _ _ _› ‹IntsAre _ _› (by omega) ‹News _ _ _ _› (by with_unfolding_all assumption) (by with_unfolding_all assumption) (by with_unfolding_all assumption) (by with_unfolding_all assumption)
      ⟨rfl, (by show 1 + claimMargin + 1 + 24 < 1000; decide), (by show 4 + 3 + 392 < 9900; decide)⟩ ?_
    intro h tk k
    refine ⟨.inl ⟨_, .bool true, [], rfl, fun _ => ?_, ReadsW.bool true, ?_, fun _ => ⟨.nil, (fun _ h => nomatch h)⟩⟩, k, rfl, by assumption⟩
    · rfl
    · wrow_post)
