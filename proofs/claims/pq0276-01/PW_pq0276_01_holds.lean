import PyProof.Rows.All
import Wide.All
import OpenK.AllK
import Wide.FinOn
import PyProof.InstStoreFacts
import PyProof.ExcInit
import PySem.Challenge.RW_pq0276_01
open PySem PySem.W PyProof.Rows PySem.Calls
set_option Elab.async false
set_option maxRecDepth 100000
set_option maxHeartbeats 8000000
namespace Mine
/-- the text's statements -/
abbrev PW : List Stmt := PySem.Challenge.pw_pq0276_01.main.body
def stAt : List Stmt → Nat → Stmt
  | [], _ => .Pass default
  | s :: _, 0 => s
  | _ :: l, n + 1 => stAt l n
def inCls : Stmt → List Stmt
  | .ClassDef _ _ _ body .. => body
  | _ => []
def fdP : Stmt → Arguments
  | .FunctionDef _ args .. => args
  | _ => default
def fdB : Stmt → List Stmt
  | .FunctionDef _ _ body .. => body
  | _ => []
def fdS : Stmt → Scope
  | .FunctionDef _ _ _ _ _ _ scope .. => scope
  | _ => default
/-- the part of the heap that the walk knows, as the top leaves it -/
noncomputable def hd.heap_39 : Params → Frag := fun P =>
 (fun (q21 : Arguments) (_ : fdP (stAt PW 0) = q21) (b21 : List Stmt) (_ : fdB (stAt PW 0) = b21) (s21 : Scope) (_ : fdS (stAt PW 0) = s21)
  (q35 : Arguments) (_ : fdP (stAt (inCls (stAt PW 2)) 0) = q35) (b35 : List Stmt) (_ : fdB (stAt (inCls (stAt PW 2)) 0) = b35) (s35 : Scope) (_ : fdS (stAt (inCls (stAt PW 2)) 0) = s35)
  (q55 : Arguments) (_ : fdP (stAt (inCls (stAt PW 4)) 0) = q55) (b55 : List Stmt) (_ : fdB (stAt (inCls (stAt PW 4)) 0) = b55) (s55 : Scope) (_ : fdS (stAt (inCls (stAt PW 4)) 0) = s55)
  (q79 : Arguments) (_ : fdP (stAt (inCls (stAt PW 6)) 0) = q79) (b79 : List Stmt) (_ : fdB (stAt (inCls (stAt PW 6)) 0) = b79) (s79 : Scope) (_ : fdS (stAt (inCls (stAt PW 6)) 0) = s79)
  (q101 : Arguments) (_ : fdP (stAt (inCls (stAt PW 7)) 0) = q101) (b101 : List Stmt) (_ : fdB (stAt (inCls (stAt PW 7)) 0) = b101) (s101 : Scope) (_ : fdS (stAt (inCls (stAt PW 7)) 0) = s101)
  (q122 : Arguments) (_ : fdP (stAt (inCls (stAt PW 8)) 0) = q122) (b122 : List Stmt) (_ : fdB (stAt (inCls (stAt PW 8)) 0) = b122) (s122 : Scope) (_ : fdS (stAt (inCls (stAt PW 8)) 0) = s122)
  (q143 : Arguments) (_ : fdP (stAt (inCls (stAt PW 9)) 0) = q143) (b143 : List Stmt) (_ : fdB (stAt (inCls (stAt PW 9)) 0) = b143) (s143 : Scope) (_ : fdS (stAt (inCls (stAt PW 9)) 0) = s143)
  (q164 : Arguments) (_ : fdP (stAt (inCls (stAt PW 10)) 0) = q164) (b164 : List Stmt) (_ : fdB (stAt (inCls (stAt PW 10)) 0) = b164) (s164 : Scope) (_ : fdS (stAt (inCls (stAt PW 10)) 0) = s164)
  (q171 : Arguments) (_ : fdP (stAt (inCls (stAt PW 10)) 1) = q171) (b171 : List Stmt) (_ : fdB (stAt (inCls (stAt PW 10)) 1) = b171) (s171 : Scope) (_ : fdS (stAt (inCls (stAt PW 10)) 1) = s171)
  (q178 : Arguments) (_ : fdP (stAt (inCls (stAt PW 10)) 2) = q178) (b178 : List Stmt) (_ : fdB (stAt (inCls (stAt PW 10)) 2) = b178) (s178 : Scope) (_ : fdS (stAt (inCls (stAt PW 10)) 2) = s178)
  (q193 : Arguments) (_ : fdP (stAt PW 11) = q193) (b193 : List Stmt) (_ : fdB (stAt PW 11) = b193) (s193 : Scope) (_ : fdS (stAt PW 11) = s193)
  (q200 : Arguments) (_ : fdP (stAt PW 12) = q200) (b200 : List Stmt) (_ : fdB (stAt PW 12) = b200) (s200 : Scope) (_ : fdS (stAt PW 12) = s200)
  (q207 : Arguments) (_ : fdP (stAt PW 16) = q207) (b207 : List Stmt) (_ : fdB (stAt PW 16) = b207) (s207 : Scope) (_ : fdS (stAt PW 16) = s207)
  (q212 : Arguments) (_ : fdP (stAt PW 17) = q212) (b212 : List Stmt) (_ : fdB (stAt PW 17) = b212) (s212 : Scope) (_ : fdS (stAt PW 17) = s212)
  (q219 : Arguments) (_ : fdP (stAt PW 18) = q219) (b219 : List Stmt) (_ : fdB (stAt PW 18) = b219) (s219 : Scope) (_ : fdS (stAt PW 18) = s219)
  (q233 : Arguments) (_ : fdP (stAt (inCls (stAt PW 19)) 0) = q233) (b233 : List Stmt) (_ : fdB (stAt (inCls (stAt PW 19)) 0) = b233) (s233 : Scope) (_ : fdS (stAt (inCls (stAt PW 19)) 0) = s233)
  (q240 : Arguments) (_ : fdP (stAt (inCls (stAt PW 19)) 1) = q240) (b240 : List Stmt) (_ : fdB (stAt (inCls (stAt PW 19)) 1) = b240) (s240 : Scope) (_ : fdS (stAt (inCls (stAt PW 19)) 1) = s240)
  (q247 : Arguments) (_ : fdP (stAt (inCls (stAt PW 19)) 2) = q247) (b247 : List Stmt) (_ : fdB (stAt (inCls (stAt PW 19)) 2) = b247) (s247 : Scope) (_ : fdS (stAt (inCls (stAt PW 19)) 2) = s247)
  (q259 : Arguments) (_ : fdP (stAt PW 20) = q259) (b259 : List Stmt) (_ : fdB (stAt PW 20) = b259) (s259 : Scope) (_ : fdS (stAt PW 20) = s259)
  (q266 : Arguments) (_ : fdP (stAt PW 21) = q266) (b266 : List Stmt) (_ : fdB (stAt PW 21) = b266) (s266 : Scope) (_ : fdS (stAt PW 21) = s266)
  (q273 : Arguments) (_ : fdP (stAt PW 22) = q273) (b273 : List Stmt) (_ : fdB (stAt PW 22) = b273) (s273 : Scope) (_ : fdS (stAt PW 22) = s273)
  (q278 : Arguments) (_ : fdP (stAt PW 24) = q278) (b278 : List Stmt) (_ : fdB (stAt PW 24) = b278) (s278 : Scope) (_ : fdS (stAt PW 24) = s278)
  (q285 : Arguments) (_ : fdP (stAt PW 25) = q285) (b285 : List Stmt) (_ : fdB (stAt PW 25) = b285) (s285 : Scope) (_ : fdS (stAt PW 25) = s285)
  (q299 : Arguments) (_ : fdP (stAt PW 27) = q299) (b299 : List Stmt) (_ : fdB (stAt PW 27) = b299) (s299 : Scope) (_ : fdS (stAt PW 27) = s299)
  (q304 : Arguments) (_ : fdP (stAt PW 28) = q304) (b304 : List Stmt) (_ : fdB (stAt PW 28) = b304) (s304 : Scope) (_ : fdS (stAt PW 28) = s304)
  (q311 : Arguments) (_ : fdP (stAt PW 29) = q311) (b311 : List Stmt) (_ : fdB (stAt PW 29) = b311) (s311 : Scope) (_ : fdS (stAt PW 29) = s311)
  (q318 : Arguments) (_ : fdP (stAt PW 30) = q318) (b318 : List Stmt) (_ : fdB (stAt PW 30) = b318) (s318 : Scope) (_ : fdS (stAt PW 30) = s318)
  (q323 : Arguments) (_ : fdP (stAt PW 31) = q323) (b323 : List Stmt) (_ : fdB (stAt PW 31) = b323) (s323 : Scope) (_ : fdS (stAt PW 31) = s323)
  (q330 : Arguments) (_ : fdP (stAt PW 32) = q330) (b330 : List Stmt) (_ : fdB (stAt PW 32) = b330) (s330 : Scope) (_ : fdS (stAt PW 32) = s330)
  => (
  (nat_lit 2, { cls := Value.none, data := Data.dict #[{ hash := PyData.keyHash P (Str.ofString "type.__subclasses__.Exception.0"), key := Value.str (Str.ofString "type.__subclasses__.Exception.0") 223, val := Value.int 38 0 }, { hash := PyData.keyHash P (Str.ofString "type.__subclasses__.Exception.n"), key := Value.str (Str.ofString "type.__subclasses__.Exception.n") 224, val := Value.int 1 0 }] 2 }) ::
  (nat_lit 3, { cls := Value.type "dict", data := Data.dict #[{ hash := PyData.keyHash P (Str.ofString "__name__"), key := Value.str (Str.ofString "__name__") 165, val := Value.str (Str.ofString "law_pq0276_01") 555 }, { hash := PyData.keyHash P (Str.ofString "__doc__"), key := Value.str (Str.ofString "__doc__") 166, val := Value.none }, { hash := PyData.keyHash P (Str.ofString "__package__"), key := Value.str (Str.ofString "__package__") 167, val := Value.none }, { hash := PyData.keyHash P (Str.ofString "__loader__"), key := Value.str (Str.ofString "__loader__") 168, val := Value.builtin "__main__.__loader__#opaque" }, { hash := PyData.keyHash P (Str.ofString "__spec__"), key := Value.str (Str.ofString "__spec__") 169, val := Value.none }, { hash := PyData.keyHash P (Str.ofString "__annotations__"), key := Value.str (Str.ofString "__annotations__") 170, val := Value.ref 6 }, { hash := PyData.keyHash P (Str.ofString "__builtins__"), key := Value.str (Str.ofString "__builtins__") 171, val := Value.ref 4 }, { hash := PyData.keyHash P (Str.ofString "__file__"), key := Value.str (Str.ofString "__file__") 173, val := Value.str (Str.ofString "/claim/cut.py") 172 }, { hash := PyData.keyHash P (Str.ofString "__cached__"), key := Value.str (Str.ofString "__cached__") 174, val := Value.none }, { hash := PyData.keyHash P (Str.ofString "_wall"), key := Value.str (Str.ofString "_wall") 193, val := Value.ref 21 }, { hash := PyData.keyHash P (Str.ofString "LispSignal"), key := Value.str (Str.ofString "LispSignal") 226, val := Value.ref 38 }, { hash := PyData.keyHash P (Str.ofString "Symbol"), key := Value.str (Str.ofString "Symbol") 260, val := Value.ref 58 }, { hash := PyData.keyHash P (Str.ofString "NIL"), key := Value.str (Str.ofString "NIL") 272, val := Value.ref 64 }, { hash := PyData.keyHash P (Str.ofString "Cons"), key := Value.str (Str.ofString "Cons") 303, val := Value.ref 82 }, { hash := PyData.keyHash P (Str.ofString "Text"), key := Value.str (Str.ofString "Text") 334, val := Value.ref 104 }, { hash := PyData.keyHash P (Str.ofString "Vector"), key := Value.str (Str.ofString "Vector") 363, val := Value.ref 125 }, { hash := PyData.keyHash P (Str.ofString "ByteCode"), key := Value.str (Str.ofString "ByteCode") 392, val := Value.ref 146 }, { hash := PyData.keyHash P (Str.ofString "Opaque"), key := Value.str (Str.ofString "Opaque") 434, val := Value.ref 181 }, { hash := PyData.keyHash P (Str.ofString "list_of"), key := Value.str (Str.ofString "list_of") 444, val := Value.ref 193 }, { hash := PyData.keyHash P (Str.ofString "is_whole"), key := Value.str (Str.ofString "is_whole") 451, val := Value.ref 200 }, { hash := PyData.keyHash P (Str.ofString "MOST_STEPS"), key := Value.str (Str.ofString "MOST_STEPS") 457, val := Value.int 8388608 456 }, { hash := PyData.keyHash P (Str.ofString "MOST_DEEP"), key := Value.str (Str.ofString "MOST_DEEP") 459, val := Value.int 200 458 }, { hash := PyData.keyHash P (Str.ofString "eq"), key := Value.str (Str.ofString "eq") 467, val := Value.ref 207 }, { hash := PyData.keyHash P (Str.ofString "parts_of"), key := Value.str (Str.ofString "parts_of") 473, val := Value.ref 212 }, { hash := PyData.keyHash P (Str.ofString "are_of_one_class"), key := Value.str (Str.ofString "are_of_one_class") 482, val := Value.ref 219 }, { hash := PyData.keyHash P (Str.ofString "Task"), key := Value.str (Str.ofString "Task") 532, val := Value.ref 250 }, { hash := PyData.keyHash P (Str.ofString "equal_by"), key := Value.str (Str.ofString "equal_by") 538, val := Value.ref 259 }, { hash := PyData.keyHash P (Str.ofString "are_any"), key := Value.str (Str.ofString "are_any") 546, val := Value.ref 266 }, { hash := PyData.keyHash P (Str.ofString "equal"), key := Value.str (Str.ofString "equal") 554, val := Value.ref 273 }, { hash := PyData.keyHash P (Str.ofString "_law_deck"), key := Value.str (Str.ofString "_law_deck") 562, val := Value.ref 278 }, { hash := PyData.keyHash P (Str.ofString "_law_draw"), key := Value.str (Str.ofString "_law_draw") 571, val := Value.ref 285 }, { hash := PyData.keyHash P (Str.ofString "_law_one"), key := Value.str (Str.ofString "_law_one") 579, val := Value.ref 292 }, { hash := PyData.keyHash P (Str.ofString "_law_thing"), key := Value.str (Str.ofString "_law_thing") 586, val := Value.ref 299 }, { hash := PyData.keyHash P (Str.ofString "_law_list"), key := Value.str (Str.ofString "_law_list") 592, val := Value.ref 304 }, { hash := PyData.keyHash P (Str.ofString "_law_at"), key := Value.str (Str.ofString "_law_at") 602, val := Value.ref 311 }, { hash := PyData.keyHash P (Str.ofString "_law_due"), key := Value.str (Str.ofString "_law_due") 613, val := Value.ref 318 }, { hash := PyData.keyHash P (Str.ofString "_law_drawn"), key := Value.str (Str.ofString "_law_drawn") 619, val := Value.ref 323 }, { hash := PyData.keyHash P (Str.ofString "law"), key := Value.str (Str.ofString "law") 634, val := Value.ref 330 }] 38 }) ::
  (nat_lit 15, { cls := Value.type "tuple", data := Data.seq #[] }) ::
  (nat_lit 17, { cls := Value.type "tuple", data := Data.seq #[Value.str (Str.ofString "k") 190] }) ::
  (nat_lit 18, { cls := Value.type "tuple", data := Data.seq #[] }) ::
  (nat_lit 20, { cls := Value.type "code", data := Data.fields #[Value.str (Str.ofString "_wall") 187, Value.str (Str.ofString "_wall") 188, Value.str (Str.ofString "/claim/cut.py") 189, Value.int 1 0, Value.int 1 0, Value.int 0 0, Value.int 0 0, Value.int 3 0, Value.ref 15, Value.bool true, Value.int 181 0, Value.ref 16, Value.none, Value.ref 17, Value.ref 18, Value.ref 19, Value.int 191 0, Value.int 1 0, Value.str (Str.ofString "/claim/cut.py") 192] }) ::
  (nat_lit 21, { cls := Value.type "function", data := Data.func { name := Str.ofString "_wall", qualname := Str.ofString "_wall", params := q21, body := FuncBody.stmts b21, scope := s21, globals := 3, closure := [], defaults := Value.none, kwdefaults := Value.none, pyModule := Value.str (Str.ofString "__main__") 164, code := Value.ref 20 } }) ::
  (nat_lit 22, { cls := Value.type "tuple", data := Data.seq #[Value.type "Exception"] }) ::
  (nat_lit 29, { cls := Value.type "tuple", data := Data.seq #[] }) ::
  (nat_lit 31, { cls := Value.type "tuple", data := Data.seq #[Value.str (Str.ofString "self") 211, Value.str (Str.ofString "symbol") 212, Value.str (Str.ofString "data") 213] }) ::
  (nat_lit 32, { cls := Value.type "tuple", data := Data.seq #[] }) ::
  (nat_lit 34, { cls := Value.type "code", data := Data.fields #[Value.str (Str.ofString "__init__") 208, Value.str (Str.ofString "LispSignal.__init__") 209, Value.str (Str.ofString "/claim/cut.py") 210, Value.int 7 0, Value.int 3 0, Value.int 0 0, Value.int 0 0, Value.int 3 0, Value.ref 29, Value.bool true, Value.int 181 0, Value.ref 30, Value.none, Value.ref 31, Value.ref 32, Value.ref 33, Value.int 214 0, Value.int 7 0, Value.str (Str.ofString "/claim/cut.py") 215] }) ::
  (nat_lit 35, { cls := Value.type "function", data := Data.func { name := Str.ofString "__init__", qualname := Str.ofString "LispSignal.__init__", params := q35, body := FuncBody.stmts b35, scope := s35, globals := 3, closure := [], defaults := Value.none, kwdefaults := Value.none, pyModule := Value.str (Str.ofString "emacs.errors") 194, code := Value.ref 34 } }) ::
  (nat_lit 36, { cls := Value.type "tuple", data := Data.seq #[Value.str (Str.ofString "data") 217, Value.str (Str.ofString "symbol") 218] }) ::
  (nat_lit 37, { cls := Value.type "dict", data := Data.dict #[{ hash := PyData.keyHash P (Str.ofString "__module__"), key := Value.str (Str.ofString "__module__") 203, val := Value.str (Str.ofString "emacs.errors") 194 }, { hash := PyData.keyHash P (Str.ofString "__firstlineno__"), key := Value.str (Str.ofString "__firstlineno__") 207, val := Value.int 5 206 }, { hash := PyData.keyHash P (Str.ofString "__init__"), key := Value.str (Str.ofString "__init__") 216, val := Value.ref 35 }, { hash := PyData.keyHash P (Str.ofString "__static_attributes__"), key := Value.str (Str.ofString "__static_attributes__") 219, val := Value.ref 36 }, { hash := PyData.keyHash P (Str.ofString "__weakref__"), key := Value.str (Str.ofString "__weakref__") 221, val := Value.ref 39 }, { hash := PyData.keyHash P (Str.ofString "__doc__"), key := Value.str (Str.ofString "__doc__") 222, val := Value.none }] 3 }) ::
  (nat_lit 38, { cls := Value.type "type", data := Data.cls { name := Str.ofString "LispSignal", bases := [Value.type "Exception"], mro := [Value.ref 38, Value.type "Exception", Value.type "BaseException", Value.type "object"], ns := 37, qualname := Str.ofString "LispSignal" }, slots := #[some (Value.ref 22), none, some (Value.str (Str.ofString "LispSignal") 196), some (Value.str (Str.ofString "LispSignal") 204), some (Value.builtin "Exception.__new__"), some (Value.bool true)] }) ::
  (nat_lit 39, { cls := Value.type "getset_descriptor", data := Data.fields #[Value.str (Str.ofString "__weakref__") 220, Value.ref 38, Value.builtin "ExceptionGroup.__weakref__", Value.none] }) ::
  (nat_lit 49, { cls := Value.type "tuple", data := Data.seq #[] }) ::
  (nat_lit 51, { cls := Value.type "tuple", data := Data.seq #[Value.str (Str.ofString "self") 244, Value.str (Str.ofString "number") 245, Value.str (Str.ofString "name") 246] }) ::
  (nat_lit 52, { cls := Value.type "tuple", data := Data.seq #[] }) ::
  (nat_lit 54, { cls := Value.type "code", data := Data.fields #[Value.str (Str.ofString "__init__") 241, Value.str (Str.ofString "Symbol.__init__") 242, Value.str (Str.ofString "/claim/cut.py") 243, Value.int 13 0, Value.int 3 0, Value.int 0 0, Value.int 0 0, Value.int 3 0, Value.ref 49, Value.bool true, Value.int 181 0, Value.ref 50, Value.none, Value.ref 51, Value.ref 52, Value.ref 53, Value.int 247 0, Value.int 13 0, Value.str (Str.ofString "/claim/cut.py") 248] }) ::
  (nat_lit 55, { cls := Value.type "function", data := Data.func { name := Str.ofString "__init__", qualname := Str.ofString "Symbol.__init__", params := q55, body := FuncBody.stmts b55, scope := s55, globals := 3, closure := [], defaults := Value.none, kwdefaults := Value.none, pyModule := Value.str (Str.ofString "emacs.objects") 227, code := Value.ref 54 } }) ::
  (nat_lit 56, { cls := Value.type "tuple", data := Data.seq #[Value.str (Str.ofString "is_keyword") 250, Value.str (Str.ofString "name") 251, Value.str (Str.ofString "number") 252] }) ::
  (nat_lit 57, { cls := Value.type "dict", data := Data.dict #[{ hash := PyData.keyHash P (Str.ofString "__module__"), key := Value.str (Str.ofString "__module__") 236, val := Value.str (Str.ofString "emacs.objects") 227 }, { hash := PyData.keyHash P (Str.ofString "__firstlineno__"), key := Value.str (Str.ofString "__firstlineno__") 240, val := Value.int 11 239 }, { hash := PyData.keyHash P (Str.ofString "__init__"), key := Value.str (Str.ofString "__init__") 249, val := Value.ref 55 }, { hash := PyData.keyHash P (Str.ofString "__static_attributes__"), key := Value.str (Str.ofString "__static_attributes__") 253, val := Value.ref 56 }, { hash := PyData.keyHash P (Str.ofString "__dict__"), key := Value.str (Str.ofString "__dict__") 255, val := Value.ref 59 }, { hash := PyData.keyHash P (Str.ofString "__weakref__"), key := Value.str (Str.ofString "__weakref__") 257, val := Value.ref 60 }, { hash := PyData.keyHash P (Str.ofString "__doc__"), key := Value.str (Str.ofString "__doc__") 258, val := Value.none }] 4 }) ::
  (nat_lit 58, { cls := Value.type "type", data := Data.cls { name := Str.ofString "Symbol", bases := [Value.type "object"], mro := [Value.ref 58, Value.type "object"], ns := 57, qualname := Str.ofString "Symbol" }, slots := #[none, none, some (Value.str (Str.ofString "Symbol") 229), some (Value.str (Str.ofString "Symbol") 237), some (Value.builtin "object.__new__"), some (Value.bool true)] }) ::
  (nat_lit 59, { cls := Value.type "getset_descriptor", data := Data.fields #[Value.str (Str.ofString "__dict__") 254, Value.ref 58, Value.builtin "function.__dict__", Value.builtin "function.__dict__#set"] }) ::
  (nat_lit 60, { cls := Value.type "getset_descriptor", data := Data.fields #[Value.str (Str.ofString "__weakref__") 256, Value.ref 58, Value.builtin "ExceptionGroup.__weakref__", Value.none] }) ::
  (nat_lit 63, { cls := Value.type "dict", data := Data.dict #[{ hash := PyData.keyHash P (Str.ofString "number"), key := Value.str (Str.ofString "number") 267, val := Value.int 0 261 }, { hash := PyData.keyHash P (Str.ofString "name"), key := Value.str (Str.ofString "name") 269, val := Value.str (Str.ofString "nil") 262 }, { hash := PyData.keyHash P (Str.ofString "is_keyword"), key := Value.str (Str.ofString "is_keyword") 271, val := Value.bool false }] 3 }) ::
  (nat_lit 64, { cls := Value.ref 58, dict := some 63 }) ::
  (nat_lit 73, { cls := Value.type "tuple", data := Data.seq #[] }) ::
  (nat_lit 75, { cls := Value.type "tuple", data := Data.seq #[Value.str (Str.ofString "self") 288, Value.str (Str.ofString "car") 289, Value.str (Str.ofString "cdr") 290] }) ::
  (nat_lit 76, { cls := Value.type "tuple", data := Data.seq #[] }) ::
  (nat_lit 78, { cls := Value.type "code", data := Data.fields #[Value.str (Str.ofString "__init__") 285, Value.str (Str.ofString "Cons.__init__") 286, Value.str (Str.ofString "/claim/cut.py") 287, Value.int 20 0, Value.int 3 0, Value.int 0 0, Value.int 0 0, Value.int 3 0, Value.ref 73, Value.bool true, Value.int 181 0, Value.ref 74, Value.none, Value.ref 75, Value.ref 76, Value.ref 77, Value.int 291 0, Value.int 20 0, Value.str (Str.ofString "/claim/cut.py") 292] }) ::
  (nat_lit 79, { cls := Value.type "function", data := Data.func { name := Str.ofString "__init__", qualname := Str.ofString "Cons.__init__", params := q79, body := FuncBody.stmts b79, scope := s79, globals := 3, closure := [], defaults := Value.none, kwdefaults := Value.none, pyModule := Value.str (Str.ofString "emacs.objects") 227, code := Value.ref 78 } }) ::
  (nat_lit 80, { cls := Value.type "tuple", data := Data.seq #[Value.str (Str.ofString "car") 294, Value.str (Str.ofString "cdr") 295] }) ::
  (nat_lit 81, { cls := Value.type "dict", data := Data.dict #[{ hash := PyData.keyHash P (Str.ofString "__module__"), key := Value.str (Str.ofString "__module__") 280, val := Value.str (Str.ofString "emacs.objects") 227 }, { hash := PyData.keyHash P (Str.ofString "__firstlineno__"), key := Value.str (Str.ofString "__firstlineno__") 284, val := Value.int 18 283 }, { hash := PyData.keyHash P (Str.ofString "__init__"), key := Value.str (Str.ofString "__init__") 293, val := Value.ref 79 }, { hash := PyData.keyHash P (Str.ofString "__static_attributes__"), key := Value.str (Str.ofString "__static_attributes__") 296, val := Value.ref 80 }, { hash := PyData.keyHash P (Str.ofString "__dict__"), key := Value.str (Str.ofString "__dict__") 298, val := Value.ref 83 }, { hash := PyData.keyHash P (Str.ofString "__weakref__"), key := Value.str (Str.ofString "__weakref__") 300, val := Value.ref 84 }, { hash := PyData.keyHash P (Str.ofString "__doc__"), key := Value.str (Str.ofString "__doc__") 301, val := Value.none }] 4 }) ::
  (nat_lit 82, { cls := Value.type "type", data := Data.cls { name := Str.ofString "Cons", bases := [Value.type "object"], mro := [Value.ref 82, Value.type "object"], ns := 81, qualname := Str.ofString "Cons" }, slots := #[none, none, some (Value.str (Str.ofString "Cons") 273), some (Value.str (Str.ofString "Cons") 281), some (Value.builtin "object.__new__"), some (Value.bool true)] }) ::
  (nat_lit 83, { cls := Value.type "getset_descriptor", data := Data.fields #[Value.str (Str.ofString "__dict__") 297, Value.ref 82, Value.builtin "function.__dict__", Value.builtin "function.__dict__#set"] }) ::
  (nat_lit 84, { cls := Value.type "getset_descriptor", data := Data.fields #[Value.str (Str.ofString "__weakref__") 299, Value.ref 82, Value.builtin "ExceptionGroup.__weakref__", Value.none] }) ::
  (nat_lit 94, { cls := Value.type "tuple", data := Data.seq #[Value.none] }) ::
  (nat_lit 95, { cls := Value.type "tuple", data := Data.seq #[] }) ::
  (nat_lit 97, { cls := Value.type "tuple", data := Data.seq #[Value.str (Str.ofString "self") 319, Value.str (Str.ofString "codes") 320, Value.str (Str.ofString "spans") 321] }) ::
  (nat_lit 98, { cls := Value.type "tuple", data := Data.seq #[] }) ::
  (nat_lit 100, { cls := Value.type "code", data := Data.fields #[Value.str (Str.ofString "__init__") 316, Value.str (Str.ofString "Text.__init__") 317, Value.str (Str.ofString "/claim/cut.py") 318, Value.int 25 0, Value.int 3 0, Value.int 0 0, Value.int 0 0, Value.int 3 0, Value.ref 95, Value.bool true, Value.int 181 0, Value.ref 96, Value.none, Value.ref 97, Value.ref 98, Value.ref 99, Value.int 322 0, Value.int 25 0, Value.str (Str.ofString "/claim/cut.py") 323] }) ::
  (nat_lit 101, { cls := Value.type "function", data := Data.func { name := Str.ofString "__init__", qualname := Str.ofString "Text.__init__", params := q101, body := FuncBody.stmts b101, scope := s101, globals := 3, closure := [], defaults := Value.ref 94, kwdefaults := Value.none, pyModule := Value.str (Str.ofString "emacs.objects") 227, code := Value.ref 100 } }) ::
  (nat_lit 102, { cls := Value.type "tuple", data := Data.seq #[Value.str (Str.ofString "codes") 325, Value.str (Str.ofString "spans") 326] }) ::
  (nat_lit 103, { cls := Value.type "dict", data := Data.dict #[{ hash := PyData.keyHash P (Str.ofString "__module__"), key := Value.str (Str.ofString "__module__") 311, val := Value.str (Str.ofString "emacs.objects") 227 }, { hash := PyData.keyHash P (Str.ofString "__firstlineno__"), key := Value.str (Str.ofString "__firstlineno__") 315, val := Value.int 23 314 }, { hash := PyData.keyHash P (Str.ofString "__init__"), key := Value.str (Str.ofString "__init__") 324, val := Value.ref 101 }, { hash := PyData.keyHash P (Str.ofString "__static_attributes__"), key := Value.str (Str.ofString "__static_attributes__") 327, val := Value.ref 102 }, { hash := PyData.keyHash P (Str.ofString "__dict__"), key := Value.str (Str.ofString "__dict__") 329, val := Value.ref 105 }, { hash := PyData.keyHash P (Str.ofString "__weakref__"), key := Value.str (Str.ofString "__weakref__") 331, val := Value.ref 106 }, { hash := PyData.keyHash P (Str.ofString "__doc__"), key := Value.str (Str.ofString "__doc__") 332, val := Value.none }] 4 }) ::
  (nat_lit 104, { cls := Value.type "type", data := Data.cls { name := Str.ofString "Text", bases := [Value.type "object"], mro := [Value.ref 104, Value.type "object"], ns := 103, qualname := Str.ofString "Text" }, slots := #[none, none, some (Value.str (Str.ofString "Text") 304), some (Value.str (Str.ofString "Text") 312), some (Value.builtin "object.__new__"), some (Value.bool true)] }) ::
  (nat_lit 105, { cls := Value.type "getset_descriptor", data := Data.fields #[Value.str (Str.ofString "__dict__") 328, Value.ref 104, Value.builtin "function.__dict__", Value.builtin "function.__dict__#set"] }) ::
  (nat_lit 106, { cls := Value.type "getset_descriptor", data := Data.fields #[Value.str (Str.ofString "__weakref__") 330, Value.ref 104, Value.builtin "ExceptionGroup.__weakref__", Value.none] }) ::
  (nat_lit 116, { cls := Value.type "tuple", data := Data.seq #[] }) ::
  (nat_lit 118, { cls := Value.type "tuple", data := Data.seq #[Value.str (Str.ofString "self") 350, Value.str (Str.ofString "things") 351] }) ::
  (nat_lit 119, { cls := Value.type "tuple", data := Data.seq #[] }) ::
  (nat_lit 121, { cls := Value.type "code", data := Data.fields #[Value.str (Str.ofString "__init__") 347, Value.str (Str.ofString "Vector.__init__") 348, Value.str (Str.ofString "/claim/cut.py") 349, Value.int 30 0, Value.int 2 0, Value.int 0 0, Value.int 0 0, Value.int 3 0, Value.ref 116, Value.bool true, Value.int 181 0, Value.ref 117, Value.none, Value.ref 118, Value.ref 119, Value.ref 120, Value.int 352 0, Value.int 30 0, Value.str (Str.ofString "/claim/cut.py") 353] }) ::
  (nat_lit 122, { cls := Value.type "function", data := Data.func { name := Str.ofString "__init__", qualname := Str.ofString "Vector.__init__", params := q122, body := FuncBody.stmts b122, scope := s122, globals := 3, closure := [], defaults := Value.none, kwdefaults := Value.none, pyModule := Value.str (Str.ofString "emacs.objects") 227, code := Value.ref 121 } }) ::
  (nat_lit 123, { cls := Value.type "tuple", data := Data.seq #[Value.str (Str.ofString "things") 355] }) ::
  (nat_lit 124, { cls := Value.type "dict", data := Data.dict #[{ hash := PyData.keyHash P (Str.ofString "__module__"), key := Value.str (Str.ofString "__module__") 342, val := Value.str (Str.ofString "emacs.objects") 227 }, { hash := PyData.keyHash P (Str.ofString "__firstlineno__"), key := Value.str (Str.ofString "__firstlineno__") 346, val := Value.int 28 345 }, { hash := PyData.keyHash P (Str.ofString "__init__"), key := Value.str (Str.ofString "__init__") 354, val := Value.ref 122 }, { hash := PyData.keyHash P (Str.ofString "__static_attributes__"), key := Value.str (Str.ofString "__static_attributes__") 356, val := Value.ref 123 }, { hash := PyData.keyHash P (Str.ofString "__dict__"), key := Value.str (Str.ofString "__dict__") 358, val := Value.ref 126 }, { hash := PyData.keyHash P (Str.ofString "__weakref__"), key := Value.str (Str.ofString "__weakref__") 360, val := Value.ref 127 }, { hash := PyData.keyHash P (Str.ofString "__doc__"), key := Value.str (Str.ofString "__doc__") 361, val := Value.none }] 4 }) ::
  (nat_lit 125, { cls := Value.type "type", data := Data.cls { name := Str.ofString "Vector", bases := [Value.type "object"], mro := [Value.ref 125, Value.type "object"], ns := 124, qualname := Str.ofString "Vector" }, slots := #[none, none, some (Value.str (Str.ofString "Vector") 335), some (Value.str (Str.ofString "Vector") 343), some (Value.builtin "object.__new__"), some (Value.bool true)] }) ::
  (nat_lit 126, { cls := Value.type "getset_descriptor", data := Data.fields #[Value.str (Str.ofString "__dict__") 357, Value.ref 125, Value.builtin "function.__dict__", Value.builtin "function.__dict__#set"] }) ::
  (nat_lit 127, { cls := Value.type "getset_descriptor", data := Data.fields #[Value.str (Str.ofString "__weakref__") 359, Value.ref 125, Value.builtin "ExceptionGroup.__weakref__", Value.none] }) ::
  (nat_lit 137, { cls := Value.type "tuple", data := Data.seq #[] }) ::
  (nat_lit 139, { cls := Value.type "tuple", data := Data.seq #[Value.str (Str.ofString "self") 379, Value.str (Str.ofString "things") 380] }) ::
  (nat_lit 140, { cls := Value.type "tuple", data := Data.seq #[] }) ::
  (nat_lit 142, { cls := Value.type "code", data := Data.fields #[Value.str (Str.ofString "__init__") 376, Value.str (Str.ofString "ByteCode.__init__") 377, Value.str (Str.ofString "/claim/cut.py") 378, Value.int 34 0, Value.int 2 0, Value.int 0 0, Value.int 0 0, Value.int 3 0, Value.ref 137, Value.bool true, Value.int 181 0, Value.ref 138, Value.none, Value.ref 139, Value.ref 140, Value.ref 141, Value.int 381 0, Value.int 34 0, Value.str (Str.ofString "/claim/cut.py") 382] }) ::
  (nat_lit 143, { cls := Value.type "function", data := Data.func { name := Str.ofString "__init__", qualname := Str.ofString "ByteCode.__init__", params := q143, body := FuncBody.stmts b143, scope := s143, globals := 3, closure := [], defaults := Value.none, kwdefaults := Value.none, pyModule := Value.str (Str.ofString "emacs.objects") 227, code := Value.ref 142 } }) ::
  (nat_lit 144, { cls := Value.type "tuple", data := Data.seq #[Value.str (Str.ofString "things") 384] }) ::
  (nat_lit 145, { cls := Value.type "dict", data := Data.dict #[{ hash := PyData.keyHash P (Str.ofString "__module__"), key := Value.str (Str.ofString "__module__") 371, val := Value.str (Str.ofString "emacs.objects") 227 }, { hash := PyData.keyHash P (Str.ofString "__firstlineno__"), key := Value.str (Str.ofString "__firstlineno__") 375, val := Value.int 32 374 }, { hash := PyData.keyHash P (Str.ofString "__init__"), key := Value.str (Str.ofString "__init__") 383, val := Value.ref 143 }, { hash := PyData.keyHash P (Str.ofString "__static_attributes__"), key := Value.str (Str.ofString "__static_attributes__") 385, val := Value.ref 144 }, { hash := PyData.keyHash P (Str.ofString "__dict__"), key := Value.str (Str.ofString "__dict__") 387, val := Value.ref 147 }, { hash := PyData.keyHash P (Str.ofString "__weakref__"), key := Value.str (Str.ofString "__weakref__") 389, val := Value.ref 148 }, { hash := PyData.keyHash P (Str.ofString "__doc__"), key := Value.str (Str.ofString "__doc__") 390, val := Value.none }] 4 }) ::
  (nat_lit 146, { cls := Value.type "type", data := Data.cls { name := Str.ofString "ByteCode", bases := [Value.type "object"], mro := [Value.ref 146, Value.type "object"], ns := 145, qualname := Str.ofString "ByteCode" }, slots := #[none, none, some (Value.str (Str.ofString "ByteCode") 364), some (Value.str (Str.ofString "ByteCode") 372), some (Value.builtin "object.__new__"), some (Value.bool true)] }) ::
  (nat_lit 147, { cls := Value.type "getset_descriptor", data := Data.fields #[Value.str (Str.ofString "__dict__") 386, Value.ref 146, Value.builtin "function.__dict__", Value.builtin "function.__dict__#set"] }) ::
  (nat_lit 148, { cls := Value.type "getset_descriptor", data := Data.fields #[Value.str (Str.ofString "__weakref__") 388, Value.ref 146, Value.builtin "ExceptionGroup.__weakref__", Value.none] }) ::
  (nat_lit 158, { cls := Value.type "tuple", data := Data.seq #[] }) ::
  (nat_lit 160, { cls := Value.type "tuple", data := Data.seq #[Value.str (Str.ofString "self") 408] }) ::
  (nat_lit 161, { cls := Value.type "tuple", data := Data.seq #[] }) ::
  (nat_lit 163, { cls := Value.type "code", data := Data.fields #[Value.str (Str.ofString "shown") 405, Value.str (Str.ofString "Opaque.shown") 406, Value.str (Str.ofString "/claim/cut.py") 407, Value.int 38 0, Value.int 1 0, Value.int 0 0, Value.int 0 0, Value.int 3 0, Value.ref 158, Value.bool true, Value.int 181 0, Value.ref 159, Value.none, Value.ref 160, Value.ref 161, Value.ref 162, Value.int 409 0, Value.int 38 0, Value.str (Str.ofString "/claim/cut.py") 410] }) ::
  (nat_lit 164, { cls := Value.type "function", data := Data.func { name := Str.ofString "shown", qualname := Str.ofString "Opaque.shown", params := q164, body := FuncBody.stmts b164, scope := s164, globals := 3, closure := [], defaults := Value.none, kwdefaults := Value.none, pyModule := Value.str (Str.ofString "emacs.objects") 227, code := Value.ref 163 } }) ::
  (nat_lit 165, { cls := Value.type "tuple", data := Data.seq #[] }) ::
  (nat_lit 167, { cls := Value.type "tuple", data := Data.seq #[Value.str (Str.ofString "self") 415] }) ::
  (nat_lit 168, { cls := Value.type "tuple", data := Data.seq #[] }) ::
  (nat_lit 170, { cls := Value.type "code", data := Data.fields #[Value.str (Str.ofString "kind") 412, Value.str (Str.ofString "Opaque.kind") 413, Value.str (Str.ofString "/claim/cut.py") 414, Value.int 41 0, Value.int 1 0, Value.int 0 0, Value.int 0 0, Value.int 3 0, Value.ref 165, Value.bool true, Value.int 181 0, Value.ref 166, Value.none, Value.ref 167, Value.ref 168, Value.ref 169, Value.int 416 0, Value.int 41 0, Value.str (Str.ofString "/claim/cut.py") 417] }) ::
  (nat_lit 171, { cls := Value.type "function", data := Data.func { name := Str.ofString "kind", qualname := Str.ofString "Opaque.kind", params := q171, body := FuncBody.stmts b171, scope := s171, globals := 3, closure := [], defaults := Value.none, kwdefaults := Value.none, pyModule := Value.str (Str.ofString "emacs.objects") 227, code := Value.ref 170 } }) ::
  (nat_lit 172, { cls := Value.type "tuple", data := Data.seq #[] }) ::
  (nat_lit 174, { cls := Value.type "tuple", data := Data.seq #[Value.str (Str.ofString "self") 422, Value.str (Str.ofString "other") 423] }) ::
  (nat_lit 175, { cls := Value.type "tuple", data := Data.seq #[] }) ::
  (nat_lit 177, { cls := Value.type "code", data := Data.fields #[Value.str (Str.ofString "same_as") 419, Value.str (Str.ofString "Opaque.same_as") 420, Value.str (Str.ofString "/claim/cut.py") 421, Value.int 44 0, Value.int 2 0, Value.int 0 0, Value.int 0 0, Value.int 3 0, Value.ref 172, Value.bool true, Value.int 181 0, Value.ref 173, Value.none, Value.ref 174, Value.ref 175, Value.ref 176, Value.int 424 0, Value.int 44 0, Value.str (Str.ofString "/claim/cut.py") 425] }) ::
  (nat_lit 178, { cls := Value.type "function", data := Data.func { name := Str.ofString "same_as", qualname := Str.ofString "Opaque.same_as", params := q178, body := FuncBody.stmts b178, scope := s178, globals := 3, closure := [], defaults := Value.none, kwdefaults := Value.none, pyModule := Value.str (Str.ofString "emacs.objects") 227, code := Value.ref 177 } }) ::
  (nat_lit 179, { cls := Value.type "tuple", data := Data.seq #[] }) ::
  (nat_lit 180, { cls := Value.type "dict", data := Data.dict #[{ hash := PyData.keyHash P (Str.ofString "__module__"), key := Value.str (Str.ofString "__module__") 400, val := Value.str (Str.ofString "emacs.objects") 227 }, { hash := PyData.keyHash P (Str.ofString "__firstlineno__"), key := Value.str (Str.ofString "__firstlineno__") 404, val := Value.int 36 403 }, { hash := PyData.keyHash P (Str.ofString "shown"), key := Value.str (Str.ofString "shown") 411, val := Value.ref 164 }, { hash := PyData.keyHash P (Str.ofString "kind"), key := Value.str (Str.ofString "kind") 418, val := Value.ref 171 }, { hash := PyData.keyHash P (Str.ofString "same_as"), key := Value.str (Str.ofString "same_as") 426, val := Value.ref 178 }, { hash := PyData.keyHash P (Str.ofString "__static_attributes__"), key := Value.str (Str.ofString "__static_attributes__") 427, val := Value.ref 179 }, { hash := PyData.keyHash P (Str.ofString "__dict__"), key := Value.str (Str.ofString "__dict__") 429, val := Value.ref 182 }, { hash := PyData.keyHash P (Str.ofString "__weakref__"), key := Value.str (Str.ofString "__weakref__") 431, val := Value.ref 183 }, { hash := PyData.keyHash P (Str.ofString "__doc__"), key := Value.str (Str.ofString "__doc__") 432, val := Value.none }] 4 }) ::
  (nat_lit 181, { cls := Value.type "type", data := Data.cls { name := Str.ofString "Opaque", bases := [Value.type "object"], mro := [Value.ref 181, Value.type "object"], ns := 180, qualname := Str.ofString "Opaque" }, slots := #[none, none, some (Value.str (Str.ofString "Opaque") 393), some (Value.str (Str.ofString "Opaque") 401), some (Value.builtin "object.__new__"), some (Value.bool true)] }) ::
  (nat_lit 182, { cls := Value.type "getset_descriptor", data := Data.fields #[Value.str (Str.ofString "__dict__") 428, Value.ref 181, Value.builtin "function.__dict__", Value.builtin "function.__dict__#set"] }) ::
  (nat_lit 183, { cls := Value.type "getset_descriptor", data := Data.fields #[Value.str (Str.ofString "__weakref__") 430, Value.ref 181, Value.builtin "ExceptionGroup.__weakref__", Value.none] }) ::
  (nat_lit 186, { cls := Value.type "tuple", data := Data.seq #[Value.ref 64] }) ::
  (nat_lit 187, { cls := Value.type "tuple", data := Data.seq #[] }) ::
  (nat_lit 189, { cls := Value.type "tuple", data := Data.seq #[Value.str (Str.ofString "things") 438, Value.str (Str.ofString "tail") 439, Value.str (Str.ofString "found") 440, Value.str (Str.ofString "place") 441] }) ::
  (nat_lit 190, { cls := Value.type "tuple", data := Data.seq #[] }) ::
  (nat_lit 192, { cls := Value.type "code", data := Data.fields #[Value.str (Str.ofString "list_of") 435, Value.str (Str.ofString "list_of") 436, Value.str (Str.ofString "/claim/cut.py") 437, Value.int 46 0, Value.int 2 0, Value.int 0 0, Value.int 0 0, Value.int 3 0, Value.ref 187, Value.bool true, Value.int 181 0, Value.ref 188, Value.none, Value.ref 189, Value.ref 190, Value.ref 191, Value.int 442 0, Value.int 46 0, Value.str (Str.ofString "/claim/cut.py") 443] }) ::
  (nat_lit 193, { cls := Value.type "function", data := Data.func { name := Str.ofString "list_of", qualname := Str.ofString "list_of", params := q193, body := FuncBody.stmts b193, scope := s193, globals := 3, closure := [], defaults := Value.ref 186, kwdefaults := Value.none, pyModule := Value.str (Str.ofString "emacs.objects") 227, code := Value.ref 192 } }) ::
  (nat_lit 194, { cls := Value.type "tuple", data := Data.seq #[] }) ::
  (nat_lit 196, { cls := Value.type "tuple", data := Data.seq #[Value.str (Str.ofString "datum") 448] }) ::
  (nat_lit 197, { cls := Value.type "tuple", data := Data.seq #[] }) ::
  (nat_lit 199, { cls := Value.type "code", data := Data.fields #[Value.str (Str.ofString "is_whole") 445, Value.str (Str.ofString "is_whole") 446, Value.str (Str.ofString "/claim/cut.py") 447, Value.int 51 0, Value.int 1 0, Value.int 0 0, Value.int 0 0, Value.int 3 0, Value.ref 194, Value.bool true, Value.int 181 0, Value.ref 195, Value.none, Value.ref 196, Value.ref 197, Value.ref 198, Value.int 449 0, Value.int 51 0, Value.str (Str.ofString "/claim/cut.py") 450] }) ::
  (nat_lit 200, { cls := Value.type "function", data := Data.func { name := Str.ofString "is_whole", qualname := Str.ofString "is_whole", params := q200, body := FuncBody.stmts b200, scope := s200, globals := 3, closure := [], defaults := Value.none, kwdefaults := Value.none, pyModule := Value.str (Str.ofString "emacs.objects") 227, code := Value.ref 199 } }) ::
  (nat_lit 201, { cls := Value.type "tuple", data := Data.seq #[] }) ::
  (nat_lit 203, { cls := Value.type "tuple", data := Data.seq #[Value.str (Str.ofString "one") 463, Value.str (Str.ofString "other") 464] }) ::
  (nat_lit 204, { cls := Value.type "tuple", data := Data.seq #[] }) ::
  (nat_lit 206, { cls := Value.type "code", data := Data.fields #[Value.str (Str.ofString "eq") 460, Value.str (Str.ofString "eq") 461, Value.str (Str.ofString "/claim/cut.py") 462, Value.int 56 0, Value.int 2 0, Value.int 0 0, Value.int 0 0, Value.int 3 0, Value.ref 201, Value.bool true, Value.int 181 0, Value.ref 202, Value.none, Value.ref 203, Value.ref 204, Value.ref 205, Value.int 465 0, Value.int 56 0, Value.str (Str.ofString "/claim/cut.py") 466] }) ::
  (nat_lit 207, { cls := Value.type "function", data := Data.func { name := Str.ofString "eq", qualname := Str.ofString "eq", params := q207, body := FuncBody.stmts b207, scope := s207, globals := 3, closure := [], defaults := Value.none, kwdefaults := Value.none, pyModule := Value.str (Str.ofString "emacs.equality") 452, code := Value.ref 206 } }) ::
  (nat_lit 208, { cls := Value.type "tuple", data := Data.seq #[] }) ::
  (nat_lit 211, { cls := Value.type "code", data := Data.fields #[Value.str (Str.ofString "parts_of") 468, Value.str (Str.ofString "parts_of") 469, Value.str (Str.ofString "/claim/cut.py") 470, Value.int 60 0, Value.int 2 0, Value.int 0 0, Value.int 0 0, Value.int 3 0, Value.ref 208, Value.bool true, Value.int 181 0, Value.ref 209, Value.none, Value.none, Value.none, Value.ref 210, Value.int 471 0, Value.int 60 0, Value.str (Str.ofString "/claim/cut.py") 472] }) ::
  (nat_lit 212, { cls := Value.type "function", data := Data.func { name := Str.ofString "parts_of", qualname := Str.ofString "parts_of", params := q212, body := FuncBody.stmts b212, scope := s212, globals := 3, closure := [], defaults := Value.none, kwdefaults := Value.none, pyModule := Value.str (Str.ofString "emacs.equality") 452, code := Value.ref 211 } }) ::
  (nat_lit 213, { cls := Value.type "tuple", data := Data.seq #[] }) ::
  (nat_lit 215, { cls := Value.type "tuple", data := Data.seq #[Value.str (Str.ofString "one") 477, Value.str (Str.ofString "other") 478, Value.str (Str.ofString "word") 479] }) ::
  (nat_lit 216, { cls := Value.type "tuple", data := Data.seq #[] }) ::
  (nat_lit 218, { cls := Value.type "code", data := Data.fields #[Value.str (Str.ofString "are_of_one_class") 474, Value.str (Str.ofString "are_of_one_class") 475, Value.str (Str.ofString "/claim/cut.py") 476, Value.int 68 0, Value.int 2 0, Value.int 0 0, Value.int 0 0, Value.int 3 0, Value.ref 213, Value.bool true, Value.int 181 0, Value.ref 214, Value.none, Value.ref 215, Value.ref 216, Value.ref 217, Value.int 480 0, Value.int 68 0, Value.str (Str.ofString "/claim/cut.py") 481] }) ::
  (nat_lit 219, { cls := Value.type "function", data := Data.func { name := Str.ofString "are_of_one_class", qualname := Str.ofString "are_of_one_class", params := q219, body := FuncBody.stmts b219, scope := s219, globals := 3, closure := [], defaults := Value.none, kwdefaults := Value.none, pyModule := Value.str (Str.ofString "emacs.equality") 452, code := Value.ref 218 } }) ::
  (nat_lit 227, { cls := Value.type "tuple", data := Data.seq #[] }) ::
  (nat_lit 229, { cls := Value.type "tuple", data := Data.seq #[Value.str (Str.ofString "self") 498, Value.str (Str.ofString "left") 499, Value.str (Str.ofString "right") 500, Value.str (Str.ofString "deep") 501] }) ::
  (nat_lit 230, { cls := Value.type "tuple", data := Data.seq #[] }) ::
  (nat_lit 232, { cls := Value.type "code", data := Data.fields #[Value.str (Str.ofString "__init__") 495, Value.str (Str.ofString "Task.__init__") 496, Value.str (Str.ofString "/claim/cut.py") 497, Value.int 75 0, Value.int 4 0, Value.int 0 0, Value.int 0 0, Value.int 3 0, Value.ref 227, Value.bool true, Value.int 181 0, Value.ref 228, Value.none, Value.ref 229, Value.ref 230, Value.ref 231, Value.int 502 0, Value.int 75 0, Value.str (Str.ofString "/claim/cut.py") 503] }) ::
  (nat_lit 233, { cls := Value.type "function", data := Data.func { name := Str.ofString "__init__", qualname := Str.ofString "Task.__init__", params := q233, body := FuncBody.stmts b233, scope := s233, globals := 3, closure := [], defaults := Value.none, kwdefaults := Value.none, pyModule := Value.str (Str.ofString "emacs.equality") 452, code := Value.ref 232 } }) ::
  (nat_lit 234, { cls := Value.type "tuple", data := Data.seq #[] }) ::
  (nat_lit 236, { cls := Value.type "tuple", data := Data.seq #[Value.str (Str.ofString "self") 508] }) ::
  (nat_lit 237, { cls := Value.type "tuple", data := Data.seq #[] }) ::
  (nat_lit 239, { cls := Value.type "code", data := Data.fields #[Value.str (Str.ofString "is_round") 505, Value.str (Str.ofString "Task.is_round") 506, Value.str (Str.ofString "/claim/cut.py") 507, Value.int 83 0, Value.int 1 0, Value.int 0 0, Value.int 0 0, Value.int 3 0, Value.ref 234, Value.bool true, Value.int 181 0, Value.ref 235, Value.none, Value.ref 236, Value.ref 237, Value.ref 238, Value.int 509 0, Value.int 83 0, Value.str (Str.ofString "/claim/cut.py") 510] }) ::
  (nat_lit 240, { cls := Value.type "function", data := Data.func { name := Str.ofString "is_round", qualname := Str.ofString "Task.is_round", params := q240, body := FuncBody.stmts b240, scope := s240, globals := 3, closure := [], defaults := Value.none, kwdefaults := Value.none, pyModule := Value.str (Str.ofString "emacs.equality") 452, code := Value.ref 239 } }) ::
  (nat_lit 241, { cls := Value.type "tuple", data := Data.seq #[] }) ::
  (nat_lit 243, { cls := Value.type "tuple", data := Data.seq #[Value.str (Str.ofString "self") 515] }) ::
  (nat_lit 244, { cls := Value.type "tuple", data := Data.seq #[] }) ::
  (nat_lit 246, { cls := Value.type "code", data := Data.fields #[Value.str (Str.ofString "go_on") 512, Value.str (Str.ofString "Task.go_on") 513, Value.str (Str.ofString "/claim/cut.py") 514, Value.int 86 0, Value.int 1 0, Value.int 0 0, Value.int 0 0, Value.int 3 0, Value.ref 241, Value.bool true, Value.int 181 0, Value.ref 242, Value.none, Value.ref 243, Value.ref 244, Value.ref 245, Value.int 516 0, Value.int 86 0, Value.str (Str.ofString "/claim/cut.py") 517] }) ::
  (nat_lit 247, { cls := Value.type "function", data := Data.func { name := Str.ofString "go_on", qualname := Str.ofString "Task.go_on", params := q247, body := FuncBody.stmts b247, scope := s247, globals := 3, closure := [], defaults := Value.none, kwdefaults := Value.none, pyModule := Value.str (Str.ofString "emacs.equality") 452, code := Value.ref 246 } }) ::
  (nat_lit 248, { cls := Value.type "tuple", data := Data.seq #[Value.str (Str.ofString "deep") 519, Value.str (Str.ofString "left") 520, Value.str (Str.ofString "right") 521, Value.str (Str.ofString "slow_left") 522, Value.str (Str.ofString "slow_right") 523, Value.str (Str.ofString "turn") 524] }) ::
  (nat_lit 249, { cls := Value.type "dict", data := Data.dict #[{ hash := PyData.keyHash P (Str.ofString "__module__"), key := Value.str (Str.ofString "__module__") 490, val := Value.str (Str.ofString "emacs.equality") 452 }, { hash := PyData.keyHash P (Str.ofString "__firstlineno__"), key := Value.str (Str.ofString "__firstlineno__") 494, val := Value.int 73 493 }, { hash := PyData.keyHash P (Str.ofString "__init__"), key := Value.str (Str.ofString "__init__") 504, val := Value.ref 233 }, { hash := PyData.keyHash P (Str.ofString "is_round"), key := Value.str (Str.ofString "is_round") 511, val := Value.ref 240 }, { hash := PyData.keyHash P (Str.ofString "go_on"), key := Value.str (Str.ofString "go_on") 518, val := Value.ref 247 }, { hash := PyData.keyHash P (Str.ofString "__static_attributes__"), key := Value.str (Str.ofString "__static_attributes__") 525, val := Value.ref 248 }, { hash := PyData.keyHash P (Str.ofString "__dict__"), key := Value.str (Str.ofString "__dict__") 527, val := Value.ref 251 }, { hash := PyData.keyHash P (Str.ofString "__weakref__"), key := Value.str (Str.ofString "__weakref__") 529, val := Value.ref 252 }, { hash := PyData.keyHash P (Str.ofString "__doc__"), key := Value.str (Str.ofString "__doc__") 530, val := Value.none }] 4 }) ::
  (nat_lit 250, { cls := Value.type "type", data := Data.cls { name := Str.ofString "Task", bases := [Value.type "object"], mro := [Value.ref 250, Value.type "object"], ns := 249, qualname := Str.ofString "Task" }, slots := #[none, none, some (Value.str (Str.ofString "Task") 483), some (Value.str (Str.ofString "Task") 491), some (Value.builtin "object.__new__"), some (Value.bool true)] }) ::
  (nat_lit 251, { cls := Value.type "getset_descriptor", data := Data.fields #[Value.str (Str.ofString "__dict__") 526, Value.ref 250, Value.builtin "function.__dict__", Value.builtin "function.__dict__#set"] }) ::
  (nat_lit 252, { cls := Value.type "getset_descriptor", data := Data.fields #[Value.str (Str.ofString "__weakref__") 528, Value.ref 250, Value.builtin "ExceptionGroup.__weakref__", Value.none] }) ::
  (nat_lit 255, { cls := Value.type "tuple", data := Data.seq #[] }) ::
  (nat_lit 258, { cls := Value.type "code", data := Data.fields #[Value.str (Str.ofString "equal_by") 533, Value.str (Str.ofString "equal_by") 534, Value.str (Str.ofString "/claim/cut.py") 535, Value.int 93 0, Value.int 3 0, Value.int 0 0, Value.int 0 0, Value.int 3 0, Value.ref 255, Value.bool true, Value.int 181 0, Value.ref 256, Value.none, Value.none, Value.none, Value.ref 257, Value.int 536 0, Value.int 93 0, Value.str (Str.ofString "/claim/cut.py") 537] }) ::
  (nat_lit 259, { cls := Value.type "function", data := Data.func { name := Str.ofString "equal_by", qualname := Str.ofString "equal_by", params := q259, body := FuncBody.stmts b259, scope := s259, globals := 3, closure := [], defaults := Value.none, kwdefaults := Value.none, pyModule := Value.str (Str.ofString "emacs.equality") 452, code := Value.ref 258 } }) ::
  (nat_lit 260, { cls := Value.type "tuple", data := Data.seq #[] }) ::
  (nat_lit 262, { cls := Value.type "tuple", data := Data.seq #[Value.str (Str.ofString "one") 542, Value.str (Str.ofString "other") 543] }) ::
  (nat_lit 263, { cls := Value.type "tuple", data := Data.seq #[] }) ::
  (nat_lit 265, { cls := Value.type "code", data := Data.fields #[Value.str (Str.ofString "are_any") 539, Value.str (Str.ofString "are_any") 540, Value.str (Str.ofString "/claim/cut.py") 541, Value.int 117 0, Value.int 2 0, Value.int 0 0, Value.int 0 0, Value.int 3 0, Value.ref 260, Value.bool true, Value.int 181 0, Value.ref 261, Value.none, Value.ref 262, Value.ref 263, Value.ref 264, Value.int 544 0, Value.int 117 0, Value.str (Str.ofString "/claim/cut.py") 545] }) ::
  (nat_lit 266, { cls := Value.type "function", data := Data.func { name := Str.ofString "are_any", qualname := Str.ofString "are_any", params := q266, body := FuncBody.stmts b266, scope := s266, globals := 3, closure := [], defaults := Value.none, kwdefaults := Value.none, pyModule := Value.str (Str.ofString "emacs.equality") 452, code := Value.ref 265 } }) ::
  (nat_lit 267, { cls := Value.type "tuple", data := Data.seq #[] }) ::
  (nat_lit 269, { cls := Value.type "tuple", data := Data.seq #[Value.str (Str.ofString "one") 550, Value.str (Str.ofString "other") 551] }) ::
  (nat_lit 270, { cls := Value.type "tuple", data := Data.seq #[] }) ::
  (nat_lit 272, { cls := Value.type "code", data := Data.fields #[Value.str (Str.ofString "equal") 547, Value.str (Str.ofString "equal") 548, Value.str (Str.ofString "/claim/cut.py") 549, Value.int 119 0, Value.int 2 0, Value.int 0 0, Value.int 0 0, Value.int 3 0, Value.ref 267, Value.bool true, Value.int 181 0, Value.ref 268, Value.none, Value.ref 269, Value.ref 270, Value.ref 271, Value.int 552 0, Value.int 119 0, Value.str (Str.ofString "/claim/cut.py") 553] }) ::
  (nat_lit 273, { cls := Value.type "function", data := Data.func { name := Str.ofString "equal", qualname := Str.ofString "equal", params := q273, body := FuncBody.stmts b273, scope := s273, globals := 3, closure := [], defaults := Value.none, kwdefaults := Value.none, pyModule := Value.str (Str.ofString "emacs.equality") 452, code := Value.ref 272 } }) ::
  (nat_lit 274, { cls := Value.type "tuple", data := Data.seq #[] }) ::
  (nat_lit 277, { cls := Value.type "code", data := Data.fields #[Value.str (Str.ofString "_law_deck") 557, Value.str (Str.ofString "_law_deck") 558, Value.str (Str.ofString "/claim/cut.py") 559, Value.int 122 0, Value.int 1 0, Value.int 0 0, Value.int 0 0, Value.int 3 0, Value.ref 274, Value.bool true, Value.int 181 0, Value.ref 275, Value.none, Value.none, Value.none, Value.ref 276, Value.int 560 0, Value.int 122 0, Value.str (Str.ofString "/claim/cut.py") 561] }) ::
  (nat_lit 278, { cls := Value.type "function", data := Data.func { name := Str.ofString "_law_deck", qualname := Str.ofString "_law_deck", params := q278, body := FuncBody.stmts b278, scope := s278, globals := 3, closure := [], defaults := Value.none, kwdefaults := Value.none, pyModule := Value.str (Str.ofString "law_pq0276_01") 555, code := Value.ref 277 } }) ::
  (nat_lit 279, { cls := Value.type "tuple", data := Data.seq #[] }) ::
  (nat_lit 281, { cls := Value.type "tuple", data := Data.seq #[Value.str (Str.ofString "_law_deck_here") 566, Value.str (Str.ofString "_law_many") 567, Value.str (Str.ofString "_law_found") 568] }) ::
  (nat_lit 282, { cls := Value.type "tuple", data := Data.seq #[] }) ::
  (nat_lit 284, { cls := Value.type "code", data := Data.fields #[Value.str (Str.ofString "_law_draw") 563, Value.str (Str.ofString "_law_draw") 564, Value.str (Str.ofString "/claim/cut.py") 565, Value.int 127 0, Value.int 2 0, Value.int 0 0, Value.int 0 0, Value.int 3 0, Value.ref 279, Value.bool true, Value.int 181 0, Value.ref 280, Value.none, Value.ref 281, Value.ref 282, Value.ref 283, Value.int 569 0, Value.int 127 0, Value.str (Str.ofString "/claim/cut.py") 570] }) ::
  (nat_lit 285, { cls := Value.type "function", data := Data.func { name := Str.ofString "_law_draw", qualname := Str.ofString "_law_draw", params := q285, body := FuncBody.stmts b285, scope := s285, globals := 3, closure := [], defaults := Value.none, kwdefaults := Value.none, pyModule := Value.str (Str.ofString "law_pq0276_01") 555, code := Value.ref 284 } }) ::
  (nat_lit 293, { cls := Value.type "tuple", data := Data.seq #[] }) ::
  (nat_lit 295, { cls := Value.type "tuple", data := Data.seq #[Value.str (Str.ofString "_law_code") 583] }) ::
  (nat_lit 296, { cls := Value.type "tuple", data := Data.seq #[] }) ::
  (nat_lit 298, { cls := Value.type "code", data := Data.fields #[Value.str (Str.ofString "_law_thing") 580, Value.str (Str.ofString "_law_thing") 581, Value.str (Str.ofString "/claim/cut.py") 582, Value.int 138 0, Value.int 1 0, Value.int 0 0, Value.int 0 0, Value.int 3 0, Value.ref 293, Value.bool true, Value.int 181 0, Value.ref 294, Value.none, Value.ref 295, Value.ref 296, Value.ref 297, Value.int 584 0, Value.int 138 0, Value.str (Str.ofString "/claim/cut.py") 585] }) ::
  (nat_lit 299, { cls := Value.type "function", data := Data.func { name := Str.ofString "_law_thing", qualname := Str.ofString "_law_thing", params := q299, body := FuncBody.stmts b299, scope := s299, globals := 3, closure := [], defaults := Value.none, kwdefaults := Value.none, pyModule := Value.str (Str.ofString "law_pq0276_01") 555, code := Value.ref 298 } }) ::
  (nat_lit 300, { cls := Value.type "tuple", data := Data.seq #[] }) ::
  (nat_lit 303, { cls := Value.type "code", data := Data.fields #[Value.str (Str.ofString "_law_list") 587, Value.str (Str.ofString "_law_list") 588, Value.str (Str.ofString "/claim/cut.py") 589, Value.int 142 0, Value.int 3 0, Value.int 0 0, Value.int 0 0, Value.int 3 0, Value.ref 300, Value.bool true, Value.int 181 0, Value.ref 301, Value.none, Value.none, Value.none, Value.ref 302, Value.int 590 0, Value.int 142 0, Value.str (Str.ofString "/claim/cut.py") 591] }) ::
  (nat_lit 304, { cls := Value.type "function", data := Data.func { name := Str.ofString "_law_list", qualname := Str.ofString "_law_list", params := q304, body := FuncBody.stmts b304, scope := s304, globals := 3, closure := [], defaults := Value.none, kwdefaults := Value.none, pyModule := Value.str (Str.ofString "law_pq0276_01") 555, code := Value.ref 303 } }) ::
  (nat_lit 305, { cls := Value.type "tuple", data := Data.seq #[] }) ::
  (nat_lit 307, { cls := Value.type "tuple", data := Data.seq #[Value.str (Str.ofString "_law_ahead") 596, Value.str (Str.ofString "_law_ring") 597, Value.str (Str.ofString "_law_tail") 598, Value.str (Str.ofString "_law_place") 599] }) ::
  (nat_lit 308, { cls := Value.type "tuple", data := Data.seq #[] }) ::
  (nat_lit 310, { cls := Value.type "code", data := Data.fields #[Value.str (Str.ofString "_law_at") 593, Value.str (Str.ofString "_law_at") 594, Value.str (Str.ofString "/claim/cut.py") 595, Value.int 151 0, Value.int 4 0, Value.int 0 0, Value.int 0 0, Value.int 3 0, Value.ref 305, Value.bool true, Value.int 181 0, Value.ref 306, Value.none, Value.ref 307, Value.ref 308, Value.ref 309, Value.int 600 0, Value.int 151 0, Value.str (Str.ofString "/claim/cut.py") 601] }) ::
  (nat_lit 311, { cls := Value.type "function", data := Data.func { name := Str.ofString "_law_at", qualname := Str.ofString "_law_at", params := q311, body := FuncBody.stmts b311, scope := s311, globals := 3, closure := [], defaults := Value.none, kwdefaults := Value.none, pyModule := Value.str (Str.ofString "law_pq0276_01") 555, code := Value.ref 310 } }) ::
  (nat_lit 312, { cls := Value.type "tuple", data := Data.seq #[] }) ::
  (nat_lit 314, { cls := Value.type "tuple", data := Data.seq #[Value.str (Str.ofString "_law_one_here") 606, Value.str (Str.ofString "_law_other") 607, Value.str (Str.ofString "_law_place") 608, Value.str (Str.ofString "_law_here") 609, Value.str (Str.ofString "_law_there") 610] }) ::
  (nat_lit 315, { cls := Value.type "tuple", data := Data.seq #[] }) ::
  (nat_lit 317, { cls := Value.type "code", data := Data.fields #[Value.str (Str.ofString "_law_due") 603, Value.str (Str.ofString "_law_due") 604, Value.str (Str.ofString "/claim/cut.py") 605, Value.int 157 0, Value.int 2 0, Value.int 0 0, Value.int 0 0, Value.int 3 0, Value.ref 312, Value.bool true, Value.int 181 0, Value.ref 313, Value.none, Value.ref 314, Value.ref 315, Value.ref 316, Value.int 611 0, Value.int 157 0, Value.str (Str.ofString "/claim/cut.py") 612] }) ::
  (nat_lit 318, { cls := Value.type "function", data := Data.func { name := Str.ofString "_law_due", qualname := Str.ofString "_law_due", params := q318, body := FuncBody.stmts b318, scope := s318, globals := 3, closure := [], defaults := Value.none, kwdefaults := Value.none, pyModule := Value.str (Str.ofString "law_pq0276_01") 555, code := Value.ref 317 } }) ::
  (nat_lit 319, { cls := Value.type "tuple", data := Data.seq #[] }) ::
  (nat_lit 322, { cls := Value.type "code", data := Data.fields #[Value.str (Str.ofString "_law_drawn") 614, Value.str (Str.ofString "_law_drawn") 615, Value.str (Str.ofString "/claim/cut.py") 616, Value.int 165 0, Value.int 2 0, Value.int 0 0, Value.int 0 0, Value.int 3 0, Value.ref 319, Value.bool true, Value.int 181 0, Value.ref 320, Value.none, Value.none, Value.none, Value.ref 321, Value.int 617 0, Value.int 165 0, Value.str (Str.ofString "/claim/cut.py") 618] }) ::
  (nat_lit 323, { cls := Value.type "function", data := Data.func { name := Str.ofString "_law_drawn", qualname := Str.ofString "_law_drawn", params := q323, body := FuncBody.stmts b323, scope := s323, globals := 3, closure := [], defaults := Value.none, kwdefaults := Value.none, pyModule := Value.str (Str.ofString "law_pq0276_01") 555, code := Value.ref 322 } }) ::
  (nat_lit 324, { cls := Value.type "tuple", data := Data.seq #[] }) ::
  (nat_lit 326, { cls := Value.type "tuple", data := Data.seq #[Value.str (Str.ofString "script") 623, Value.str (Str.ofString "_law_deck_here") 624, Value.str (Str.ofString "_law_one_here") 625, Value.str (Str.ofString "_law_way") 626, Value.str (Str.ofString "_law_other") 627, Value.str (Str.ofString "_law_first") 628, Value.str (Str.ofString "_law_second") 629, Value.str (Str.ofString "_law_heard") 630, Value.str (Str.ofString "signal_here") 631] }) ::
  (nat_lit 327, { cls := Value.type "tuple", data := Data.seq #[] }) ::
  (nat_lit 329, { cls := Value.type "code", data := Data.fields #[Value.str (Str.ofString "law") 620, Value.str (Str.ofString "law") 621, Value.str (Str.ofString "/claim/cut.py") 622, Value.int 169 0, Value.int 1 0, Value.int 0 0, Value.int 0 0, Value.int 3 0, Value.ref 324, Value.bool true, Value.int 181 0, Value.ref 325, Value.none, Value.ref 326, Value.ref 327, Value.ref 328, Value.int 632 0, Value.int 169 0, Value.str (Str.ofString "/claim/cut.py") 633] }) ::
  (nat_lit 330, { cls := Value.type "function", data := Data.func { name := Str.ofString "law", qualname := Str.ofString "law", params := q330, body := FuncBody.stmts b330, scope := s330, globals := 3, closure := [], defaults := Value.none, kwdefaults := Value.none, pyModule := Value.str (Str.ofString "law_pq0276_01") 555, code := Value.ref 329 } }) :: []))
  _ (by conv => lhs; whnf) _ (by conv => lhs; whnf) _ (by conv => lhs; whnf) _ (by conv => lhs; whnf) _ (by conv => lhs; whnf) _ (by conv => lhs; whnf) _ (by conv => lhs; whnf) _ (by conv => lhs; whnf) _ (by conv => lhs; whnf) _ (by conv => lhs; whnf) _ (by conv => lhs; whnf) _ (by conv => lhs; whnf) _ (by conv => lhs; whnf) _ (by conv => lhs; whnf) _ (by conv => lhs; whnf) _ (by conv => lhs; whnf) _ (by conv => lhs; whnf) _ (by conv => lhs; whnf) _ (by conv => lhs; whnf) _ (by conv => lhs; whnf) _ (by conv => lhs; whnf) _ (by conv => lhs; whnf) _ (by conv => lhs; whnf) _ (by conv => lhs; whnf) _ (by conv => lhs; whnf) _ (by conv => lhs; whnf) _ (by conv => lhs; whnf) _ (by conv => lhs; whnf) _ (by conv => lhs; whnf) _ (by conv => lhs; whnf) _ (by conv => lhs; whnf) _ (by conv => lhs; whnf) _ (by conv => lhs; whnf) _ (by conv => lhs; whnf) _ (by conv => lhs; whnf) _ (by conv => lhs; whnf) _ (by conv => lhs; whnf) _ (by conv => lhs; whnf) _ (by conv => lhs; whnf) _ (by conv => lhs; whnf) _ (by conv => lhs; whnf) _ (by conv => lhs; whnf) _ (by conv => lhs; whnf) _ (by conv => lhs; whnf) _ (by conv => lhs; whnf) _ (by conv => lhs; whnf) _ (by conv => lhs; whnf) _ (by conv => lhs; whnf) _ (by conv => lhs; whnf) _ (by conv => lhs; whnf) _ (by conv => lhs; whnf) _ (by conv => lhs; whnf) _ (by conv => lhs; whnf) _ (by conv => lhs; whnf) _ (by conv => lhs; whnf) _ (by conv => lhs; whnf) _ (by conv => lhs; whnf) _ (by conv => lhs; whnf) _ (by conv => lhs; whnf) _ (by conv => lhs; whnf) _ (by conv => lhs; whnf) _ (by conv => lhs; whnf) _ (by conv => lhs; whnf) _ (by conv => lhs; whnf) _ (by conv => lhs; whnf) _ (by conv => lhs; whnf) _ (by conv => lhs; whnf) _ (by conv => lhs; whnf) _ (by conv => lhs; whnf) _ (by conv => lhs; whnf) _ (by conv => lhs; whnf) _ (by conv => lhs; whnf) _ (by conv => lhs; whnf) _ (by conv => lhs; whnf) _ (by conv => lhs; whnf) _ (by conv => lhs; whnf) _ (by conv => lhs; whnf) _ (by conv => lhs; whnf) _ (by conv => lhs; whnf) _ (by conv => lhs; whnf) _ (by conv => lhs; whnf) _ (by conv => lhs; whnf) _ (by conv => lhs; whnf) _ (by conv => lhs; whnf) _ (by conv => lhs; whnf) _ (by conv => lhs; whnf) _ (by conv => lhs; whnf)

abbrev asK : List Addr := [nat_lit 2, nat_lit 3, nat_lit 15, nat_lit 17, nat_lit 18, nat_lit 20, nat_lit 21, nat_lit 22, nat_lit 29, nat_lit 31, nat_lit 32, nat_lit 34, nat_lit 35, nat_lit 36, nat_lit 37, nat_lit 38, nat_lit 39, nat_lit 49, nat_lit 51, nat_lit 52, nat_lit 54, nat_lit 55, nat_lit 56, nat_lit 57, nat_lit 58, nat_lit 59, nat_lit 60, nat_lit 63, nat_lit 64, nat_lit 73, nat_lit 75, nat_lit 76, nat_lit 78, nat_lit 79, nat_lit 80, nat_lit 81, nat_lit 82, nat_lit 83, nat_lit 84, nat_lit 94, nat_lit 95, nat_lit 97, nat_lit 98, nat_lit 100, nat_lit 101, nat_lit 102, nat_lit 103, nat_lit 104, nat_lit 105, nat_lit 106, nat_lit 116, nat_lit 118, nat_lit 119, nat_lit 121, nat_lit 122, nat_lit 123, nat_lit 124, nat_lit 125, nat_lit 126, nat_lit 127, nat_lit 137, nat_lit 139, nat_lit 140, nat_lit 142, nat_lit 143, nat_lit 144, nat_lit 145, nat_lit 146, nat_lit 147, nat_lit 148, nat_lit 158, nat_lit 160, nat_lit 161, nat_lit 163, nat_lit 164, nat_lit 165, nat_lit 167, nat_lit 168, nat_lit 170, nat_lit 171, nat_lit 172, nat_lit 174, nat_lit 175, nat_lit 177, nat_lit 178, nat_lit 179, nat_lit 180, nat_lit 181, nat_lit 182, nat_lit 183, nat_lit 186, nat_lit 187, nat_lit 189, nat_lit 190, nat_lit 192, nat_lit 193, nat_lit 194, nat_lit 196, nat_lit 197, nat_lit 199, nat_lit 200, nat_lit 201, nat_lit 203, nat_lit 204, nat_lit 206, nat_lit 207, nat_lit 208, nat_lit 211, nat_lit 212, nat_lit 213, nat_lit 215, nat_lit 216, nat_lit 218, nat_lit 219, nat_lit 227, nat_lit 229, nat_lit 230, nat_lit 232, nat_lit 233, nat_lit 234, nat_lit 236, nat_lit 237, nat_lit 239, nat_lit 240, nat_lit 241, nat_lit 243, nat_lit 244, nat_lit 246, nat_lit 247, nat_lit 248, nat_lit 249, nat_lit 250, nat_lit 251, nat_lit 252, nat_lit 255, nat_lit 258, nat_lit 259, nat_lit 260, nat_lit 262, nat_lit 263, nat_lit 265, nat_lit 266, nat_lit 267, nat_lit 269, nat_lit 270, nat_lit 272, nat_lit 273, nat_lit 274, nat_lit 277, nat_lit 278, nat_lit 279, nat_lit 281, nat_lit 282, nat_lit 284, nat_lit 285, nat_lit 293, nat_lit 295, nat_lit 296, nat_lit 298, nat_lit 299, nat_lit 300, nat_lit 303, nat_lit 304, nat_lit 305, nat_lit 307, nat_lit 308, nat_lit 310, nat_lit 311, nat_lit 312, nat_lit 314, nat_lit 315, nat_lit 317, nat_lit 318, nat_lit 319, nat_lit 322, nat_lit 323, nat_lit 324, nat_lit 326, nat_lit 327, nat_lit 329, nat_lit 330]
def hd.view_39 : Program := view PySem.Challenge.pw_pq0276_01 [0, 2, 4, 5, 6, 7, 8, 9, 10, 12, 14, 15, 16, 17, 18, 19, 20, 21, 22, 24, 25, 26, 27, 28, 29, 30, 31, 32]
def topRunT (tb : String → Option Builtin) (p : Program) (w : World) (n₀ : Nat) (ann : Option Value) : Nat → SharedT → Thread → Option SharedT
  | 0, _, _ => none
  | n + 1, s, t => match through t with
    | true => some s
    | false => match stepOk n₀ ann t with
      | false => none
      | true => match stepT (denote tb) p w s t with
        | some (s', t') => topRunT tb p w n₀ ann n s' t'
        | none => none
theorem topRun_ofT {tb : String → Option Builtin} {p : Program} {w : World} {n₀ : Nat} {ann : Option Value} : ∀ {n : Nat} {s s' : SharedT} {t : Thread}, topRunT tb p w n₀ ann n s t = some s' → topRun tb p w n₀ ann n s.abs t = some s'.abs
  | 0, _, _, _, h => by cases h
  | n + 1, s, s', t, h => by
    unfold topRunT at h
    unfold topRun
    cases he : through t with
    | true => rw [he] at h; cases h; rfl
    | false =>
      rw [he] at h
      cases hk : stepOk n₀ ann t with
      | false => rw [hk] at h; cases h
      | true =>
        rw [hk] at h
        cases hs : stepT (denote tb) p w s t with
        | none => rw [hs] at h; cases h
        | some r => obtain ⟨s₂, t₂⟩ := r; rw [hs] at h; rw [stepT_spec hs]; exact topRun_ofT h
open PySem.W.Fast in
/-- the same run by the library's quick twins -/
noncomputable def topRunQ (tb : String → Option Builtin) (p : Program) (w : World) (n₀ : Nat) (ann : Option Value) : Nat → SharedT → Thread → Option SharedT
  | 0, _, _ => none
  | n + 1, s, t => match through t with
    | true => some s
    | false => match tw6613529449190102663 n₀ ann t with
      | false => none
      | true => match tw10156331382660048174 (tw11892475500146522536 tb) p w s t with
        | some (s', t') => topRunQ tb p w n₀ ann n s' t'
        | none => none
theorem topRunQ_eq {tb : String → Option Builtin} {p : Program} {w : World} {n₀ : Nat} {ann : Option Value} : ∀ (n : Nat) (s : SharedT) (t : Thread), topRunT tb p w n₀ ann n s t = topRunQ tb p w n₀ ann n s t
  | 0, _, _ => rfl
  | n + 1, s, t => by
    unfold topRunT topRunQ
    rw [Fast.te6613529449190102663, Fast.te10156331382660048174, Fast.te11892475500146522536]
    cases through t with
    | true => rfl
    | false =>
      dsimp only
      cases Fast.tw6613529449190102663 n₀ ann t with
      | false => rfl
      | true =>
        dsimp only
        cases Fast.tw10156331382660048174 (Fast.tw11892475500146522536 tb) p w s t with
        | none => rfl
        | some r => exact topRunQ_eq n r.1 r.2
def insAll : List Obj → Nat → BT → BT
  | [], _, t => t
  | o :: l, i, t => insAll l (i + 1) (t.ins i o)
noncomputable def tree0 (P : Params) : BT := insAll (boot_heap P).objs.toList 0 .nil
theorem boot_abs (P : Params) : absHeap (tree0 P) (boot_heap P).objs.size (boot_heap P).life = boot_heap P := by kernel_rfl
noncomputable def restK : Params → Frag := fun P =>
 (fun (q19 : Arguments) (_ : fdP (stAt PW 0) = q19) (b19 : List Stmt) (_ : fdB (stAt PW 0) = b19) (s19 : Scope) (_ : fdS (stAt PW 0) = s19)
  (q33 : Arguments) (_ : fdP (stAt (inCls (stAt PW 2)) 0) = q33) (b33 : List Stmt) (_ : fdB (stAt (inCls (stAt PW 2)) 0) = b33) (s33 : Scope) (_ : fdS (stAt (inCls (stAt PW 2)) 0) = s33)
  (q53 : Arguments) (_ : fdP (stAt (inCls (stAt PW 4)) 0) = q53) (b53 : List Stmt) (_ : fdB (stAt (inCls (stAt PW 4)) 0) = b53) (s53 : Scope) (_ : fdS (stAt (inCls (stAt PW 4)) 0) = s53)
  (q77 : Arguments) (_ : fdP (stAt (inCls (stAt PW 6)) 0) = q77) (b77 : List Stmt) (_ : fdB (stAt (inCls (stAt PW 6)) 0) = b77) (s77 : Scope) (_ : fdS (stAt (inCls (stAt PW 6)) 0) = s77)
  (q99 : Arguments) (_ : fdP (stAt (inCls (stAt PW 7)) 0) = q99) (b99 : List Stmt) (_ : fdB (stAt (inCls (stAt PW 7)) 0) = b99) (s99 : Scope) (_ : fdS (stAt (inCls (stAt PW 7)) 0) = s99)
  (q120 : Arguments) (_ : fdP (stAt (inCls (stAt PW 8)) 0) = q120) (b120 : List Stmt) (_ : fdB (stAt (inCls (stAt PW 8)) 0) = b120) (s120 : Scope) (_ : fdS (stAt (inCls (stAt PW 8)) 0) = s120)
  (q141 : Arguments) (_ : fdP (stAt (inCls (stAt PW 9)) 0) = q141) (b141 : List Stmt) (_ : fdB (stAt (inCls (stAt PW 9)) 0) = b141) (s141 : Scope) (_ : fdS (stAt (inCls (stAt PW 9)) 0) = s141)
  (q162 : Arguments) (_ : fdP (stAt (inCls (stAt PW 10)) 0) = q162) (b162 : List Stmt) (_ : fdB (stAt (inCls (stAt PW 10)) 0) = b162) (s162 : Scope) (_ : fdS (stAt (inCls (stAt PW 10)) 0) = s162)
  (q169 : Arguments) (_ : fdP (stAt (inCls (stAt PW 10)) 1) = q169) (b169 : List Stmt) (_ : fdB (stAt (inCls (stAt PW 10)) 1) = b169) (s169 : Scope) (_ : fdS (stAt (inCls (stAt PW 10)) 1) = s169)
  (q176 : Arguments) (_ : fdP (stAt (inCls (stAt PW 10)) 2) = q176) (b176 : List Stmt) (_ : fdB (stAt (inCls (stAt PW 10)) 2) = b176) (s176 : Scope) (_ : fdS (stAt (inCls (stAt PW 10)) 2) = s176)
  (q191 : Arguments) (_ : fdP (stAt PW 11) = q191) (b191 : List Stmt) (_ : fdB (stAt PW 11) = b191) (s191 : Scope) (_ : fdS (stAt PW 11) = s191)
  (q198 : Arguments) (_ : fdP (stAt PW 12) = q198) (b198 : List Stmt) (_ : fdB (stAt PW 12) = b198) (s198 : Scope) (_ : fdS (stAt PW 12) = s198)
  (q205 : Arguments) (_ : fdP (stAt PW 16) = q205) (b205 : List Stmt) (_ : fdB (stAt PW 16) = b205) (s205 : Scope) (_ : fdS (stAt PW 16) = s205)
  (q210 : Arguments) (_ : fdP (stAt PW 17) = q210) (b210 : List Stmt) (_ : fdB (stAt PW 17) = b210) (s210 : Scope) (_ : fdS (stAt PW 17) = s210)
  (q217 : Arguments) (_ : fdP (stAt PW 18) = q217) (b217 : List Stmt) (_ : fdB (stAt PW 18) = b217) (s217 : Scope) (_ : fdS (stAt PW 18) = s217)
  (q231 : Arguments) (_ : fdP (stAt (inCls (stAt PW 19)) 0) = q231) (b231 : List Stmt) (_ : fdB (stAt (inCls (stAt PW 19)) 0) = b231) (s231 : Scope) (_ : fdS (stAt (inCls (stAt PW 19)) 0) = s231)
  (q238 : Arguments) (_ : fdP (stAt (inCls (stAt PW 19)) 1) = q238) (b238 : List Stmt) (_ : fdB (stAt (inCls (stAt PW 19)) 1) = b238) (s238 : Scope) (_ : fdS (stAt (inCls (stAt PW 19)) 1) = s238)
  (q245 : Arguments) (_ : fdP (stAt (inCls (stAt PW 19)) 2) = q245) (b245 : List Stmt) (_ : fdB (stAt (inCls (stAt PW 19)) 2) = b245) (s245 : Scope) (_ : fdS (stAt (inCls (stAt PW 19)) 2) = s245)
  (q257 : Arguments) (_ : fdP (stAt PW 20) = q257) (b257 : List Stmt) (_ : fdB (stAt PW 20) = b257) (s257 : Scope) (_ : fdS (stAt PW 20) = s257)
  (q264 : Arguments) (_ : fdP (stAt PW 21) = q264) (b264 : List Stmt) (_ : fdB (stAt PW 21) = b264) (s264 : Scope) (_ : fdS (stAt PW 21) = s264)
  (q271 : Arguments) (_ : fdP (stAt PW 22) = q271) (b271 : List Stmt) (_ : fdB (stAt PW 22) = b271) (s271 : Scope) (_ : fdS (stAt PW 22) = s271)
  (q276 : Arguments) (_ : fdP (stAt PW 24) = q276) (b276 : List Stmt) (_ : fdB (stAt PW 24) = b276) (s276 : Scope) (_ : fdS (stAt PW 24) = s276)
  (q283 : Arguments) (_ : fdP (stAt PW 25) = q283) (b283 : List Stmt) (_ : fdB (stAt PW 25) = b283) (s283 : Scope) (_ : fdS (stAt PW 25) = s283)
  (q290 : Arguments) (_ : fdP (stAt PW 26) = q290) (b290 : List Stmt) (_ : fdB (stAt PW 26) = b290) (s290 : Scope) (_ : fdS (stAt PW 26) = s290)
  (q292 : Arguments) (_ : fdP (stAt PW 26) = q292) (b292 : List Stmt) (_ : fdB (stAt PW 26) = b292) (s292 : Scope) (_ : fdS (stAt PW 26) = s292)
  (q297 : Arguments) (_ : fdP (stAt PW 27) = q297) (b297 : List Stmt) (_ : fdB (stAt PW 27) = b297) (s297 : Scope) (_ : fdS (stAt PW 27) = s297)
  (q302 : Arguments) (_ : fdP (stAt PW 28) = q302) (b302 : List Stmt) (_ : fdB (stAt PW 28) = b302) (s302 : Scope) (_ : fdS (stAt PW 28) = s302)
  (q309 : Arguments) (_ : fdP (stAt PW 29) = q309) (b309 : List Stmt) (_ : fdB (stAt PW 29) = b309) (s309 : Scope) (_ : fdS (stAt PW 29) = s309)
  (q316 : Arguments) (_ : fdP (stAt PW 30) = q316) (b316 : List Stmt) (_ : fdB (stAt PW 30) = b316) (s316 : Scope) (_ : fdS (stAt PW 30) = s316)
  (q321 : Arguments) (_ : fdP (stAt PW 31) = q321) (b321 : List Stmt) (_ : fdB (stAt PW 31) = b321) (s321 : Scope) (_ : fdS (stAt PW 31) = s321)
  (q328 : Arguments) (_ : fdP (stAt PW 32) = q328) (b328 : List Stmt) (_ : fdB (stAt PW 32) = b328) (s328 : Scope) (_ : fdS (stAt PW 32) = s328)
  => (
  (nat_lit 11, { cls := Value.type "tuple", data := Data.seq #[] }) ::
  (nat_lit 12, { cls := Value.none, data := Data.fields #[Value.int 1 0, Value.int 0 0, Value.ref 20, Value.int 5 0, Value.int 0 0, Value.ref 27, Value.int 11 0, Value.int 0 0, Value.ref 47, Value.int 18 0, Value.int 0 0, Value.ref 71, Value.int 23 0, Value.int 0 0, Value.ref 92, Value.int 28 0, Value.int 0 0, Value.ref 114, Value.int 32 0, Value.int 0 0, Value.ref 135, Value.int 36 0, Value.int 0 0, Value.ref 156, Value.int 46 0, Value.int 0 0, Value.ref 192, Value.int 51 0, Value.int 0 0, Value.ref 199, Value.int 56 0, Value.int 0 0, Value.ref 206, Value.int 60 0, Value.int 0 0, Value.ref 211, Value.int 68 0, Value.int 0 0, Value.ref 218, Value.int 73 0, Value.int 0 0, Value.ref 225, Value.int 93 0, Value.int 0 0, Value.ref 258, Value.int 117 0, Value.int 0 0, Value.ref 265, Value.int 119 0, Value.int 0 0, Value.ref 272, Value.int 122 0, Value.int 0 0, Value.ref 277, Value.int 127 0, Value.int 0 0, Value.ref 284, Value.int 136 0, Value.int 0 0, Value.ref 291, Value.int 138 0, Value.int 0 0, Value.ref 298, Value.int 142 0, Value.int 0 0, Value.ref 303, Value.int 151 0, Value.int 0 0, Value.ref 310, Value.int 157 0, Value.int 0 0, Value.ref 317, Value.int 165 0, Value.int 0 0, Value.ref 322, Value.int 169 0, Value.int 0 0, Value.ref 329] }) ::
  (nat_lit 13, { cls := Value.type "code", data := Data.fields #[Value.str (Str.ofString "<module>") 182, Value.str (Str.ofString "<module>") 183, Value.str (Str.ofString "/claim/cut.py") 184, Value.int 1 0, Value.int 0 0, Value.int 0 0, Value.int 0 0, Value.int 0 0, Value.ref 11, Value.bool false, Value.int 181 0, Value.ref 12, Value.none, Value.none, Value.none, Value.none, Value.int 185 0, Value.int 1 0, Value.str (Str.ofString "/claim/cut.py") 186] }) ::
  (nat_lit 14, { cls := Value.type "frame", slots := #[some (Value.ref 13), some (Value.ref 3), some (Value.ref 3), none, some (Value.str (Str.ofString "__main__") 164), none, some (Value.ref 0)] }) ::
  (nat_lit 16, { cls := Value.none, data := Data.fields #[] }) ::
  (nat_lit 19, { cls := Value.none, data := Data.func { name := Str.ofString "_wall", qualname := Str.ofString "_wall", params := q19, body := FuncBody.stmts b19, scope := s19, globals := 0, closure := [], defaults := Value.none, kwdefaults := Value.none } }) ::
  (nat_lit 23, { cls := Value.type "builtin_function_or_method", data := Data.fields #[Value.builtin "type.__prepare__", Value.type "type"] }) ::
  (nat_lit 24, { cls := Value.type "dict", data := Data.dict #[{ hash := PyData.keyHash P (Str.ofString "__module__"), key := Value.str (Str.ofString "__module__") 203, val := Value.str (Str.ofString "emacs.errors") 194 }, { hash := PyData.keyHash P (Str.ofString "__qualname__"), key := Value.str (Str.ofString "__qualname__") 205, val := Value.str (Str.ofString "LispSignal") 204 }, { hash := PyData.keyHash P (Str.ofString "__firstlineno__"), key := Value.str (Str.ofString "__firstlineno__") 207, val := Value.int 5 206 }, { hash := PyData.keyHash P (Str.ofString "__init__"), key := Value.str (Str.ofString "__init__") 216, val := Value.ref 35 }, { hash := PyData.keyHash P (Str.ofString "__static_attributes__"), key := Value.str (Str.ofString "__static_attributes__") 219, val := Value.ref 36 }] 5 }) ::
  (nat_lit 25, { cls := Value.type "tuple", data := Data.seq #[] }) ::
  (nat_lit 26, { cls := Value.none, data := Data.fields #[Value.int 7 0, Value.int 4 0, Value.ref 34] }) ::
  (nat_lit 27, { cls := Value.type "code", data := Data.fields #[Value.str (Str.ofString "LispSignal") 198, Value.str (Str.ofString "LispSignal") 199, Value.str (Str.ofString "/claim/cut.py") 200, Value.int 5 0, Value.int 0 0, Value.int 0 0, Value.int 0 0, Value.int 0 0, Value.ref 25, Value.bool false, Value.int 181 0, Value.ref 26, Value.none, Value.none, Value.none, Value.none, Value.int 201 0, Value.int 5 0, Value.str (Str.ofString "/claim/cut.py") 202] }) ::
  (nat_lit 28, { cls := Value.type "frame", slots := #[some (Value.ref 27), some (Value.ref 3), some (Value.ref 24), none, some (Value.str (Str.ofString "emacs.errors") 194), none, some (Value.ref 0)] }) ::
  (nat_lit 30, { cls := Value.none, data := Data.fields #[] }) ::
  (nat_lit 33, { cls := Value.none, data := Data.func { name := Str.ofString "__init__", qualname := Str.ofString "LispSignal.__init__", params := q33, body := FuncBody.stmts b33, scope := s33, globals := 0, closure := [], defaults := Value.none, kwdefaults := Value.none } }) ::
  (nat_lit 40, { cls := Value.type "super", data := Data.fields #[Value.ref 38, Value.ref 38, Value.ref 38] }) ::
  (nat_lit 41, { cls := Value.type "builtin_function_or_method", data := Data.fields #[Value.builtin "object.__init_subclass__", Value.ref 38] }) ::
  (nat_lit 42, { cls := Value.type "tuple", data := Data.seq #[] }) ::
  (nat_lit 43, { cls := Value.type "builtin_function_or_method", data := Data.fields #[Value.builtin "type.__prepare__", Value.type "type"] }) ::
  (nat_lit 44, { cls := Value.type "dict", data := Data.dict #[{ hash := PyData.keyHash P (Str.ofString "__module__"), key := Value.str (Str.ofString "__module__") 236, val := Value.str (Str.ofString "emacs.objects") 227 }, { hash := PyData.keyHash P (Str.ofString "__qualname__"), key := Value.str (Str.ofString "__qualname__") 238, val := Value.str (Str.ofString "Symbol") 237 }, { hash := PyData.keyHash P (Str.ofString "__firstlineno__"), key := Value.str (Str.ofString "__firstlineno__") 240, val := Value.int 11 239 }, { hash := PyData.keyHash P (Str.ofString "__init__"), key := Value.str (Str.ofString "__init__") 249, val := Value.ref 55 }, { hash := PyData.keyHash P (Str.ofString "__static_attributes__"), key := Value.str (Str.ofString "__static_attributes__") 253, val := Value.ref 56 }] 5 }) ::
  (nat_lit 45, { cls := Value.type "tuple", data := Data.seq #[] }) ::
  (nat_lit 46, { cls := Value.none, data := Data.fields #[Value.int 13 0, Value.int 4 0, Value.ref 54] }) ::
  (nat_lit 47, { cls := Value.type "code", data := Data.fields #[Value.str (Str.ofString "Symbol") 231, Value.str (Str.ofString "Symbol") 232, Value.str (Str.ofString "/claim/cut.py") 233, Value.int 11 0, Value.int 0 0, Value.int 0 0, Value.int 0 0, Value.int 0 0, Value.ref 45, Value.bool false, Value.int 181 0, Value.ref 46, Value.none, Value.none, Value.none, Value.none, Value.int 234 0, Value.int 11 0, Value.str (Str.ofString "/claim/cut.py") 235] }) ::
  (nat_lit 48, { cls := Value.type "frame", slots := #[some (Value.ref 47), some (Value.ref 3), some (Value.ref 44), none, some (Value.str (Str.ofString "emacs.objects") 227), none, some (Value.ref 0)] }) ::
  (nat_lit 50, { cls := Value.none, data := Data.fields #[] }) ::
  (nat_lit 53, { cls := Value.none, data := Data.func { name := Str.ofString "__init__", qualname := Str.ofString "Symbol.__init__", params := q53, body := FuncBody.stmts b53, scope := s53, globals := 0, closure := [], defaults := Value.none, kwdefaults := Value.none } }) ::
  (nat_lit 61, { cls := Value.type "super", data := Data.fields #[Value.ref 58, Value.ref 58, Value.ref 58] }) ::
  (nat_lit 62, { cls := Value.type "builtin_function_or_method", data := Data.fields #[Value.builtin "object.__init_subclass__", Value.ref 58] }) ::
  (nat_lit 65, { cls := Value.type "frame", data := Data.dict #[{ hash := PyData.keyHash P (Str.ofString "self"), key := Value.str (Str.ofString "self") 263, val := Value.ref 64 }, { hash := PyData.keyHash P (Str.ofString "number"), key := Value.str (Str.ofString "number") 264, val := Value.int 0 261 }, { hash := PyData.keyHash P (Str.ofString "name"), key := Value.str (Str.ofString "name") 265, val := Value.str (Str.ofString "nil") 262 }] 3 }) ::
  (nat_lit 66, { cls := Value.type "tuple", data := Data.seq #[] }) ::
  (nat_lit 67, { cls := Value.type "builtin_function_or_method", data := Data.fields #[Value.builtin "type.__prepare__", Value.type "type"] }) ::
  (nat_lit 68, { cls := Value.type "dict", data := Data.dict #[{ hash := PyData.keyHash P (Str.ofString "__module__"), key := Value.str (Str.ofString "__module__") 280, val := Value.str (Str.ofString "emacs.objects") 227 }, { hash := PyData.keyHash P (Str.ofString "__qualname__"), key := Value.str (Str.ofString "__qualname__") 282, val := Value.str (Str.ofString "Cons") 281 }, { hash := PyData.keyHash P (Str.ofString "__firstlineno__"), key := Value.str (Str.ofString "__firstlineno__") 284, val := Value.int 18 283 }, { hash := PyData.keyHash P (Str.ofString "__init__"), key := Value.str (Str.ofString "__init__") 293, val := Value.ref 79 }, { hash := PyData.keyHash P (Str.ofString "__static_attributes__"), key := Value.str (Str.ofString "__static_attributes__") 296, val := Value.ref 80 }] 5 }) ::
  (nat_lit 69, { cls := Value.type "tuple", data := Data.seq #[] }) ::
  (nat_lit 70, { cls := Value.none, data := Data.fields #[Value.int 20 0, Value.int 4 0, Value.ref 78] }) ::
  (nat_lit 71, { cls := Value.type "code", data := Data.fields #[Value.str (Str.ofString "Cons") 275, Value.str (Str.ofString "Cons") 276, Value.str (Str.ofString "/claim/cut.py") 277, Value.int 18 0, Value.int 0 0, Value.int 0 0, Value.int 0 0, Value.int 0 0, Value.ref 69, Value.bool false, Value.int 181 0, Value.ref 70, Value.none, Value.none, Value.none, Value.none, Value.int 278 0, Value.int 18 0, Value.str (Str.ofString "/claim/cut.py") 279] }) ::
  (nat_lit 72, { cls := Value.type "frame", slots := #[some (Value.ref 71), some (Value.ref 3), some (Value.ref 68), none, some (Value.str (Str.ofString "emacs.objects") 227), none, some (Value.ref 0)] }) ::
  (nat_lit 74, { cls := Value.none, data := Data.fields #[] }) ::
  (nat_lit 77, { cls := Value.none, data := Data.func { name := Str.ofString "__init__", qualname := Str.ofString "Cons.__init__", params := q77, body := FuncBody.stmts b77, scope := s77, globals := 0, closure := [], defaults := Value.none, kwdefaults := Value.none } }) ::
  (nat_lit 85, { cls := Value.type "super", data := Data.fields #[Value.ref 82, Value.ref 82, Value.ref 82] }) ::
  (nat_lit 86, { cls := Value.type "builtin_function_or_method", data := Data.fields #[Value.builtin "object.__init_subclass__", Value.ref 82] }) ::
  (nat_lit 87, { cls := Value.type "tuple", data := Data.seq #[] }) ::
  (nat_lit 88, { cls := Value.type "builtin_function_or_method", data := Data.fields #[Value.builtin "type.__prepare__", Value.type "type"] }) ::
  (nat_lit 89, { cls := Value.type "dict", data := Data.dict #[{ hash := PyData.keyHash P (Str.ofString "__module__"), key := Value.str (Str.ofString "__module__") 311, val := Value.str (Str.ofString "emacs.objects") 227 }, { hash := PyData.keyHash P (Str.ofString "__qualname__"), key := Value.str (Str.ofString "__qualname__") 313, val := Value.str (Str.ofString "Text") 312 }, { hash := PyData.keyHash P (Str.ofString "__firstlineno__"), key := Value.str (Str.ofString "__firstlineno__") 315, val := Value.int 23 314 }, { hash := PyData.keyHash P (Str.ofString "__init__"), key := Value.str (Str.ofString "__init__") 324, val := Value.ref 101 }, { hash := PyData.keyHash P (Str.ofString "__static_attributes__"), key := Value.str (Str.ofString "__static_attributes__") 327, val := Value.ref 102 }] 5 }) ::
  (nat_lit 90, { cls := Value.type "tuple", data := Data.seq #[] }) ::
  (nat_lit 91, { cls := Value.none, data := Data.fields #[Value.int 25 0, Value.int 4 0, Value.ref 100] }) ::
  (nat_lit 92, { cls := Value.type "code", data := Data.fields #[Value.str (Str.ofString "Text") 306, Value.str (Str.ofString "Text") 307, Value.str (Str.ofString "/claim/cut.py") 308, Value.int 23 0, Value.int 0 0, Value.int 0 0, Value.int 0 0, Value.int 0 0, Value.ref 90, Value.bool false, Value.int 181 0, Value.ref 91, Value.none, Value.none, Value.none, Value.none, Value.int 309 0, Value.int 23 0, Value.str (Str.ofString "/claim/cut.py") 310] }) ::
  (nat_lit 93, { cls := Value.type "frame", slots := #[some (Value.ref 92), some (Value.ref 3), some (Value.ref 89), none, some (Value.str (Str.ofString "emacs.objects") 227), none, some (Value.ref 0)] }) ::
  (nat_lit 96, { cls := Value.none, data := Data.fields #[] }) ::
  (nat_lit 99, { cls := Value.none, data := Data.func { name := Str.ofString "__init__", qualname := Str.ofString "Text.__init__", params := q99, body := FuncBody.stmts b99, scope := s99, globals := 0, closure := [], defaults := Value.none, kwdefaults := Value.none } }) ::
  (nat_lit 107, { cls := Value.type "super", data := Data.fields #[Value.ref 104, Value.ref 104, Value.ref 104] }) ::
  (nat_lit 108, { cls := Value.type "builtin_function_or_method", data := Data.fields #[Value.builtin "object.__init_subclass__", Value.ref 104] }) ::
  (nat_lit 109, { cls := Value.type "tuple", data := Data.seq #[] }) ::
  (nat_lit 110, { cls := Value.type "builtin_function_or_method", data := Data.fields #[Value.builtin "type.__prepare__", Value.type "type"] }) ::
  (nat_lit 111, { cls := Value.type "dict", data := Data.dict #[{ hash := PyData.keyHash P (Str.ofString "__module__"), key := Value.str (Str.ofString "__module__") 342, val := Value.str (Str.ofString "emacs.objects") 227 }, { hash := PyData.keyHash P (Str.ofString "__qualname__"), key := Value.str (Str.ofString "__qualname__") 344, val := Value.str (Str.ofString "Vector") 343 }, { hash := PyData.keyHash P (Str.ofString "__firstlineno__"), key := Value.str (Str.ofString "__firstlineno__") 346, val := Value.int 28 345 }, { hash := PyData.keyHash P (Str.ofString "__init__"), key := Value.str (Str.ofString "__init__") 354, val := Value.ref 122 }, { hash := PyData.keyHash P (Str.ofString "__static_attributes__"), key := Value.str (Str.ofString "__static_attributes__") 356, val := Value.ref 123 }] 5 }) ::
  (nat_lit 112, { cls := Value.type "tuple", data := Data.seq #[] }) ::
  (nat_lit 113, { cls := Value.none, data := Data.fields #[Value.int 30 0, Value.int 4 0, Value.ref 121] }) ::
  (nat_lit 114, { cls := Value.type "code", data := Data.fields #[Value.str (Str.ofString "Vector") 337, Value.str (Str.ofString "Vector") 338, Value.str (Str.ofString "/claim/cut.py") 339, Value.int 28 0, Value.int 0 0, Value.int 0 0, Value.int 0 0, Value.int 0 0, Value.ref 112, Value.bool false, Value.int 181 0, Value.ref 113, Value.none, Value.none, Value.none, Value.none, Value.int 340 0, Value.int 28 0, Value.str (Str.ofString "/claim/cut.py") 341] }) ::
  (nat_lit 115, { cls := Value.type "frame", slots := #[some (Value.ref 114), some (Value.ref 3), some (Value.ref 111), none, some (Value.str (Str.ofString "emacs.objects") 227), none, some (Value.ref 0)] }) ::
  (nat_lit 117, { cls := Value.none, data := Data.fields #[] }) ::
  (nat_lit 120, { cls := Value.none, data := Data.func { name := Str.ofString "__init__", qualname := Str.ofString "Vector.__init__", params := q120, body := FuncBody.stmts b120, scope := s120, globals := 0, closure := [], defaults := Value.none, kwdefaults := Value.none } }) ::
  (nat_lit 128, { cls := Value.type "super", data := Data.fields #[Value.ref 125, Value.ref 125, Value.ref 125] }) ::
  (nat_lit 129, { cls := Value.type "builtin_function_or_method", data := Data.fields #[Value.builtin "object.__init_subclass__", Value.ref 125] }) ::
  (nat_lit 130, { cls := Value.type "tuple", data := Data.seq #[] }) ::
  (nat_lit 131, { cls := Value.type "builtin_function_or_method", data := Data.fields #[Value.builtin "type.__prepare__", Value.type "type"] }) ::
  (nat_lit 132, { cls := Value.type "dict", data := Data.dict #[{ hash := PyData.keyHash P (Str.ofString "__module__"), key := Value.str (Str.ofString "__module__") 371, val := Value.str (Str.ofString "emacs.objects") 227 }, { hash := PyData.keyHash P (Str.ofString "__qualname__"), key := Value.str (Str.ofString "__qualname__") 373, val := Value.str (Str.ofString "ByteCode") 372 }, { hash := PyData.keyHash P (Str.ofString "__firstlineno__"), key := Value.str (Str.ofString "__firstlineno__") 375, val := Value.int 32 374 }, { hash := PyData.keyHash P (Str.ofString "__init__"), key := Value.str (Str.ofString "__init__") 383, val := Value.ref 143 }, { hash := PyData.keyHash P (Str.ofString "__static_attributes__"), key := Value.str (Str.ofString "__static_attributes__") 385, val := Value.ref 144 }] 5 }) ::
  (nat_lit 133, { cls := Value.type "tuple", data := Data.seq #[] }) ::
  (nat_lit 134, { cls := Value.none, data := Data.fields #[Value.int 34 0, Value.int 4 0, Value.ref 142] }) ::
  (nat_lit 135, { cls := Value.type "code", data := Data.fields #[Value.str (Str.ofString "ByteCode") 366, Value.str (Str.ofString "ByteCode") 367, Value.str (Str.ofString "/claim/cut.py") 368, Value.int 32 0, Value.int 0 0, Value.int 0 0, Value.int 0 0, Value.int 0 0, Value.ref 133, Value.bool false, Value.int 181 0, Value.ref 134, Value.none, Value.none, Value.none, Value.none, Value.int 369 0, Value.int 32 0, Value.str (Str.ofString "/claim/cut.py") 370] }) ::
  (nat_lit 136, { cls := Value.type "frame", slots := #[some (Value.ref 135), some (Value.ref 3), some (Value.ref 132), none, some (Value.str (Str.ofString "emacs.objects") 227), none, some (Value.ref 0)] }) ::
  (nat_lit 138, { cls := Value.none, data := Data.fields #[] }) ::
  (nat_lit 141, { cls := Value.none, data := Data.func { name := Str.ofString "__init__", qualname := Str.ofString "ByteCode.__init__", params := q141, body := FuncBody.stmts b141, scope := s141, globals := 0, closure := [], defaults := Value.none, kwdefaults := Value.none } }) ::
  (nat_lit 149, { cls := Value.type "super", data := Data.fields #[Value.ref 146, Value.ref 146, Value.ref 146] }) ::
  (nat_lit 150, { cls := Value.type "builtin_function_or_method", data := Data.fields #[Value.builtin "object.__init_subclass__", Value.ref 146] }) ::
  (nat_lit 151, { cls := Value.type "tuple", data := Data.seq #[] }) ::
  (nat_lit 152, { cls := Value.type "builtin_function_or_method", data := Data.fields #[Value.builtin "type.__prepare__", Value.type "type"] }) ::
  (nat_lit 153, { cls := Value.type "dict", data := Data.dict #[{ hash := PyData.keyHash P (Str.ofString "__module__"), key := Value.str (Str.ofString "__module__") 400, val := Value.str (Str.ofString "emacs.objects") 227 }, { hash := PyData.keyHash P (Str.ofString "__qualname__"), key := Value.str (Str.ofString "__qualname__") 402, val := Value.str (Str.ofString "Opaque") 401 }, { hash := PyData.keyHash P (Str.ofString "__firstlineno__"), key := Value.str (Str.ofString "__firstlineno__") 404, val := Value.int 36 403 }, { hash := PyData.keyHash P (Str.ofString "shown"), key := Value.str (Str.ofString "shown") 411, val := Value.ref 164 }, { hash := PyData.keyHash P (Str.ofString "kind"), key := Value.str (Str.ofString "kind") 418, val := Value.ref 171 }, { hash := PyData.keyHash P (Str.ofString "same_as"), key := Value.str (Str.ofString "same_as") 426, val := Value.ref 178 }, { hash := PyData.keyHash P (Str.ofString "__static_attributes__"), key := Value.str (Str.ofString "__static_attributes__") 427, val := Value.ref 179 }] 7 }) ::
  (nat_lit 154, { cls := Value.type "tuple", data := Data.seq #[] }) ::
  (nat_lit 155, { cls := Value.none, data := Data.fields #[Value.int 38 0, Value.int 4 0, Value.ref 163, Value.int 41 0, Value.int 4 0, Value.ref 170, Value.int 44 0, Value.int 4 0, Value.ref 177] }) ::
  (nat_lit 156, { cls := Value.type "code", data := Data.fields #[Value.str (Str.ofString "Opaque") 395, Value.str (Str.ofString "Opaque") 396, Value.str (Str.ofString "/claim/cut.py") 397, Value.int 36 0, Value.int 0 0, Value.int 0 0, Value.int 0 0, Value.int 0 0, Value.ref 154, Value.bool false, Value.int 181 0, Value.ref 155, Value.none, Value.none, Value.none, Value.none, Value.int 398 0, Value.int 36 0, Value.str (Str.ofString "/claim/cut.py") 399] }) ::
  (nat_lit 157, { cls := Value.type "frame", slots := #[some (Value.ref 156), some (Value.ref 3), some (Value.ref 153), none, some (Value.str (Str.ofString "emacs.objects") 227), none, some (Value.ref 0)] }) ::
  (nat_lit 159, { cls := Value.none, data := Data.fields #[] }) ::
  (nat_lit 162, { cls := Value.none, data := Data.func { name := Str.ofString "shown", qualname := Str.ofString "Opaque.shown", params := q162, body := FuncBody.stmts b162, scope := s162, globals := 0, closure := [], defaults := Value.none, kwdefaults := Value.none } }) ::
  (nat_lit 166, { cls := Value.none, data := Data.fields #[] }) ::
  (nat_lit 169, { cls := Value.none, data := Data.func { name := Str.ofString "kind", qualname := Str.ofString "Opaque.kind", params := q169, body := FuncBody.stmts b169, scope := s169, globals := 0, closure := [], defaults := Value.none, kwdefaults := Value.none } }) ::
  (nat_lit 173, { cls := Value.none, data := Data.fields #[] }) ::
  (nat_lit 176, { cls := Value.none, data := Data.func { name := Str.ofString "same_as", qualname := Str.ofString "Opaque.same_as", params := q176, body := FuncBody.stmts b176, scope := s176, globals := 0, closure := [], defaults := Value.none, kwdefaults := Value.none } }) ::
  (nat_lit 184, { cls := Value.type "super", data := Data.fields #[Value.ref 181, Value.ref 181, Value.ref 181] }) ::
  (nat_lit 185, { cls := Value.type "builtin_function_or_method", data := Data.fields #[Value.builtin "object.__init_subclass__", Value.ref 181] }) ::
  (nat_lit 188, { cls := Value.none, data := Data.fields #[] }) ::
  (nat_lit 191, { cls := Value.none, data := Data.func { name := Str.ofString "list_of", qualname := Str.ofString "list_of", params := q191, body := FuncBody.stmts b191, scope := s191, globals := 0, closure := [], defaults := Value.none, kwdefaults := Value.none } }) ::
  (nat_lit 195, { cls := Value.none, data := Data.fields #[] }) ::
  (nat_lit 198, { cls := Value.none, data := Data.func { name := Str.ofString "is_whole", qualname := Str.ofString "is_whole", params := q198, body := FuncBody.stmts b198, scope := s198, globals := 0, closure := [], defaults := Value.none, kwdefaults := Value.none } }) ::
  (nat_lit 202, { cls := Value.none, data := Data.fields #[] }) ::
  (nat_lit 205, { cls := Value.none, data := Data.func { name := Str.ofString "eq", qualname := Str.ofString "eq", params := q205, body := FuncBody.stmts b205, scope := s205, globals := 0, closure := [], defaults := Value.none, kwdefaults := Value.none } }) ::
  (nat_lit 209, { cls := Value.none, data := Data.fields #[] }) ::
  (nat_lit 210, { cls := Value.none, data := Data.func { name := Str.ofString "parts_of", qualname := Str.ofString "parts_of", params := q210, body := FuncBody.stmts b210, scope := s210, globals := 0, closure := [], defaults := Value.none, kwdefaults := Value.none } }) ::
  (nat_lit 214, { cls := Value.none, data := Data.fields #[] }) ::
  (nat_lit 217, { cls := Value.none, data := Data.func { name := Str.ofString "are_of_one_class", qualname := Str.ofString "are_of_one_class", params := q217, body := FuncBody.stmts b217, scope := s217, globals := 0, closure := [], defaults := Value.none, kwdefaults := Value.none } }) ::
  (nat_lit 220, { cls := Value.type "tuple", data := Data.seq #[] }) ::
  (nat_lit 221, { cls := Value.type "builtin_function_or_method", data := Data.fields #[Value.builtin "type.__prepare__", Value.type "type"] }) ::
  (nat_lit 222, { cls := Value.type "dict", data := Data.dict #[{ hash := PyData.keyHash P (Str.ofString "__module__"), key := Value.str (Str.ofString "__module__") 490, val := Value.str (Str.ofString "emacs.equality") 452 }, { hash := PyData.keyHash P (Str.ofString "__qualname__"), key := Value.str (Str.ofString "__qualname__") 492, val := Value.str (Str.ofString "Task") 491 }, { hash := PyData.keyHash P (Str.ofString "__firstlineno__"), key := Value.str (Str.ofString "__firstlineno__") 494, val := Value.int 73 493 }, { hash := PyData.keyHash P (Str.ofString "__init__"), key := Value.str (Str.ofString "__init__") 504, val := Value.ref 233 }, { hash := PyData.keyHash P (Str.ofString "is_round"), key := Value.str (Str.ofString "is_round") 511, val := Value.ref 240 }, { hash := PyData.keyHash P (Str.ofString "go_on"), key := Value.str (Str.ofString "go_on") 518, val := Value.ref 247 }, { hash := PyData.keyHash P (Str.ofString "__static_attributes__"), key := Value.str (Str.ofString "__static_attributes__") 525, val := Value.ref 248 }] 7 }) ::
  (nat_lit 223, { cls := Value.type "tuple", data := Data.seq #[] }) ::
  (nat_lit 224, { cls := Value.none, data := Data.fields #[Value.int 75 0, Value.int 4 0, Value.ref 232, Value.int 83 0, Value.int 4 0, Value.ref 239, Value.int 86 0, Value.int 4 0, Value.ref 246] }) ::
  (nat_lit 225, { cls := Value.type "code", data := Data.fields #[Value.str (Str.ofString "Task") 485, Value.str (Str.ofString "Task") 486, Value.str (Str.ofString "/claim/cut.py") 487, Value.int 73 0, Value.int 0 0, Value.int 0 0, Value.int 0 0, Value.int 0 0, Value.ref 223, Value.bool false, Value.int 181 0, Value.ref 224, Value.none, Value.none, Value.none, Value.none, Value.int 488 0, Value.int 73 0, Value.str (Str.ofString "/claim/cut.py") 489] }) ::
  (nat_lit 226, { cls := Value.type "frame", slots := #[some (Value.ref 225), some (Value.ref 3), some (Value.ref 222), none, some (Value.str (Str.ofString "emacs.equality") 452), none, some (Value.ref 0)] }) ::
  (nat_lit 228, { cls := Value.none, data := Data.fields #[] }) ::
  (nat_lit 231, { cls := Value.none, data := Data.func { name := Str.ofString "__init__", qualname := Str.ofString "Task.__init__", params := q231, body := FuncBody.stmts b231, scope := s231, globals := 0, closure := [], defaults := Value.none, kwdefaults := Value.none } }) ::
  (nat_lit 235, { cls := Value.none, data := Data.fields #[] }) ::
  (nat_lit 238, { cls := Value.none, data := Data.func { name := Str.ofString "is_round", qualname := Str.ofString "Task.is_round", params := q238, body := FuncBody.stmts b238, scope := s238, globals := 0, closure := [], defaults := Value.none, kwdefaults := Value.none } }) ::
  (nat_lit 242, { cls := Value.none, data := Data.fields #[] }) ::
  (nat_lit 245, { cls := Value.none, data := Data.func { name := Str.ofString "go_on", qualname := Str.ofString "Task.go_on", params := q245, body := FuncBody.stmts b245, scope := s245, globals := 0, closure := [], defaults := Value.none, kwdefaults := Value.none } }) ::
  (nat_lit 253, { cls := Value.type "super", data := Data.fields #[Value.ref 250, Value.ref 250, Value.ref 250] }) ::
  (nat_lit 254, { cls := Value.type "builtin_function_or_method", data := Data.fields #[Value.builtin "object.__init_subclass__", Value.ref 250] }) ::
  (nat_lit 256, { cls := Value.none, data := Data.fields #[] }) ::
  (nat_lit 257, { cls := Value.none, data := Data.func { name := Str.ofString "equal_by", qualname := Str.ofString "equal_by", params := q257, body := FuncBody.stmts b257, scope := s257, globals := 0, closure := [], defaults := Value.none, kwdefaults := Value.none } }) ::
  (nat_lit 261, { cls := Value.none, data := Data.fields #[] }) ::
  (nat_lit 264, { cls := Value.none, data := Data.func { name := Str.ofString "are_any", qualname := Str.ofString "are_any", params := q264, body := FuncBody.stmts b264, scope := s264, globals := 0, closure := [], defaults := Value.none, kwdefaults := Value.none } }) ::
  (nat_lit 268, { cls := Value.none, data := Data.fields #[] }) ::
  (nat_lit 271, { cls := Value.none, data := Data.func { name := Str.ofString "equal", qualname := Str.ofString "equal", params := q271, body := FuncBody.stmts b271, scope := s271, globals := 0, closure := [], defaults := Value.none, kwdefaults := Value.none } }) ::
  (nat_lit 275, { cls := Value.none, data := Data.fields #[] }) ::
  (nat_lit 276, { cls := Value.none, data := Data.func { name := Str.ofString "_law_deck", qualname := Str.ofString "_law_deck", params := q276, body := FuncBody.stmts b276, scope := s276, globals := 0, closure := [], defaults := Value.none, kwdefaults := Value.none } }) ::
  (nat_lit 280, { cls := Value.none, data := Data.fields #[] }) ::
  (nat_lit 283, { cls := Value.none, data := Data.func { name := Str.ofString "_law_draw", qualname := Str.ofString "_law_draw", params := q283, body := FuncBody.stmts b283, scope := s283, globals := 0, closure := [], defaults := Value.none, kwdefaults := Value.none } }) ::
  (nat_lit 286, { cls := Value.type "tuple", data := Data.seq #[] }) ::
  (nat_lit 287, { cls := Value.none, data := Data.fields #[] }) ::
  (nat_lit 288, { cls := Value.type "tuple", data := Data.seq #[Value.str (Str.ofString "_law_deck_here") 575, Value.str (Str.ofString "_law_items") 576] }) ::
  (nat_lit 289, { cls := Value.type "tuple", data := Data.seq #[] }) ::
  (nat_lit 290, { cls := Value.none, data := Data.func { name := Str.ofString "_law_one", qualname := Str.ofString "_law_one", params := q290, body := FuncBody.stmts b290, scope := s290, globals := 0, closure := [], defaults := Value.none, kwdefaults := Value.none } }) ::
  (nat_lit 291, { cls := Value.type "code", data := Data.fields #[Value.str (Str.ofString "_law_one") 572, Value.str (Str.ofString "_law_one") 573, Value.str (Str.ofString "/claim/cut.py") 574, Value.int 136 0, Value.int 2 0, Value.int 0 0, Value.int 0 0, Value.int 3 0, Value.ref 286, Value.bool true, Value.int 181 0, Value.ref 287, Value.none, Value.ref 288, Value.ref 289, Value.ref 290, Value.int 577 0, Value.int 136 0, Value.str (Str.ofString "/claim/cut.py") 578] }) ::
  (nat_lit 292, { cls := Value.type "function", data := Data.func { name := Str.ofString "_law_one", qualname := Str.ofString "_law_one", params := q292, body := FuncBody.stmts b292, scope := s292, globals := 3, closure := [], defaults := Value.none, kwdefaults := Value.none, pyModule := Value.str (Str.ofString "law_pq0276_01") 555, code := Value.ref 291 } }) ::
  (nat_lit 294, { cls := Value.none, data := Data.fields #[] }) ::
  (nat_lit 297, { cls := Value.none, data := Data.func { name := Str.ofString "_law_thing", qualname := Str.ofString "_law_thing", params := q297, body := FuncBody.stmts b297, scope := s297, globals := 0, closure := [], defaults := Value.none, kwdefaults := Value.none } }) ::
  (nat_lit 301, { cls := Value.none, data := Data.fields #[] }) ::
  (nat_lit 302, { cls := Value.none, data := Data.func { name := Str.ofString "_law_list", qualname := Str.ofString "_law_list", params := q302, body := FuncBody.stmts b302, scope := s302, globals := 0, closure := [], defaults := Value.none, kwdefaults := Value.none } }) ::
  (nat_lit 306, { cls := Value.none, data := Data.fields #[] }) ::
  (nat_lit 309, { cls := Value.none, data := Data.func { name := Str.ofString "_law_at", qualname := Str.ofString "_law_at", params := q309, body := FuncBody.stmts b309, scope := s309, globals := 0, closure := [], defaults := Value.none, kwdefaults := Value.none } }) ::
  (nat_lit 313, { cls := Value.none, data := Data.fields #[] }) ::
  (nat_lit 316, { cls := Value.none, data := Data.func { name := Str.ofString "_law_due", qualname := Str.ofString "_law_due", params := q316, body := FuncBody.stmts b316, scope := s316, globals := 0, closure := [], defaults := Value.none, kwdefaults := Value.none } }) ::
  (nat_lit 320, { cls := Value.none, data := Data.fields #[] }) ::
  (nat_lit 321, { cls := Value.none, data := Data.func { name := Str.ofString "_law_drawn", qualname := Str.ofString "_law_drawn", params := q321, body := FuncBody.stmts b321, scope := s321, globals := 0, closure := [], defaults := Value.none, kwdefaults := Value.none } }) ::
  (nat_lit 325, { cls := Value.none, data := Data.fields #[] }) ::
  (nat_lit 328, { cls := Value.none, data := Data.func { name := Str.ofString "law", qualname := Str.ofString "law", params := q328, body := FuncBody.stmts b328, scope := s328, globals := 0, closure := [], defaults := Value.none, kwdefaults := Value.none } }) :: []))
  _ (by conv => lhs; whnf) _ (by conv => lhs; whnf) _ (by conv => lhs; whnf) _ (by conv => lhs; whnf) _ (by conv => lhs; whnf) _ (by conv => lhs; whnf) _ (by conv => lhs; whnf) _ (by conv => lhs; whnf) _ (by conv => lhs; whnf) _ (by conv => lhs; whnf) _ (by conv => lhs; whnf) _ (by conv => lhs; whnf) _ (by conv => lhs; whnf) _ (by conv => lhs; whnf) _ (by conv => lhs; whnf) _ (by conv => lhs; whnf) _ (by conv => lhs; whnf) _ (by conv => lhs; whnf) _ (by conv => lhs; whnf) _ (by conv => lhs; whnf) _ (by conv => lhs; whnf) _ (by conv => lhs; whnf) _ (by conv => lhs; whnf) _ (by conv => lhs; whnf) _ (by conv => lhs; whnf) _ (by conv => lhs; whnf) _ (by conv => lhs; whnf) _ (by conv => lhs; whnf) _ (by conv => lhs; whnf) _ (by conv => lhs; whnf) _ (by conv => lhs; whnf) _ (by conv => lhs; whnf) _ (by conv => lhs; whnf) _ (by conv => lhs; whnf) _ (by conv => lhs; whnf) _ (by conv => lhs; whnf) _ (by conv => lhs; whnf) _ (by conv => lhs; whnf) _ (by conv => lhs; whnf) _ (by conv => lhs; whnf) _ (by conv => lhs; whnf) _ (by conv => lhs; whnf) _ (by conv => lhs; whnf) _ (by conv => lhs; whnf) _ (by conv => lhs; whnf) _ (by conv => lhs; whnf) _ (by conv => lhs; whnf) _ (by conv => lhs; whnf) _ (by conv => lhs; whnf) _ (by conv => lhs; whnf) _ (by conv => lhs; whnf) _ (by conv => lhs; whnf) _ (by conv => lhs; whnf) _ (by conv => lhs; whnf) _ (by conv => lhs; whnf) _ (by conv => lhs; whnf) _ (by conv => lhs; whnf) _ (by conv => lhs; whnf) _ (by conv => lhs; whnf) _ (by conv => lhs; whnf) _ (by conv => lhs; whnf) _ (by conv => lhs; whnf) _ (by conv => lhs; whnf) _ (by conv => lhs; whnf) _ (by conv => lhs; whnf) _ (by conv => lhs; whnf) _ (by conv => lhs; whnf) _ (by conv => lhs; whnf) _ (by conv => lhs; whnf) _ (by conv => lhs; whnf) _ (by conv => lhs; whnf) _ (by conv => lhs; whnf) _ (by conv => lhs; whnf) _ (by conv => lhs; whnf) _ (by conv => lhs; whnf) _ (by conv => lhs; whnf) _ (by conv => lhs; whnf) _ (by conv => lhs; whnf) _ (by conv => lhs; whnf) _ (by conv => lhs; whnf) _ (by conv => lhs; whnf) _ (by conv => lhs; whnf) _ (by conv => lhs; whnf) _ (by conv => lhs; whnf) _ (by conv => lhs; whnf) _ (by conv => lhs; whnf) _ (by conv => lhs; whnf) _ (by conv => lhs; whnf) _ (by conv => lhs; whnf) _ (by conv => lhs; whnf) _ (by conv => lhs; whnf) _ (by conv => lhs; whnf) _ (by conv => lhs; whnf)

def mergeK : Nat → Nat → List Obj → Frag → Frag → List Obj
  | 0, _, _, _, _ => []
  | n + 1, a, b, k, e =>
    match k with
    | (x, o) :: k' => match Nat.beq x a with
      | true => o :: mergeK n (a + 1) b.tail k' e
      | false => match e with
        | (y, p) :: e' => match Nat.beq y a with
          | true => p :: mergeK n (a + 1) b.tail k e'
          | false => b.headD default :: mergeK n (a + 1) b.tail k e
        | [] => b.headD default :: mergeK n (a + 1) b.tail k e
    | [] => match e with
      | (y, p) :: e' => match Nat.beq y a with
        | true => p :: mergeK n (a + 1) b.tail k e'
        | false => b.headD default :: mergeK n (a + 1) b.tail k e
      | [] => b.headD default :: mergeK n (a + 1) b.tail k e
/-- the heap behind the top, written out -/
noncomputable def objs1 (P : Params) : List Obj := mergeK 331 0 (boot_heap P).objs.toList (hd.heap_39 P) (restK P)
noncomputable def tree1 (P : Params) : BT := insAll (objs1 P) 0 .nil
noncomputable def heap1 (P : Params) : Heap := ⟨(objs1 P).toArray, (boot_heap P).life⟩
theorem abs1 (P : Params) : absHeap (tree1 P) 331 (boot_heap P).life = heap1 P := by kernel_rfl
abbrev looseK : List Str := [Str.ofString "NIL", Str.ofString "list_of", Str.ofString "MOST_STEPS"]
noncomputable abbrev valsK : List (Str × WData) := [(Str.ofString "MOST_STEPS", WData.int 8388608)]
noncomputable abbrev XtK : Shared → Bool := fun s => xlAt hd.view_39 valsK s && recOk (RowW.records (OpenRow.toRowW PySem.Challenge.rw_pq0276_01.row)) s
theorem asK_eq (P : Params) : asK = (hd.heap_39 P).map (·.1) := by kernel_rfl
noncomputable abbrev hookK : Hook := kHook hd.heap_39 asK asK_eq
noncomputable abbrev sT0 (w : World) (os : OsState) : SharedT := ⟨tree0 w.params, (boot_heap w.params).objs.size, (boot_heap w.params).life, Array.mk [], boot_drawn, boot_toks, os⟩
noncomputable def goQ (w : World) (os : OsState) : Option SharedT := topRunQ Fast.tw14364793385576792824 PySem.Challenge.pw_pq0276_01 w 11 (some (.ref 6)) 5490 (sT0 w os) (topStub PySem.Challenge.pw_pq0276_01)
theorem runQ (w : World) (os : OsState) : goQ w os = some ⟨tree1 w.params, 331, (boot_heap w.params).life, Array.mk [], boot_drawn, 635, os⟩ := by kernel_rfl
noncomputable abbrev s1 (w : World) (os : OsState) : Shared := ⟨heap1 w.params, Array.mk [], boot_drawn, 635, os⟩
theorem core1 (w : World) (os : OsState) : (staticsOk (importedModules PySem.Challenge.pw_pq0276_01.main.body) (boot_heap w.params) (heap1 w.params) && namesBound PySem.Challenge.pw_pq0276_01 (heap1 w.params) && gensDone (s1 w os) && laidKept (boot_heap w.params) (heap1 w.params)) = true := by kernel_rfl
theorem core2 (w : World) (os : OsState) : Fast.tw4187177175401517315 hd.view_39 looseK (importedModules PySem.Challenge.pw_pq0276_01.main.body) XtK true (s1 w os) = openGood hd.view_39 looseK := by kernel_rfl
theorem core3 (w : World) (os : OsState) : Hook.obs hookK (s1 w os) = Hook.val hookK w := by kernel_rfl
theorem abs0 (w : World) (os : OsState) : (sT0 w os).abs = ⟨boot_heap w.params, Array.mk [], boot_drawn, boot_toks, os⟩ := by
  show Shared.mk (absHeap (tree0 w.params) (boot_heap w.params).objs.size (boot_heap w.params).life) _ _ _ _ = _
  rw [boot_abs]
theorem abs1s (w : World) (os : OsState) : SharedT.abs ⟨tree1 w.params, 331, (boot_heap w.params).life, Array.mk [], boot_drawn, 635, os⟩ = s1 w os := by
  unfold SharedT.abs
  dsimp only
  rw [abs1]
theorem goT {w : World} {os : OsState} : topRunT treeTable PySem.Challenge.pw_pq0276_01 w 11 (some (.ref 6)) 5490 (sT0 w os) (topStub PySem.Challenge.pw_pq0276_01) = some ⟨tree1 w.params, 331, (boot_heap w.params).life, Array.mk [], boot_drawn, 635, os⟩ := by
  rw [topRunQ_eq, Fast.te14364793385576792824]
  exact runQ w os
theorem runK (w : World) (os : OsState) : topRun treeTable PySem.Challenge.pw_pq0276_01 w 11 (some (.ref 6)) 5490 ⟨boot_heap w.params, Array.mk [], boot_drawn, boot_toks, os⟩ (topStub PySem.Challenge.pw_pq0276_01) = some (s1 w os) := by
  have h := topRun_ofT (goT (w := w) (os := os))
  rw [abs0, abs1s] at h
  exact h
theorem openK : opening PySem.Challenge.pw_pq0276_01 = plainProg PySem.Challenge.pw_pq0276_01.main.scope.names := by rfl
theorem fenceK (s : Shared) : fenceModules? PySem.Challenge.pw_pq0276_01 s = some s := by rfl
theorem sizeK (w : World) : ((boot_heap w.params).isNs mainGlobals && (Array.mk ([] : List GenState)).size == 0, (boot_heap w.params).objs.size, (boot_heap w.params).nsMap mainGlobals "__annotations__") = (true, 11, some (.ref 6)) := by kernel_rfl
theorem seenK (w : World) (os : OsState) : openSeen hd.view_39 looseK (importedModules PySem.Challenge.pw_pq0276_01.main.body) XtK true (s1 w os) = openGood hd.view_39 looseK := by
  rw [Fast.te4187177175401517315]
  exact core2 w os
theorem leftK : LeftO PySem.Challenge.pw_pq0276_01 hd.view_39 looseK XtK (Hook.obs hookK) (Hook.val hookK) 5490 :=
  LeftO.of_pieces (H₀ := boot_heap) (H₁ := heap1) (boot_open openK rfl fenceK) sizeK runK rfl (fun w => funext fun os => Prod.ext (core1 w os) (Prod.ext (seenK w os) (core3 w os)))
noncomputable abbrev LL : List Str := looseW hd.view_39 [Str.ofString "NIL", Str.ofString "list_of", Str.ofString "MOST_STEPS"]
noncomputable abbrev atTop (dd uu : Nat) (env : Env) (outer : List Env) : Around := { handled := none, depth := dd, frames := some (env :: outer), guards := none, units := uu }
theorem weaken {α : Type} {M : Model} {A A' : Around} {t : Sem α} {Q : α → Shared → Prop} {E : Value → Shared → Prop} {s : Shared}
    (h1 : A.handled = A'.handled) (h2 : A.depth ≤ A'.depth) (h3 : A'.frames = A.frames) (h4 : A'.guards = none) (h5 : A.units ≤ A'.units)
    (h : wpAny M A' t Q E s) : wpAny M A t Q E s := by
  intro Γ p hΓ
  refine h Γ p ?_
  unfold Ctx.In at hΓ ⊢
  obtain ⟨a1, a2, a3, a4, a5⟩ := hΓ
  refine ⟨a1.trans h1, Nat.le_trans a2 h2, ?_, ?_, Nat.le_trans a5 h5⟩
  · intro l hl; exact a3 l (h3 ▸ hl)
  · intro g hg; rw [h4] at hg; cases hg
/-- what a call needs of the place where it is made -/
structure Site (dd uu : Nat) (mean : ExcName → Option Value) (mg mb : Str → Option Value) (A : Around) (A₀ : Around) (base : Heap) (outer : List Env) (h₀ : Heap) (L : Addr) (env : Env) (s : Shared) (m : Str → Option Value) : Prop where
  h : A.handled = none
  d : A.depth ≤ dd
  f : A.frames = some (env :: outer)
  u : A.units ≤ uu
  B : Below A₀ base outer h₀
  F : Fr h₀ L s.heap m
  T : Top hd.view_39 LL mean mg mb h₀
  e : env.frame = some L
  k : env.scope.kind = .function
theorem toTop {α : Type} {M : Model} {dd uu : Nat} {A : Around} {env : Env} {outer : List Env} {t : Sem α} {Q : α → Shared → Prop} {E : Value → Shared → Prop} {s : Shared}
    (h1 : A.handled = none) (h2 : A.depth ≤ dd) (h3 : A.frames = some (env :: outer)) (h5 : A.units ≤ uu)
    (h : wpAny M (atTop dd uu env outer) t Q E s) : wpAny M A t Q E s := weaken h1 h2 h3.symm rfl h5 h
/-- the plain things: a whole number, NIL, a cons, a text -/
inductive Kd where
  | int (i : Int)
  | nil
  | cons (x : Addr)
  | text (x : Addr)
def Kd.isInt : Kd → Bool
  | .int _ => true
  | _ => false
def Kd.addr : Kd → Addr
  | .int _ => 0
  | .nil => 64
  | .cons x => x
  | .text x => x
/-- a cons at x -/
abbrev consDict (P : Params) (t1 t2 : Tok) (car cdr : Value) : Obj := dictOf [⟨PyData.keyHash P (Str.ofString "car"), .str (Str.ofString "car") t1, car⟩, ⟨PyData.keyHash P (Str.ofString "cdr"), .str (Str.ofString "cdr") t2, cdr⟩] 2
abbrev textDict (P : Params) (t1 t2 : Tok) (codes spans : Value) : Obj := dictOf [⟨PyData.keyHash P (Str.ofString "codes"), .str (Str.ofString "codes") t1, codes⟩, ⟨PyData.keyHash P (Str.ofString "spans"), .str (Str.ofString "spans") t2, spans⟩] 2
inductive ConsIn (P : Params) (R : List (Addr × Obj)) (x : Addr) (car cdr : Value) : Prop where
  | mk (dx : Addr) (t1 t2 : Tok) : (x, instObj 82 dx) ∈ R → (dx, consDict P t1 t2 car cdr) ∈ R → ConsIn P R x car cdr
/-- the one text that the law makes: [97] -/
inductive TextIn (P : Params) (R : List (Addr × Obj)) (x : Addr) : Prop where
  | mk (dx c : Addr) (t1 t2 t3 : Tok) (n : Nat) : (x, instObj 104 dx) ∈ R → (dx, textDict P t1 t2 (.ref c) .none) ∈ R → (c, W.listOf #[.int 97 t3] n) ∈ R → TextIn P R x
inductive IsV (P : Params) (R : List (Addr × Obj)) : Value → Kd → Prop where
  | int (i : Int) (tk : Tok) : IsV P R (.int i tk) (.int i)
  | nil : IsV P R (.ref 64) .nil
  | cons (x : Addr) (car cdr : Value) : ConsIn P R x car cdr → IsV P R (.ref x) (.cons x)
  | text (x : Addr) : TextIn P R x → IsV P R (.ref x) (.text x)
theorem isV_ref {P : Params} {R : List (Addr × Obj)} {v : Value} {k : Kd} (V : IsV P R v k) (hk : k.isInt = false) : v = .ref k.addr := by cases V <;> first | rfl | cases hk
theorem isV_int {P : Params} {R : List (Addr × Obj)} {v : Value} {i : Int} (V : IsV P R v (.int i)) : ∃ tk, v = .int i tk := by cases V; exact ⟨_, rfl⟩
/-- the heap has these objects -/
def Has (h : Heap) (R : List (Addr × Obj)) : Prop := ∀ p ∈ R, h.get? p.1 = some p.2
theorem Has.keep {g h : Heap} {L : Addr} {m : Str → Option Value} {R : List (Addr × Obj)} (H : Has g R) (F : Fr g L h m) : Has h R := fun p hp => F.keep _ _ (H p hp)
theorem Has.stays {g h : Heap} {R : List (Addr × Obj)} (H : Has g R) (k : g.StaysIn h) : Has h R := fun p hp => k _ _ (H p hp)
/-- all of a heap but these addresses -/
def But (h : Heap) (own : List Addr) (g : Heap) : Prop := ∀ b o, h.get? b = some o → b ∉ own → g.get? b = some o
theorem But.stays {h g : Heap} (k : But h [] g) : h.StaysIn g := fun b o e => k b o e (fun q => nomatch q)
theorem But.fr {h g h' : Heap} {own : List Addr} {L : Addr} {m : Str → Option Value} (k : But h own g) (F : Fr g L h' m) : But h own h' := fun b o e n => F.keep _ _ (k b o e n)
theorem But.trans {h g h' : Heap} {own : List Addr} (k : But h own g) (k' : But g own h') : But h own h' := fun b o e n => k' b o (k b o e n) n
theorem Stays.but {h g : Heap} {own : List Addr} (k : h.StaysIn g) : But h own g := fun b o e _ => k b o e
theorem But.has {h g : Heap} {own : List Addr} {R : List (Addr × Obj)} (k : But h own g) (H : Has h R) (d : ∀ p ∈ R, p.1 ∉ own) : Has g R := fun p hp => k _ _ (H p hp) (d p hp)
theorem News.but {h₀ h g : Heap} {L : Addr} {own : List Addr} {news : List (Addr × Obj)} (N : News h₀ L h news) (k : But h own g) (d : ∀ p ∈ news, p.1 ∉ own) : News h₀ L g news := fun p hp => ⟨k _ _ (N p hp).1 (d p hp), (N p hp).2⟩
theorem News.stay {h₀ h g : Heap} {L : Addr} {news : List (Addr × Obj)} (N : News h₀ L h news) (k : h.StaysIn g) : News h₀ L g news := fun p hp => ⟨k _ _ (N p hp).1, (N p hp).2⟩
theorem Fr.stay {h₀ h g : Heap} {L : Addr} {m : Str → Option Value} (F : Fr h₀ L h m) (k : h.StaysIn g) : Fr h₀ L g m :=
  ⟨F.ns.at' fun o e => k L o e, fun b o e => k _ _ (F.keep b o e), F.above⟩
section
variable {prog : Program} {w : World} {A A₀ : Around} {s : Shared} {K : Frag} {L : Addr} {h₀ base : Heap} {m mg mb : Str → Option Value} {own : List (Addr × Obj)} {p : Program} {loose : List Str} {mean : ExcName → Option Value}
/-- a def is called; the callee owns only what `own` names: all else lies in its ground -/
theorem code_own {env : Env} {outer : List Env} {R : Result → Shared → Prop} {name qual : Str} {params : Arguments} {body : List Stmt} {scope : Scope} {dV kV doc pm cdv ct oc : Value} {an od : Option Addr} {osl : Array (Option Value)} {f : Addr} {args : Args} {binds : List (Str × Value)}
    (B : Below A₀ base outer h₀) (F : Fr h₀ L s.heap m) (X₀ : K.In h₀) (N : News h₀ L s.heap own) (T : Top p loose mean mg mb h₀) (hA : A.frames = some (env :: outer)) (hf : env.frame = some L) (hke : env.scope.kind = .function)
    (ho : K.lookup f = some ⟨oc, od, .func (fnOf name qual params body scope dV kV doc pm an cdv ct), osl⟩) (hcd : codeIn K cdv qual = true) (hroom : A.depth < recursionLimit)
    (hbind : BindsTo s (fnOf name qual params body scope dV kV doc pm an cdv ct) args binds) (hloc : ∀ y ∈ binds, scope.names.lookup y.1 = some .local)
    (h : ∀ g L' h₁, But s.heap (own.map (·.1)) g → Fr h₀ L g m → Fr g L' h₁ (fun y => binds.reverse.lookup y) → News g L' h₁ own → Below A base (env :: outer) g → K.In g → Top p loose mean mg mb g →
      wpAny (model prog w) (A.deeper (envOf qual scope L' f cdv)) (execs body (envOf qual scope L' f cdv))
        (fun fl s' => LeaveK h₀ L m g R (match fl with | .ret v => v | _ => .none) s')
        (fun e s' => wpAny (model prog w) (A.deeper (envOf qual scope L' f cdv)) (leaving (envOf qual scope L' f cdv) e) (fun _ s'' => R (.error e) s'') (fun e' s'' => R (.error e') s'') s')
        { s with heap := h₁, toks := s.toks + binds.length })
    (hco : scope.isCoroutine = false) (hgen : scope.isGenerator = false) (hk : scope.kind = .function)
    (hcell : ∀ x ∈ scope.names, x.2 ≠ .cell) : codeAny (model prog w) A (.call (.ref f) args) R s := by
  have G := groundX (R := R) B F N hA hf hke
  have below : ∀ p ∈ own, p.1 < s.heap.objs.size := fun p hp => Heap.lt_size (N p hp).1
  refine codeAny_call_def (fd := fnX name qual params body scope [] dV kV doc pm an cdv ct) (body := body) (binds := binds) hroom ((X₀.keeps F.keep) _ _ ho) rfl (T.nolimit.keeps F.keep) (codeRec_of (X₀.keeps F.keep) hcd) rfl hbind hcell hloc (fun h₁ ns up => ?_) hco hgen hk
  refine wpAny_mono (h _ s.heap.objs.size h₁ ?_ G.1 ?_ ?_ G.2.1 (X₀.keeps G.2.2.1) (T.keeps G.2.2.1)) ?_ (fun _ _ e => e)
  · exact fun b o e n => hideAll_get _ e n
  · refine ⟨ns, ?_, ?_⟩
    · intro b o e; exact up b o (of_hideAll _ e)
    · rw [hideAll_size]; exact Nat.le_refl _
  · intro p hp
    refine ⟨up _ _ (N p hp).1, Nat.ne_of_lt (below p hp), ?_⟩
    exact hideAll_none _ (List.mem_map.mpr ⟨p, hp, rfl⟩)
  · intro fl s' x; exact G.2.2.2 _ _ x
end
theorem instAt_base {g h : Heap} {L : Addr} {m : Str → Option Value} {R : List (Addr × Obj)} {x C dx : Addr} {od : Obj} (H : Has g R) (F : Fr g L h m) (h1 : (x, instObj C dx) ∈ R) (h2 : (dx, od) ∈ R) :
    PySem.W.InstAt h x (instObj C dx) C (some od) := ⟨F.keep _ _ (H _ h1), rfl, rfl, F.keep _ _ (H _ h2)⟩
theorem sub_self {R : List (Addr × Obj)} : ∀ p ∈ R, p ∈ R := fun _ h => h
theorem sub_cons {R news : List (Addr × Obj)} {q : Addr × Obj} (h : ∀ p ∈ R, p ∈ news) : ∀ p ∈ R, p ∈ q :: news := fun p hp => List.mem_cons_of_mem _ (h p hp)
theorem endStay {h g h' : Heap} {L : Addr} {m : Str → Option Value} (k : But h [] g) (F : Fr g L h' m) : h.StaysIn h' := fun b o e => F.keep _ _ (k.stays b o e)

section
local macro_rules | `(tactic| k_inst) => `(tactic| exact instAt_base (by with_reducible assumption) (by with_reducible assumption) (by with_reducible assumption) (by with_reducible assumption))
theorem is_whole_spec {w : World} {mean : ExcName → Option Value} {mg mb : Str → Option Value} {A A₀ : Around} {base h₀ : Heap} {outer : List Env} {L : Addr} {env : Env} {s : Shared} {m : Str → Option Value} {Q E : Value → Shared → Prop} {R : List (Addr × Obj)} {v : Value} {k : Kd} (X : (hd.heap_39 w.params).In h₀) (S : Site 600 6000 mean mg mb A A₀ base outer h₀ L env s m) (HR0 : Has s.heap R) (V : IsV w.params R v k)
    (h : ∀ h' tk', s.heap.StaysIn h' → Q (.bool k.isInt) { s with heap := h', toks := tk' }) :
    wpAny (model PySem.Challenge.rw_pq0276_01.row.toRowW.prog w) A (call (.ref 200) [v]) Q E s := by
  revert X; k_fill; intro X
  obtain ⟨h1, h2, h3, h4, B, F, T, he, hk⟩ := S
  refine toTop h1 h2 h3 h4 ?_
  refine wpAny_call ?_
  cases V
  case cons i0 => (obtain ⟨_, _, _, i1, i2⟩ := i0); (k_dflt (refine' code_own ?k1 ?k2 ?k3 ?k4 ?k5 ?kA ?kF ?kK ?k6 ?k7 ?k8 ?k9 ?kB ?_ ?c2 ?c3 ?c4 ?c5; (case kA => exact rfl); (case kF => assumption); (case kK => assumption); (case k1 => k_asm); (case k2 => k_asm); (case k3 => k_asm); (case k4 => exact News.nil); (case k5 => k_asm); (case k6 => k_is); (case k7 => k_is); (case k8 => k_room); (case k9 => first | exact BindsTo.of_eq rfl | exact binds_K (by k_in) rfl (by k_is) rfl rfl rfl); (case c5 => decide); (case kB => exact locs rfl); (case c2 => exact rfl); (case c3 => exact rfl); (case c4 => exact rfl); k_whole; intro g' L' h' HG' FG' F' N' B' X' T'; (try dsimp only); (try k_fold))); (have HR := Has.stays HR0 (But.stays HG')); (clear HR0); k_steps; exact h _ _ (endStay HG' (by k_asm))
  case text i0 => (obtain ⟨_, _, _, _, _, _, i1, i2, _⟩ := i0); (k_dflt (refine' code_own ?k1 ?k2 ?k3 ?k4 ?k5 ?kA ?kF ?kK ?k6 ?k7 ?k8 ?k9 ?kB ?_ ?c2 ?c3 ?c4 ?c5; (case kA => exact rfl); (case kF => assumption); (case kK => assumption); (case k1 => k_asm); (case k2 => k_asm); (case k3 => k_asm); (case k4 => exact News.nil); (case k5 => k_asm); (case k6 => k_is); (case k7 => k_is); (case k8 => k_room); (case k9 => first | exact BindsTo.of_eq rfl | exact binds_K (by k_in) rfl (by k_is) rfl rfl rfl); (case c5 => decide); (case kB => exact locs rfl); (case c2 => exact rfl); (case c3 => exact rfl); (case c4 => exact rfl); k_whole; intro g' L' h' HG' FG' F' N' B' X' T'; (try dsimp only); (try k_fold))); (have HR := Has.stays HR0 (But.stays HG')); (clear HR0); k_steps; exact h _ _ (endStay HG' (by k_asm))
  all_goals ((k_dflt (refine' code_own ?k1 ?k2 ?k3 ?k4 ?k5 ?kA ?kF ?kK ?k6 ?k7 ?k8 ?k9 ?kB ?_ ?c2 ?c3 ?c4 ?c5; (case kA => exact rfl); (case kF => assumption); (case kK => assumption); (case k1 => k_asm); (case k2 => k_asm); (case k3 => k_asm); (case k4 => exact News.nil); (case k5 => k_asm); (case k6 => k_is); (case k7 => k_is); (case k8 => k_room); (case k9 => first | exact BindsTo.of_eq rfl | exact binds_K (by k_in) rfl (by k_is) rfl rfl rfl); (case c5 => decide); (case kB => exact locs rfl); (case c2 => exact rfl); (case c3 => exact rfl); (case c4 => exact rfl); k_whole; intro g' L' h' HG' FG' F' N' B' X' T'; (try dsimp only); (try k_fold))); (have HR := Has.stays HR0 (But.stays HG')); (clear HR0); k_steps; exact h _ _ (endStay HG' (by k_asm)))

theorem kd_at {w : World} {h₀ h : Heap} {L : Addr} {m : Str → Option Value} {R : List (Addr × Obj)} {v : Value} {k : Kd} (X : (hd.heap_39 w.params).In h₀) (P : PySem.Challenge.rw_pq0276_01 = PySem.Challenge.rw_pq0276_01) (F : Fr h₀ L h m) (HR : Has h R) (V : IsV w.params R v k) (hk : k.isInt = false) :
    ∃ o, h.get? k.addr = some o ∧ ∃ C, o.cls = .ref C := by
  revert X P; k_fill; intro X P
  cases V
  case int => cases hk
  case nil => exact ⟨_, F.keep _ _ (X _ _ (by k_is)), _, rfl⟩
  case cons i0 => obtain ⟨_, _, _, i1, i2⟩ := i0; exact ⟨_, HR _ i1, _, rfl⟩
  case text i0 => obtain ⟨_, _, _, _, _, _, i1, i2, _⟩ := i0; exact ⟨_, HR _ i1, _, rfl⟩
end
theorem is_refs {M : Model} {A : Around} {E : Value → Shared → Prop} {s : Shared} {x y : Addr} {Q : Value → Shared → Prop} (hx : ∃ o, s.heap.get? x = some o ∧ ∃ C, o.cls = .ref C) (hy : ∃ o, s.heap.get? y = some o ∧ ∃ C, o.cls = .ref C)
    (h : Q (.bool (decide (x = y))) s) : wpAny M A (compareOp .Is (.ref x) (.ref y)) Q E s := by
  obtain ⟨ox, hx, C, hc⟩ := hx
  obtain ⟨oy, hy, _⟩ := hy
  by_cases e : x = y
  · subst e; rw [decide_eq_true rfl] at h; exact wpAny_is_ref_self h
  · rw [decide_eq_false e] at h; exact wpAny_is_ref_other e hx hy (by rw [hc]; intro z; cases z) h
theorem isInt_ex {k : Kd} (h : k.isInt = true) : ∃ i, k = .int i := by cases k <;> first | exact ⟨_, rfl⟩ | cases h
def eqK (k k' : Kd) : Bool := match k.isInt, k'.isInt, k, k' with
  | true, true, .int i, .int j => decide (i = j)
  | false, false, k, k' => decide (k.addr = k'.addr)
  | _, _, _, _ => false

section
local macro_rules | `(tactic| walk_at "call ref") => `(tactic| (k_here; (with_reducible show wpAny _ _ (call (Value.ref 200) [_]) _ _ _); k_dflt (refine' is_whole_spec ?X ⟨?h, ?d, ?f, ?u, ?B, ?F, ?T, ?e, ?k⟩ ?HR ?V ?_; (case X => k_asm); (case h => exact rfl); (case d => exact Nat.le_of_ble_eq_true rfl); (case f => exact rfl); (case u => exact Nat.le_of_ble_eq_true rfl); (case B => k_asm); (case F => k_asm); (case T => k_asm); (case e => first | exact rfl | assumption); (case k => first | exact rfl | assumption); (case V => assumption); (case HR => first | with_reducible assumption | exact Has.keep (by k_asm) (by k_asm)); k_whole); intro h' tk' K'; (have F'' := Fr.stay (by k_asm) K'); (have N'' := News.stay (by k_asm) K'); (clear K'); (try k_sweep); (try rw [hk1]); (try rw [hk2])))

theorem eq_spec {w : World} {mean : ExcName → Option Value} {mg mb : Str → Option Value} {A A₀ : Around} {base h₀ : Heap} {outer : List Env} {L : Addr} {env : Env} {s : Shared} {m : Str → Option Value} {Q E : Value → Shared → Prop} {R : List (Addr × Obj)} {v v' : Value} {k k' : Kd} (X : (hd.heap_39 w.params).In h₀) (S : Site 500 5000 mean mg mb A A₀ base outer h₀ L env s m) (HR0 : Has s.heap R) (V : IsV w.params R v k) (V' : IsV w.params R v' k')
    (h : ∀ h' tk', s.heap.StaysIn h' → Q (.bool (eqK k k')) { s with heap := h', toks := tk' }) :
    wpAny (model PySem.Challenge.rw_pq0276_01.row.toRowW.prog w) A (call (.ref 207) [v, v']) Q E s := by
  revert X; k_fill; intro X
  obtain ⟨h1, h2, h3, h4, B, F, T, he, hk⟩ := S
  refine toTop h1 h2 h3 h4 ?_
  refine wpAny_call ?_
  cases hk1 : k.isInt <;> cases hk2 : k'.isInt
  case false.false =>
    (obtain rfl := isV_ref V hk1); (obtain rfl := isV_ref V' hk2); (k_dflt (refine' code_own ?k1 ?k2 ?k3 ?k4 ?k5 ?kA ?kF ?kK ?k6 ?k7 ?k8 ?k9 ?kB ?_ ?c2 ?c3 ?c4 ?c5; (case kA => exact rfl); (case kF => assumption); (case kK => assumption); (case k1 => k_asm); (case k2 => k_asm); (case k3 => k_asm); (case k4 => exact News.nil); (case k5 => k_asm); (case k6 => k_is); (case k7 => k_is); (case k8 => k_room); (case k9 => first | exact BindsTo.of_eq rfl | exact binds_K (by k_in) rfl (by k_is) rfl rfl rfl); (case c5 => decide); (case kB => exact locs rfl); (case c2 => exact rfl); (case c3 => exact rfl); (case c4 => exact rfl); k_whole; intro g' L' h' HG' FG' F' N' B' X' T'; (try dsimp only); (try k_fold))); (have HR := Has.stays HR0 (But.stays HG')); (clear HR0); k_steps
    refine' is_refs ?a1 ?a2 ?_
    (case a1 => exact kd_at X' rfl (by k_asm) (Has.keep HR (by k_asm)) V hk1)
    (case a2 => exact kd_at X' rfl (by k_asm) (Has.keep HR (by k_asm)) V' hk2)
    k_steps
    simp only [eqK, hk1, hk2] at h
    exact h _ _ (endStay HG' (by k_asm))
  case true.true =>
    (obtain ⟨i1, rfl⟩ := isInt_ex hk1); (obtain ⟨i2, rfl⟩ := isInt_ex hk2)
    (obtain ⟨t1, rfl⟩ := isV_int V); (obtain ⟨t2, rfl⟩ := isV_int V'); (k_dflt (refine' code_own ?k1 ?k2 ?k3 ?k4 ?k5 ?kA ?kF ?kK ?k6 ?k7 ?k8 ?k9 ?kB ?_ ?c2 ?c3 ?c4 ?c5; (case kA => exact rfl); (case kF => assumption); (case kK => assumption); (case k1 => k_asm); (case k2 => k_asm); (case k3 => k_asm); (case k4 => exact News.nil); (case k5 => k_asm); (case k6 => k_is); (case k7 => k_is); (case k8 => k_room); (case k9 => first | exact BindsTo.of_eq rfl | exact binds_K (by k_in) rfl (by k_is) rfl rfl rfl); (case c5 => decide); (case kB => exact locs rfl); (case c2 => exact rfl); (case c3 => exact rfl); (case c4 => exact rfl); k_whole; intro g' L' h' HG' FG' F' N' B' X' T'; (try dsimp only); (try k_fold))); (have HR := Has.stays HR0 (But.stays HG')); (clear HR0); k_steps; exact h _ _ (endStay HG' (by k_asm))
  case true.false =>
    (obtain rfl := isV_ref V' hk2); (k_dflt (refine' code_own ?k1 ?k2 ?k3 ?k4 ?k5 ?kA ?kF ?kK ?k6 ?k7 ?k8 ?k9 ?kB ?_ ?c2 ?c3 ?c4 ?c5; (case kA => exact rfl); (case kF => assumption); (case kK => assumption); (case k1 => k_asm); (case k2 => k_asm); (case k3 => k_asm); (case k4 => exact News.nil); (case k5 => k_asm); (case k6 => k_is); (case k7 => k_is); (case k8 => k_room); (case k9 => first | exact BindsTo.of_eq rfl | exact binds_K (by k_in) rfl (by k_is) rfl rfl rfl); (case c5 => decide); (case kB => exact locs rfl); (case c2 => exact rfl); (case c3 => exact rfl); (case c4 => exact rfl); k_whole; intro g' L' h' HG' FG' F' N' B' X' T'; (try dsimp only); (try k_fold))); (have HR := Has.stays HR0 (But.stays HG')); (clear HR0); k_steps
    simp only [eqK, hk1, hk2] at h
    (try rw [hk1]); (try rw [hk2]); exact h _ _ (endStay HG' (by k_asm))
  case false.true =>
    (obtain rfl := isV_ref V hk1); (k_dflt (refine' code_own ?k1 ?k2 ?k3 ?k4 ?k5 ?kA ?kF ?kK ?k6 ?k7 ?k8 ?k9 ?kB ?_ ?c2 ?c3 ?c4 ?c5; (case kA => exact rfl); (case kF => assumption); (case kK => assumption); (case k1 => k_asm); (case k2 => k_asm); (case k3 => k_asm); (case k4 => exact News.nil); (case k5 => k_asm); (case k6 => k_is); (case k7 => k_is); (case k8 => k_room); (case k9 => first | exact BindsTo.of_eq rfl | exact binds_K (by k_in) rfl (by k_is) rfl rfl rfl); (case c5 => decide); (case kB => exact locs rfl); (case c2 => exact rfl); (case c3 => exact rfl); (case c4 => exact rfl); k_whole; intro g' L' h' HG' FG' F' N' B' X' T'; (try dsimp only); (try k_fold))); (have HR := Has.stays HR0 (But.stays HG')); (clear HR0); k_steps
    simp only [eqK, hk1, hk2] at h
    (try rw [hk1]); (try rw [hk2]); exact h _ _ (endStay HG' (by k_asm))
end

def clsK : Kd → Kd → Bool
  | .cons _, .cons _ => true
  | .text _, .text _ => true
  | _, _ => false
section
local macro_rules | `(tactic| k_inst) => `(tactic| exact instAt_base (by with_reducible assumption) (by with_reducible assumption) (by with_reducible assumption) (by with_reducible assumption))
theorem class_spec {w : World} {mean : ExcName → Option Value} {mg mb : Str → Option Value} {A A₀ : Around} {base h₀ : Heap} {outer : List Env} {L : Addr} {env : Env} {s : Shared} {m : Str → Option Value} {Q E : Value → Shared → Prop} {R : List (Addr × Obj)} {v v' : Value} {k k' : Kd} (X : (hd.heap_39 w.params).In h₀) (S : Site 500 5000 mean mg mb A A₀ base outer h₀ L env s m) (HR0 : Has s.heap R) (V : IsV w.params R v k) (V' : IsV w.params R v' k')
    (h : ∀ h' tk', s.heap.StaysIn h' → Q (.bool (clsK k k')) { s with heap := h', toks := tk' }) :
    wpAny (model PySem.Challenge.rw_pq0276_01.row.toRowW.prog w) A (call (.ref 219) [v, v']) Q E s := by
  revert X; k_fill; intro X
  obtain ⟨h1, h2, h3, h4, B, F, T, he, hk⟩ := S
  refine toTop h1 h2 h3 h4 ?_
  refine wpAny_call ?_
  cases V
  case nil => (k_dflt (refine' code_own ?k1 ?k2 ?k3 ?k4 ?k5 ?kA ?kF ?kK ?k6 ?k7 ?k8 ?k9 ?kB ?_ ?c2 ?c3 ?c4 ?c5; (case kA => exact rfl); (case kF => assumption); (case kK => assumption); (case k1 => k_asm); (case k2 => k_asm); (case k3 => k_asm); (case k4 => exact News.nil); (case k5 => k_asm); (case k6 => k_is); (case k7 => k_is); (case k8 => k_room); (case k9 => first | exact BindsTo.of_eq rfl | exact binds_K (by k_in) rfl (by k_is) rfl rfl rfl); (case c5 => decide); (case kB => exact locs rfl); (case c2 => exact rfl); (case c3 => exact rfl); (case c4 => exact rfl); k_whole; intro g' L' h' HG' FG' F' N' B' X' T'; (try dsimp only); (try k_fold))); (have HR := Has.stays HR0 (But.stays HG')); (clear HR0); k_steps; exact h _ _ (endStay HG' (by k_asm))
  case int => (k_dflt (refine' code_own ?k1 ?k2 ?k3 ?k4 ?k5 ?kA ?kF ?kK ?k6 ?k7 ?k8 ?k9 ?kB ?_ ?c2 ?c3 ?c4 ?c5; (case kA => exact rfl); (case kF => assumption); (case kK => assumption); (case k1 => k_asm); (case k2 => k_asm); (case k3 => k_asm); (case k4 => exact News.nil); (case k5 => k_asm); (case k6 => k_is); (case k7 => k_is); (case k8 => k_room); (case k9 => first | exact BindsTo.of_eq rfl | exact binds_K (by k_in) rfl (by k_is) rfl rfl rfl); (case c5 => decide); (case kB => exact locs rfl); (case c2 => exact rfl); (case c3 => exact rfl); (case c4 => exact rfl); k_whole; intro g' L' h' HG' FG' F' N' B' X' T'; (try dsimp only); (try k_fold))); (have HR := Has.stays HR0 (But.stays HG')); (clear HR0); k_steps; exact h _ _ (endStay HG' (by k_asm))
  case cons x1 car1 cdr1 i0 =>
    (obtain ⟨_, _, _, i1, i2⟩ := i0); (k_dflt (refine' code_own ?k1 ?k2 ?k3 ?k4 ?k5 ?kA ?kF ?kK ?k6 ?k7 ?k8 ?k9 ?kB ?_ ?c2 ?c3 ?c4 ?c5; (case kA => exact rfl); (case kF => assumption); (case kK => assumption); (case k1 => k_asm); (case k2 => k_asm); (case k3 => k_asm); (case k4 => exact News.nil); (case k5 => k_asm); (case k6 => k_is); (case k7 => k_is); (case k8 => k_room); (case k9 => first | exact BindsTo.of_eq rfl | exact binds_K (by k_in) rfl (by k_is) rfl rfl rfl); (case c5 => decide); (case kB => exact locs rfl); (case c2 => exact rfl); (case c3 => exact rfl); (case c4 => exact rfl); k_whole; intro g' L' h' HG' FG' F' N' B' X' T'; (try dsimp only); (try k_fold))); (have HR := Has.stays HR0 (But.stays HG')); (clear HR0); k_steps
    cases V' with
    | cons x2 car2 cdr2 j0 => (obtain ⟨_, _, _, j1, j2⟩ := j0); k_steps; exact h _ _ (endStay HG' (by k_asm))
    | text x2 j0 => (obtain ⟨_, _, _, _, _, _, j1, j2, _⟩ := j0); k_steps; exact h _ _ (endStay HG' (by k_asm))
    | nil => k_steps; exact h _ _ (endStay HG' (by k_asm))
    | int i2 t2 => k_steps; exact h _ _ (endStay HG' (by k_asm))
  case text x1 i0 =>
    (obtain ⟨_, _, _, _, _, _, i1, i2, _⟩ := i0); (k_dflt (refine' code_own ?k1 ?k2 ?k3 ?k4 ?k5 ?kA ?kF ?kK ?k6 ?k7 ?k8 ?k9 ?kB ?_ ?c2 ?c3 ?c4 ?c5; (case kA => exact rfl); (case kF => assumption); (case kK => assumption); (case k1 => k_asm); (case k2 => k_asm); (case k3 => k_asm); (case k4 => exact News.nil); (case k5 => k_asm); (case k6 => k_is); (case k7 => k_is); (case k8 => k_room); (case k9 => first | exact BindsTo.of_eq rfl | exact binds_K (by k_in) rfl (by k_is) rfl rfl rfl); (case c5 => decide); (case kB => exact locs rfl); (case c2 => exact rfl); (case c3 => exact rfl); (case c4 => exact rfl); k_whole; intro g' L' h' HG' FG' F' N' B' X' T'; (try dsimp only); (try k_fold))); (have HR := Has.stays HR0 (But.stays HG')); (clear HR0); k_steps
    cases V' with
    | cons x2 car2 cdr2 j0 => (obtain ⟨_, _, _, j1, j2⟩ := j0); k_steps; exact h _ _ (endStay HG' (by k_asm))
    | text x2 j0 => (obtain ⟨_, _, _, _, _, _, j1, j2, _⟩ := j0); k_steps; exact h _ _ (endStay HG' (by k_asm))
    | nil => k_steps; exact h _ _ (endStay HG' (by k_asm))
    | int i2 t2 => k_steps; exact h _ _ (endStay HG' (by k_asm))
end

abbrev taskDict (P : Params) (k0 k1 k2 k3 k4 k5 : Tok) (l r d t sl sr : Value) : Obj := dictOf [⟨PyData.keyHash P (Str.ofString "left"), .str (Str.ofString "left") k0, l⟩, ⟨PyData.keyHash P (Str.ofString "right"), .str (Str.ofString "right") k1, r⟩, ⟨PyData.keyHash P (Str.ofString "deep"), .str (Str.ofString "deep") k2, d⟩, ⟨PyData.keyHash P (Str.ofString "turn"), .str (Str.ofString "turn") k3, t⟩, ⟨PyData.keyHash P (Str.ofString "slow_left"), .str (Str.ofString "slow_left") k4, sl⟩, ⟨PyData.keyHash P (Str.ofString "slow_right"), .str (Str.ofString "slow_right") k5, sr⟩] 6
theorem news_join {h₀ h : Heap} {L : Addr} {a b : List (Addr × Obj)} (N : News h₀ L h a) (N' : News h₀ L h b) : News h₀ L h (a ++ b) := fun p hp => (List.mem_append.mp hp).elim (N p) (N' p)
theorem news_sub {h₀ h : Heap} {L : Addr} {a b : List (Addr × Obj)} (N : News h₀ L h a) (hs : ∀ p ∈ b, p ∈ a) : News h₀ L h b := fun p hp => N p (hs p hp)
theorem news_two {h₀ h : Heap} {L : Addr} {a b : Addr × Obj} {r : List (Addr × Obj)} (N : News h₀ L h (a :: b :: r)) : News h₀ L h [a, b] := fun p hp => N p (by
  rcases List.mem_cons.mp hp with rfl | hp
  · exact .head _
  · rcases List.mem_cons.mp hp with rfl | hp
    · exact .tail _ (.head _)
    · cases hp)
theorem news_rest {h₀ h : Heap} {L : Addr} {a b : Addr × Obj} {r : List (Addr × Obj)} (N : News h₀ L h (a :: b :: r)) : News h₀ L h r := fun p hp => N p (.tail _ (.tail _ hp))
section
theorem task_new {w : World} {mean : ExcName → Option Value} {mg mb : Str → Option Value} {A A₀ : Around} {base h₀ : Heap} {outer : List Env} {L : Addr} {env : Env} {s : Shared} {m : Str → Option Value} {Q E : Value → Shared → Prop} {news : List (Addr × Obj)} {l r : Value} {d : Int} {td : Tok} (X : (hd.heap_39 w.params).In h₀) (S : Site 450 4500 mean mg mb A A₀ base outer h₀ L env s m) (N : News h₀ L s.heap news)
    (h : ∀ h' tk' y dy k0 k1 k2 k3 k4 k5 t0, Fr h₀ L h' m → News h₀ L h' ((y, instObj 250 dy) :: (dy, taskDict w.params k0 k1 k2 k3 k4 k5 l r (.int d td) (.int 0 t0) l r) :: news) → (∀ p ∈ news, p.1 < dy) → dy < y → 
      Q (.ref y) { s with heap := h', toks := tk' }) :
    wpAny (model PySem.Challenge.rw_pq0276_01.row.toRowW.prog w) A (call (.ref 250) [l, r, .int d td]) Q E s := by
  revert X; k_fill; intro X
  obtain ⟨h1, h2, h3, h4, B, F, T, he, hk⟩ := S
  refine toTop h1 h2 h3 h4 ?_
  k_dflt (refine' call_cls ?k1 ?k2 ?k3 ?k4 ?k5 ?k6 ?_; (case k1 => k_asm); (case k2 => k_asm); (case k3 => k_asm); (case k4 => k_is); (case k5 => k_is); (case k6 => k_is); k_whole; intro x' d' hx' F' N0 l1 l2)
  have hne : x' ≠ d' := Nat.ne_of_gt l2
  have N1 := news_two N0
  have N2 := news_rest N0
  have d2 : ∀ p ∈ news, p.1 ∉ [x', d'] := fun p hp q => by
    have := l1 p hp
    simp only [List.mem_cons, List.not_mem_nil, or_false] at q
    rcases q with q | q
    · rw [q] at this; exact Nat.lt_irrefl _ (Nat.lt_trans this l2)
    · rw [q] at this; exact Nat.lt_irrefl _ this
  (k_dflt (refine' code_own ?k1 ?k2 ?k3 ?k4 ?k5 ?kA ?kF ?kK ?k6 ?k7 ?k8 ?k9 ?kB ?_ ?c2 ?c3 ?c4 ?c5; (case kA => exact rfl); (case kF => assumption); (case kK => assumption); (case k1 => k_asm); (case k2 => k_asm); (case k3 => k_asm); (case k4 => exact N1); (case k5 => k_asm); (case k6 => k_is); (case k7 => k_is); (case k8 => k_room); (case k9 => first | exact BindsTo.of_eq rfl | exact binds_K (by k_in) rfl (by k_is) rfl rfl rfl); (case c5 => decide); (case kB => exact locs rfl); (case c2 => exact rfl); (case c3 => exact rfl); (case c4 => exact rfl); k_whole; intro g' L' h' HG' FG' F' N' B' X' T'; (try dsimp only); (try k_fold)))
  k_steps
  have NN : News h₀ L _ news := News.but N2 (But.fr HG' (by k_asm)) d2
  (with_reducible rename News h₀ L _ [_, _] => kN)
  exact h _ _ _ _ _ _ _ _ _ _ _ (by k_asm) (news_join kN NN) l1 l2
end
theorem isV_handed {P : Params} {R : List (Addr × Obj)} {v : Value} {k : Kd} (V : IsV P R v k) : handedIn v = true := by cases V <;> rfl
def isK (k k' : Kd) : Bool := !k.isInt && decide (k.addr = k'.addr)
def roundK (t : Int) (kl kr ksl ksr : Kd) : Bool := decide (0 < t) && (isK kl ksl && isK kr ksr)
theorem is_kd {w : World} {A : Around} {E : Value → Shared → Prop} {s : Shared} {h₀ : Heap} {L : Addr} {m : Str → Option Value} {R : List (Addr × Obj)} {v v' : Value} {k k' : Kd} {Q : Value → Shared → Prop} (X : (hd.heap_39 w.params).In h₀) (F : Fr h₀ L s.heap m) (HR : Has s.heap R)
    (V : IsV w.params R v k) (V' : IsV w.params R v' k') (hk : k'.isInt = false) (h : Q (.bool (isK k k')) s) : wpAny (model PySem.Challenge.rw_pq0276_01.row.toRowW.prog w) A (compareOp .Is v v') Q E s := by
  obtain rfl := isV_ref V' hk
  cases hk0 : k.isInt with
  | true =>
    obtain ⟨i, rfl⟩ := isInt_ex hk0
    obtain ⟨t, rfl⟩ := isV_int V
    exact wpAny_is_other rfl (by intro e; cases e) h
  | false =>
    obtain rfl := isV_ref V hk0
    refine is_refs (kd_at X rfl F HR V hk0) (kd_at X rfl F HR V' hk) ?_
    simpa only [isK, hk0, Bool.not_false, Bool.true_and] using h
section
local macro_rules | `(tactic| walk_at "compareOp Is") => `(tactic| (k_here; k_dflt (refine' is_kd ?X ?F ?HR ?V ?W ?k ?_; (case X => k_asm); (case V => assumption); (case F => k_asm); (case HR => first | with_reducible assumption | exact Has.keep (by k_asm) (by k_asm)); (case W => assumption); (case k => assumption); k_whole)))
local macro_rules | `(tactic| k_handed) => `(tactic| first | with_reducible assumption | exact isV_handed (by with_reducible assumption))
local macro_rules | `(tactic| k_inst) => `(tactic| exact instAt_base (by with_reducible assumption) (by with_reducible assumption) (by with_reducible assumption) (by with_reducible assumption))
theorem is_round_spec {w : World} {mean : ExcName → Option Value} {mg mb : Str → Option Value} {A A₀ : Around} {base h₀ : Heap} {outer : List Env} {L : Addr} {env : Env} {s : Shared} {m : Str → Option Value} {Q E : Value → Shared → Prop} {R : List (Addr × Obj)} {x dx : Addr} {k0 k1 k2 k3 k4 k5 t0 : Tok} {l r d sl sr : Value} {t : Int} {kl kr ksl ksr : Kd} (X : (hd.heap_39 w.params).In h₀) (S : Site 450 4500 mean mg mb A A₀ base outer h₀ L env s m) (HR0 : Has s.heap R)
    (i1 : (x, instObj 250 dx) ∈ R) (i2 : (dx, taskDict w.params k0 k1 k2 k3 k4 k5 l r d (.int t t0) sl sr) ∈ R) (V1 : IsV w.params R l kl) (V2 : IsV w.params R r kr) (V3 : IsV w.params R sl ksl) (V4 : IsV w.params R sr ksr)
    (hk3 : ksl.isInt = false) (hk4 : ksr.isInt = false)
    (h : ∀ h' tk', s.heap.StaysIn h' → Q (.bool (roundK t kl kr ksl ksr)) { s with heap := h', toks := tk' }) :
    wpAny (model PySem.Challenge.rw_pq0276_01.row.toRowW.prog w) A (call (.ref 240) [.ref x]) Q E s := by
  revert X; k_fill; intro X
  obtain ⟨h1, h2, h3, h4, B, F, T, he, hk⟩ := S
  refine toTop h1 h2 h3 h4 ?_
  refine wpAny_call ?_
  (k_dflt (refine' code_own ?k1 ?k2 ?k3 ?k4 ?k5 ?kA ?kF ?kK ?k6 ?k7 ?k8 ?k9 ?kB ?_ ?c2 ?c3 ?c4 ?c5; (case kA => exact rfl); (case kF => assumption); (case kK => assumption); (case k1 => k_asm); (case k2 => k_asm); (case k3 => k_asm); (case k4 => exact News.nil); (case k5 => k_asm); (case k6 => k_is); (case k7 => k_is); (case k8 => k_room); (case k9 => first | exact BindsTo.of_eq rfl | exact binds_K (by k_in) rfl (by k_is) rfl rfl rfl); (case c5 => decide); (case kB => exact locs rfl); (case c2 => exact rfl); (case c3 => exact rfl); (case c4 => exact rfl); k_whole; intro g' L' h' HG' FG' F' N' B' X' T'; (try dsimp only); (try k_fold))); (have HR := Has.stays HR0 (But.stays HG')); (clear HR0); k_steps
  all_goals (first
    | (rw [show isK kr ksr = roundK t kl kr ksl ksr by simp [roundK, *]]; exact h _ _ (endStay HG' (by k_asm)))
    | (rw [show isK kl ksl = roundK t kl kr ksl ksr by simp [roundK, *]]; exact h _ _ (endStay HG' (by k_asm)))
    | (rw [show decide (0 < t) = roundK t kl kr ksl ksr by simp [roundK, *]]; exact h _ _ (endStay HG' (by k_asm))))
/-- go_on: the task's own dict is written anew -/
theorem go_on_even {w : World} {mean : ExcName → Option Value} {mg mb : Str → Option Value} {A A₀ : Around} {base h₀ : Heap} {outer : List Env} {L : Addr} {env : Env} {s : Shared} {m : Str → Option Value} {Q E : Value → Shared → Prop} {R : List (Addr × Obj)} {x dx : Addr} {k0 k1 k2 k3 k4 k5 t0 : Tok} {d sl sr : Value} {t : Int} {xl xr : Addr} {al ar bl br : Value} (X : (hd.heap_39 w.params).In h₀) (S : Site 450 4500 mean mg mb A A₀ base outer h₀ L env s m) (HR0 : Has s.heap R)
    (N : News h₀ L s.heap [(x, instObj 250 dx), (dx, taskDict w.params k0 k1 k2 k3 k4 k5 (.ref xl) (.ref xr) d (.int t t0) sl sr)]) (dR : ∀ p ∈ R, p.1 ∉ [x, dx]) (hne : x ≠ dx)
    (i0 : ConsIn w.params R xl al bl) (j0 : ConsIn w.params R xr ar br) (V1 : handedIn bl = true) (V2 : handedIn br = true) (ht : t % 2 = 0) (ht0 : 0 ≤ t) (ht1 : t < 10000)
    (h : ∀ h' tk' t1, Fr h₀ L h' m → But s.heap [x, dx] h' → News h₀ L h' [(x, instObj 250 dx), (dx, taskDict w.params k0 k1 k2 k3 k4 k5 bl br d (.int (t + 1) t1) sl sr)] → Q .none { s with heap := h', toks := tk' }) :
    wpAny (model PySem.Challenge.rw_pq0276_01.row.toRowW.prog w) A (call (.ref 247) [.ref x]) Q E s := by
  revert X; k_fill; intro X
  obtain ⟨h1, h2, h3, h4, B, F, T, he, hk⟩ := S
  refine toTop h1 h2 h3 h4 ?_
  refine wpAny_call ?_
  (obtain ⟨_, _, _, i1, i2⟩ := i0); (obtain ⟨_, _, _, j1, j2⟩ := j0)
  (k_dflt (refine' code_own ?k1 ?k2 ?k3 ?k4 ?k5 ?kA ?kF ?kK ?k6 ?k7 ?k8 ?k9 ?kB ?_ ?c2 ?c3 ?c4 ?c5; (case kA => exact rfl); (case kF => assumption); (case kK => assumption); (case k1 => k_asm); (case k2 => k_asm); (case k3 => k_asm); (case k4 => exact N); (case k5 => k_asm); (case k6 => k_is); (case k7 => k_is); (case k8 => k_room); (case k9 => first | exact BindsTo.of_eq rfl | exact binds_K (by k_in) rfl (by k_is) rfl rfl rfl); (case c5 => decide); (case kB => exact locs rfl); (case c2 => exact rfl); (case c3 => exact rfl); (case c4 => exact rfl); k_whole; intro g' L' h' HG' FG' F' N' B' X' T'; (try dsimp only); (try k_fold)))
  have HR := But.has HG' HR0 dR
  clear HR0
  k_steps
  · exfalso
    (with_reducible rename Int.fmod t 2 = 1 => hp)
    rw [Int.fmod_eq_emod_of_nonneg _ (by decide)] at hp
    omega
  (with_reducible rename News h₀ L _ [_, _] => kN)
  exact h _ _ _ (by k_asm) (But.fr HG' (by k_asm)) kN
theorem go_on_odd {w : World} {mean : ExcName → Option Value} {mg mb : Str → Option Value} {A A₀ : Around} {base h₀ : Heap} {outer : List Env} {L : Addr} {env : Env} {s : Shared} {m : Str → Option Value} {Q E : Value → Shared → Prop} {R : List (Addr × Obj)} {x dx : Addr} {k0 k1 k2 k3 k4 k5 t0 : Tok} {d : Value} {t : Int} {xl xr yl yr : Addr} {al ar bl br cl cr dl dr : Value} (X : (hd.heap_39 w.params).In h₀) (S : Site 450 4500 mean mg mb A A₀ base outer h₀ L env s m) (HR0 : Has s.heap R)
    (N : News h₀ L s.heap [(x, instObj 250 dx), (dx, taskDict w.params k0 k1 k2 k3 k4 k5 (.ref xl) (.ref xr) d (.int t t0) (.ref yl) (.ref yr))]) (dR : ∀ p ∈ R, p.1 ∉ [x, dx]) (hne : x ≠ dx)
    (i0 : ConsIn w.params R xl al bl) (j0 : ConsIn w.params R xr ar br) (V1 : handedIn bl = true) (V2 : handedIn br = true)
    (e0 : ConsIn w.params R yl cl dl) (f0 : ConsIn w.params R yr cr dr) (V3 : handedIn dl = true) (V4 : handedIn dr = true) (ht : t % 2 = 1) (ht0 : 0 ≤ t) (ht1 : t < 10000)
    (h : ∀ h' tk' t1, Fr h₀ L h' m → But s.heap [x, dx] h' → News h₀ L h' [(x, instObj 250 dx), (dx, taskDict w.params k0 k1 k2 k3 k4 k5 bl br d (.int (t + 1) t1) dl dr)] → Q .none { s with heap := h', toks := tk' }) :
    wpAny (model PySem.Challenge.rw_pq0276_01.row.toRowW.prog w) A (call (.ref 247) [.ref x]) Q E s := by
  revert X; k_fill; intro X
  obtain ⟨h1, h2, h3, h4, B, F, T, he, hk⟩ := S
  refine toTop h1 h2 h3 h4 ?_
  refine wpAny_call ?_
  (obtain ⟨_, _, _, i1, i2⟩ := i0); (obtain ⟨_, _, _, j1, j2⟩ := j0); (obtain ⟨_, _, _, e1, e2⟩ := e0); (obtain ⟨_, _, _, f1, f2⟩ := f0)
  (k_dflt (refine' code_own ?k1 ?k2 ?k3 ?k4 ?k5 ?kA ?kF ?kK ?k6 ?k7 ?k8 ?k9 ?kB ?_ ?c2 ?c3 ?c4 ?c5; (case kA => exact rfl); (case kF => assumption); (case kK => assumption); (case k1 => k_asm); (case k2 => k_asm); (case k3 => k_asm); (case k4 => exact N); (case k5 => k_asm); (case k6 => k_is); (case k7 => k_is); (case k8 => k_room); (case k9 => first | exact BindsTo.of_eq rfl | exact binds_K (by k_in) rfl (by k_is) rfl rfl rfl); (case c5 => decide); (case kB => exact locs rfl); (case c2 => exact rfl); (case c3 => exact rfl); (case c4 => exact rfl); k_whole; intro g' L' h' HG' FG' F' N' B' X' T'; (try dsimp only); (try k_fold)))
  have HR := But.has HG' HR0 dR
  clear HR0
  k_steps
  rotate_left
  · exfalso
    (with_reducible rename Int.fmod t 2 ≠ 1 => hp)
    rw [Int.fmod_eq_emod_of_nonneg _ (by decide)] at hp
    omega
  (with_reducible rename News h₀ L _ [_, _] => kN)
  exact h _ _ _ (by k_asm) (But.fr HG' (by k_asm)) kN
end

theorem isList_base {g h : Heap} {L : Addr} {m : Str → Option Value} {R : List (Addr × Obj)} {c : Addr} {its : Array Value} {n : Nat} (H : Has g R) (F : Fr g L h m) (h1 : (c, W.listOf its n) ∈ R) : h.IsList c its := ⟨_, F.keep _ _ (H _ h1), rfl, n, rfl⟩
theorem allLt_mem {d : Addr} (l : List (Addr × Obj)) : AllLt d l → ∀ p ∈ l, p.1 < d := by
  induction l with
  | nil => intro _ p hp; cases hp
  | cons x l ih =>
    intro h p hp
    rcases List.mem_cons.mp hp with hp | hp
    · rw [hp]; exact h.1
    · exact ih h.2 p hp
section
local macro_rules | `(tactic| k_handed) => `(tactic| first | with_reducible assumption | exact isV_handed (by with_reducible assumption))
local macro_rules | `(tactic| k_inst) => `(tactic| exact instAt_base (by with_reducible assumption) (by with_reducible assumption) (by with_reducible assumption) (by with_reducible assumption))
local macro_rules | `(tactic| walk_at "compareOp Eq ref ref") => `(tactic| (k_here; k_dflt (refine' eq_intsK ?k1 ?k2 ?k3 ?k4 ?k5 ?_; (case k1 => exact isList_base (by assumption) (by k_asm) (by assumption)); (case k3 => exact isList_base (by assumption) (by k_asm) (by assumption)); (case k2 => exact IntsAre.cons 97 _ IntsAre.nil); (case k4 => exact IntsAre.cons 97 _ IntsAre.nil); (case k5 => units_room))))
theorem parts_spec {w : World} {mean : ExcName → Option Value} {mg mb : Str → Option Value} {A A₀ : Around} {base h₀ : Heap} {outer : List Env} {L : Addr} {env : Env} {s : Shared} {m : Str → Option Value} {Q E : Value → Shared → Prop} {news R : List (Addr × Obj)} {x y : Addr} (X : (hd.heap_39 w.params).In h₀) (S : Site 450 4500 mean mg mb A A₀ base outer h₀ L env s m) (N : News h₀ L s.heap news) (HR0 : Has h₀ R) (V : TextIn w.params R x) (V' : TextIn w.params R y)
    (h : ∀ h' tk' r, Fr h₀ L h' m → News h₀ L h' ((r, W.listOf #[] 0) :: news) → (∀ p ∈ news, p.1 < r) → Q (.ref r) { s with heap := h', toks := tk' }) :
    wpAny (model PySem.Challenge.rw_pq0276_01.row.toRowW.prog w) A (call (.ref 212) [.ref x, .ref y]) Q E s := by
  revert X; k_fill; intro X
  obtain ⟨h1, h2, h3, h4, B, F, T, he, hk⟩ := S
  refine toTop h1 h2 h3 h4 ?_
  refine wpAny_call ?_
  (obtain ⟨_, _, _, _, _, _, i1, i2, i3⟩ := V); (obtain ⟨_, _, _, _, _, _, j1, j2, j3⟩ := V')
  (k_dflt (refine' code_def ?k1 ?k2 ?k3 ?k4 ?k5 ?kA ?kF ?kK ?k6 ?k7 ?k8 ?k9 ?kB ?_ ?c2 ?c3 ?c4 ?c5; (case kA => exact rfl); (case kF => assumption); (case kK => assumption); (case k1 => k_asm); (case k2 => k_asm); (case k3 => k_asm); (case k4 => k_asm); (case k5 => k_asm); (case k6 => k_is); (case k7 => k_is); (case k8 => k_room); (case k9 => first | exact BindsTo.of_eq rfl | exact binds_K (by k_in) rfl (by k_is) rfl rfl rfl); (case c5 => decide); (case kB => exact locs rfl); (case c2 => exact rfl); (case c3 => exact rfl); (case c4 => exact rfl); k_whole; intro g' L' h' FG' F' N' B' X' T'; (try dsimp only); (try k_fold)))
  have HR := Has.keep HR0 FG'
  clear HR0
  k_steps
  (with_reducible rename News h₀ L _ (_ :: _ :: news) => kN)
  (with_reducible rename (_ ∧ AllLt _ news) => kl)
  exact h _ _ _ (by k_asm) (news_sub kN (fun p hp => by
    rcases List.mem_cons.mp hp with rfl | hp
    · exact .head _
    · exact .tail _ (.tail _ hp))) (allLt_mem _ kl.2)
end
/-- a task as the plain law sees it -/
structure TR where
  kl : Kd
  kr : Kd
  ksl : Kd
  ksr : Kd
  d : Int
  t : Int
def TR.Ok (x : TR) : Prop := 0 ≤ x.t ∧ x.t < 10000 ∧ x.d ≤ 200 ∧ 0 ≤ x.d ∧ (x.t = 0 ∨ (0 < x.t ∧ x.ksl.isInt = false ∧ x.ksr.isInt = false))
def TR.rnd (x : TR) : Bool := roundK x.t x.kl x.kr x.ksl x.ksr
def ConsK (P : Params) (R : List (Addr × Obj)) (x : Addr) (ka kb : Kd) : Prop := ∃ car cdr, ConsIn P R x car cdr ∧ IsV P R car ka ∧ IsV P R cdr kb
inductive Res where
  | yes
  | no
  | round
inductive Runs (P : Params) (R : List (Addr × Obj)) : Nat → List TR → Res → Prop where
  | done : Runs P R 0 [] .yes
  | round {x : TR} {ts : List TR} {n : Nat} : x.Ok → ts.length ≤ 50 → x.rnd = true → Runs P R n (x :: ts) .round
  | no {x : TR} {ts : List TR} {n : Nat} : x.Ok → ts.length ≤ 50 → x.rnd = false → eqK x.kl x.kr = false → clsK x.kl x.kr = false → Runs P R n (x :: ts) .no
  | eq {x : TR} {ts : List TR} {n : Nat} {r : Res} : x.Ok → ts.length ≤ 50 → x.rnd = false → eqK x.kl x.kr = true → Runs P R n ts r → Runs P R (n + 1) (x :: ts) r
  | text {x : TR} {ts : List TR} {n : Nat} {r : Res} {a b : Addr} : x.Ok → ts.length ≤ 50 → x.rnd = false → x.kl = .text a → x.kr = .text b → eqK x.kl x.kr = false → Runs P R n ts r → Runs P R (n + 1) (x :: ts) r
  | even {x : TR} {ts : List TR} {n : Nat} {r : Res} {a b : Addr} {ka kb ka' kb' : Kd} : x.Ok → ts.length ≤ 50 → x.rnd = false → x.kl = .cons a → x.kr = .cons b → eqK x.kl x.kr = false →
      ConsK P R a ka kb → ConsK P R b ka' kb' → x.t % 2 = 0 → Runs P R n (⟨ka, ka', ka, ka', x.d + 1, 0⟩ :: ⟨kb, kb', x.ksl, x.ksr, x.d, x.t + 1⟩ :: ts) r → Runs P R (n + 1) (x :: ts) r
  | odd {x : TR} {ts : List TR} {n : Nat} {r : Res} {a b c e : Addr} {ka kb ka' kb' kc kd ke kf : Kd} : x.Ok → ts.length ≤ 50 → x.rnd = false → x.kl = .cons a → x.kr = .cons b → eqK x.kl x.kr = false →
      ConsK P R a ka kb → ConsK P R b ka' kb' → x.ksl = .cons c → x.ksr = .cons e → ConsK P R c kc kd → ConsK P R e ke kf → x.t % 2 = 1 →
      Runs P R n (⟨ka, ka', ka, ka', x.d + 1, 0⟩ :: ⟨kb, kb', kd, kf, x.d, x.t + 1⟩ :: ts) r → Runs P R (n + 1) (x :: ts) r
/-- the stack of tasks: what waits (the last is taken first), the ledger's part, the tasks (the first is taken first) -/
inductive Stk (P : Params) (R : List (Addr × Obj)) : List Value → List (Addr × Obj) → List TR → Prop where
  | nil : Stk P R [] [] []
  | cons {pre : List Value} {led : List (Addr × Obj)} {ts : List TR} {x : TR} (a dx : Addr) (k0 k1 k2 k3 k4 k5 td t0 : Tok) (l r sl sr : Value) : IsV P R l x.kl → IsV P R r x.kr → IsV P R sl x.ksl → IsV P R sr x.ksr →
      Stk P R pre led ts → Stk P R (pre ++ [.ref a]) ((a, instObj 250 dx) :: (dx, taskDict P k0 k1 k2 k3 k4 k5 l r (.int x.d td) (.int x.t t0) sl sr) :: led) (x :: ts)
theorem Stk.len {P : Params} {R : List (Addr × Obj)} {pre : List Value} {led : List (Addr × Obj)} {ts : List TR} (S : Stk P R pre led ts) : pre.length = ts.length := by
  induction S with
  | nil => rfl
  | cons _ _ _ _ _ _ _ _ _ _ _ _ _ _ _ _ _ _ _ ih => simp [ih]
def canon (m₀ u : Str → Option Value) (k : Int) (tk : Tok) : Str → Option Value := fun y =>
  if y = Str.ofString "steps" then some (.int k tk) else if y = Str.ofString "left" then u y else if y = Str.ofString "right" then u y else if y = Str.ofString "parts" then u y else m₀ y
theorem canon_of {m₀ m : Str → Option Value} {k : Int} {tk : Tok} (h1 : m (Str.ofString "steps") = some (.int k tk))
    (h2 : ∀ z, z ≠ Str.ofString "steps" → z ≠ Str.ofString "left" → z ≠ Str.ofString "right" → z ≠ Str.ofString "parts" → m z = m₀ z) : m = canon m₀ m k tk := by
  funext y
  unfold canon
  by_cases a : y = Str.ofString "steps"
  · rw [if_pos a, a, h1]
  · by_cases b : y = Str.ofString "left"
    · rw [if_neg a, if_pos b]
    · by_cases c : y = Str.ofString "right"
      · rw [if_neg a, if_neg b, if_pos c]
      · by_cases d : y = Str.ofString "parts"
        · rw [if_neg a, if_neg b, if_neg c, if_pos d]
        · rw [if_neg a, if_neg b, if_neg c, if_neg d, h2 y a b c d]
/-- what holds between the turns -/
def JJ (P : Params) (R : List (Addr × Obj)) (res : Res) (m₀ : Str → Option Value) (W c : Addr) (n : Nat) (m : Str → Option Value) (news : List (Addr × Obj)) : Prop :=
  ∃ (u : Str → Option Value) (k : Int) (tk : Tok) (pre : List Value) (led : List (Addr × Obj)) (ts : List TR) (nW : Nat) (oc : Obj) (vc : Option Value),
    m = canon m₀ u k tk ∧ news = (W, PySem.W.listOf pre.toArray nW) :: (c, oc) :: led ∧ oc.data = .cell vc ∧ Stk P R pre led ts ∧ Runs P R n ts res ∧ (W :: c :: led.map (·.1)).Nodup ∧ 0 ≤ k ∧ k + n ≤ 8000000
section
variable {prog : Program} {w : World} {A : Around} {E : Value → Shared → Prop} {Q : Flow → Shared → Prop} {s : Shared} {env : Env} {h₀ : Heap} {L : Addr} {P : Params} {R : List (Addr × Obj)} {res : Res} {m₀ : Str → Option Value} {W c : Addr}
theorem loop_rule {test : Expr} {body : List Stmt} {pos : Pos} {pre : List Value} {led : List (Addr × Obj)} {ts : List TR} {nW : Nat} {oc : Obj} {vc : Option Value} {k : Int} {tk : Tok} {n : Nat}
    (F : Fr h₀ L s.heap m₀) (N : News h₀ L s.heap ((W, PySem.W.listOf pre.toArray nW) :: (c, oc) :: led)) (hs : m₀ (Str.ofString "steps") = some (.int k tk)) (hc : oc.data = .cell vc) (S : Stk P R pre led ts) (hr : Runs P R n ts res)
    (hnd : (W :: c :: led.map (·.1)).Nodup) (hk : 0 ≤ k) (hkn : k + n ≤ 8000000)
    (turn : ∀ (n : Nat) h₁ tk₁ (u : Str → Option Value) (k : Int) (tk : Tok) (pre : List Value) (led : List (Addr × Obj)) (ts : List TR) (nW : Nat) (oc : Obj) (vc : Option Value),
      Fr h₀ L h₁ (fun y => if y = Str.ofString "steps" then some (.int k tk) else if y = Str.ofString "left" then u y else if y = Str.ofString "right" then u y else if y = Str.ofString "parts" then u y else m₀ y) → News h₀ L h₁ ((W, PySem.W.listOf pre.toArray nW) :: (c, oc) :: led) → oc.data = .cell vc → Stk P R pre led ts → Runs P R n ts res → (W :: c :: led.map (·.1)).Nodup → 0 ≤ k → k + n ≤ 8000000 →
      wpAny (model prog w) A (isTrue test env (eval test env)) (fun b s₂ =>
        if b = true then wpAny (model prog w) A (execs body env) (WhileStep2 h₀ L s (JJ P R res m₀ W c) Q n) E s₂ else Q .next s₂) E { s with heap := h₁, toks := tk₁ })
    (hE : PassesOwn (model prog w) A env E) :
    wpAny (model prog w) A (exec (.While test body [] pos) env) Q E s := by
  refine While_inv2 (JJ P R res m₀ W c) F N ⟨m₀, k, tk, pre, led, ts, nW, oc, vc, canon_of hs (fun _ _ _ _ _ => rfl), rfl, hc, S, hr, hnd, hk, hkn⟩ ?_ hE
  rintro n m₁ news₁ h₁ tk₁ F₁ N₁ ⟨u, k, tk, pre, led, ts, nW, oc, vc, rfl, rfl, hc, S, hr, hnd, hk, hkn⟩
  exact turn n h₁ tk₁ u k tk pre led ts nW oc vc F₁ N₁ hc S hr hnd hk hkn
theorem step_end {pre : List Value} {led : List (Addr × Obj)} {ts : List TR} {nW : Nat} {oc : Obj} {vc : Option Value} {k : Int} {tk : Tok} {n n' : Nat} {f : Flow} {m' : Str → Option Value} {all : List (Addr × Obj)} {h' : Heap} {tk' : Nat}
    (F : Fr h₀ L h' m') (N : News h₀ L h' all) (hm1 : m' (Str.ofString "steps") = some (.int k tk))
    (hm2 : ∀ z, z ≠ Str.ofString "steps" → z ≠ Str.ofString "left" → z ≠ Str.ofString "right" → z ≠ Str.ofString "parts" → m' z = m₀ z)
    (hsub : ∀ p ∈ (W, PySem.W.listOf pre.toArray nW) :: (c, oc) :: led, p ∈ all) (hc : oc.data = .cell vc) (S : Stk P R pre led ts) (hr : Runs P R n' ts res) (hn : n' < n)
    (hnd : (W :: c :: led.map (·.1)).Nodup) (hk : 0 ≤ k) (hkn : k + n' ≤ 8000000) (hf : f = .next ∨ f = .cont) :
    WhileStep2 h₀ L s (JJ P R res m₀ W c) Q n f { s with heap := h', toks := tk' } := by
  have x : ∃ h'' tk m₂ news₂ n', ({ s with heap := h', toks := tk' } : Shared) = { s with heap := h'', toks := tk } ∧ Fr h₀ L h'' m₂ ∧ News h₀ L h'' news₂ ∧ n' < n ∧ JJ P R res m₀ W c n' m₂ news₂ :=
    ⟨h', tk', m', _, n', rfl, F, fun p hp => N p (hsub p hp), hn, m', k, tk, pre, led, ts, nW, oc, vc, canon_of hm1 hm2, rfl, hc, S, hr, hnd, hk, hkn⟩
  rcases hf with rfl | rfl <;> exact x
end
theorem ConsIn.mono {P : Params} {R R' : List (Addr × Obj)} {x : Addr} {a b : Value} (h : ConsIn P R x a b) (hs : ∀ p ∈ R, p ∈ R') : ConsIn P R' x a b := by obtain ⟨d, t1, t2, a1, a2⟩ := h; exact ⟨d, t1, t2, hs _ a1, hs _ a2⟩
theorem TextIn.mono {P : Params} {R R' : List (Addr × Obj)} {x : Addr} (h : TextIn P R x) (hs : ∀ p ∈ R, p ∈ R') : TextIn P R' x := by obtain ⟨d, c, t1, t2, t3, n, a1, a2, a3⟩ := h; exact ⟨d, c, t1, t2, t3, n, hs _ a1, hs _ a2, hs _ a3⟩
theorem IsV.mono {P : Params} {R R' : List (Addr × Obj)} {v : Value} {k : Kd} (V : IsV P R v k) (hs : ∀ p ∈ R, p ∈ R') : IsV P R' v k := by
  cases V with
  | int i t => exact .int i t
  | nil => exact .nil
  | cons x a b h => exact .cons x a b (h.mono hs)
  | text x h => exact .text x (h.mono hs)
theorem ns_some_of {K : Frag} {h : Heap} {N : Addr} {mg : Str → Option Value} {n : Str} {v : Value} (X : K.In h) (G : h.Ns N mg) (e : nsIn K N n = some (some v)) : mg n = some v := by
  obtain ⟨o, es, ep, ho, hd, _, hf⟩ := G
  unfold nsIn at e
  split at e
  · rename_i c d es' n' sl q
    have hx := X _ _ q
    rw [ho] at hx
    cases hx
    cases hd
    split at e
    · rename_i en he
      rw [← hf]
      unfold nsFind findBy
      rw [← Array.find?_toList, he]
      simpa using e
    · split at e <;> cases e
  · cases e
/-- LispSignal as the head leaves it -/
theorem exc_cls {P : Params} {h : Heap} (X : (hd.heap_39 P).In h) (mark : PySem.Challenge.rw_pq0276_01 = PySem.Challenge.rw_pq0276_01) :
    ∃ nm q bs sn sub ab col dd k0 k1 k2 k3 k5 mN, h.get? 38 = some (excClassObj nm q 38 37 bs [.type "Exception", .type "BaseException", .type "object"] true sn sub ab col dd k0 k1 k2 k3 k5 "Exception.__new__") ∧ h.Ns 37 mN ∧
      mN "__init__" = some (.ref 35) ∧ mN "__setattr__" = none ∧ mN "__getattribute__" = none ∧ mN "__getattr__" = none ∧ mN "symbol" = none ∧ mN "data" = none := by
  revert X mark; k_fill; intro X _
  have ok : nsOkIn (hd.heap_39 P) 37 = true := by
    unfold nsOkIn
    rw [show (hd.heap_39 P).lookup 37 = some _ from by k_is]
    first | kernel_rfl | simp
  have G := Heap.Ns.of_isNs (isNs_of_in X ok)
  refine ⟨_, _, _, _, _, _, _, _, _, _, _, _, _, _, X 38 _ (by k_is), G, ns_some_of X G (by k_is), ?_, ?_, ?_, ?_, ?_⟩
  all_goals exact ns_none_of X G (by k_is)
theorem exc_fn {P : Params} {h : Heap} (X : (hd.heap_39 P).In h) (mark : PySem.Challenge.rw_pq0276_01 = PySem.Challenge.rw_pq0276_01) : ∃ o, h.get? 35 = some o ∧ o.cls = .type "function" := by
  revert X mark; k_fill; intro X _
  exact ⟨_, X 35 _ (by k_is), rfl⟩
section
open Builtin Builtin.ObjectAttr
variable {prog : Program} {w : World} {A : Around} {E : Value → Shared → Prop} {h : Heap} {g : Array GenState} {d : Drawn} {t : Nat} {os : OsState}
variable {nm q : Str} {C N x : Addr} {bs : List Value} {sn : List Str} {sub : List Value} {ab : Bool} {col : Option Bool} {dd : Option Addr} {k0 k1 k2 k3 k5 : Option Value} {B newId sa owner : String} {bm : List Value} {mN mA : Str → Option Value} {name : Str} {v : Value} {o : Obj}
/-- the first attribute of an exception of an own class: its dict is made -/
theorem exc_entry1 {tk : Tok} {Q : Fin → Shared → Prop} (SF : StoreFacts B bm sa owner) (hC : h.get? C = some (excClassObj nm q C N bs bm true sn sub ab col dd k0 k1 k2 k3 k5 newId)) (hn : h.Ns N mN) (hna : mN name = none)
    (hB : typeLookup (.type B) name = pure none) (hx : h.get? x = some o) (hc : o.cls = .ref C) (hdn : o.dict = none) (hnc : ∀ c, o.data ≠ .cls c)
    (hq : ∀ h' tk', h'.Ns1 h.objs.size (fun y => if y = name then some v else none) → h'.get? x = some { o with dict := some h.objs.size } → (∀ b o', b ≠ x → h.get? b = some o' → h'.get? b = some o') → Q (.done (.ret .none)) ⟨h', g, d, tk', os⟩) :
    wpAny (model prog w) A (Builtin.«object.__setattr__» ⟨[.ref x, .str name tk, v], []⟩) Q E ⟨h, g, d, t, os⟩ := by
  have pass := SF.passes (.ref x)
  have lt := Heap.lt_size hx
  have nx : x ≠ h.objs.size := Nat.ne_of_lt lt
  unfold Builtin.«object.__setattr__»
  repeat (first | rw [refuse_eq] | (rw [refuseLoop_ref, pass]) | (with_reducible refine wpAny_loadPart_at hx ?_; rw [hc]) | with_reducible refine wpAny_mroOf_exc hC ?_ | (with_reducible refine wpAny_typeLookup_exc hC hn SF.mro hB ?_; rw [hna]) | wp_step)
  rw [hdn, if_neg (by simp [typeHasDict])]
  split
  · rename_i q; cases q
  split
  · rename_i c q; exact absurd q (hnc c)
  have a1 : (h.push { cls := .type "dict", data := .dict #[] }).get? x = some o := Heap.get?_push_of_some _ hx
  refine wpAny_bind (wpAny_alloc' (wpAny_bind (wpAny_update' a1 (wpAny_pure ?_))))
  generalize hU : ((h.push { cls := .type "dict", data := .dict #[] }).update x fun o => { cls := o.cls, dict := some h.objs.size, data := o.data, slots := o.slots }) = U
  have b1 : U.get? h.objs.size = some { cls := .type "dict", data := .dict #[] } := by
    rw [← hU]; exact (Heap.get?_update_ne _ _ _ _ nx.symm).trans (Heap.get?_push_at rfl rfl)
  have b2 : U.get? x = some { o with dict := some h.objs.size } := by
    rw [← hU]
    refine Heap.get?_update_self _ a1 ?_
    have fr := (Heap.get?_some_iff.mp hx).2
    obtain ⟨oc, od, odt, osl⟩ := o
    cases odt <;> first | rfl | exact fr
  have b3 : ∀ b o', b ≠ x → h.get? b = some o' → U.get? b = some o' := fun b o' nb e => by
    rw [← hU]; exact (Heap.get?_update_ne _ _ _ _ nb).trans (Heap.get?_push_of_some _ e)
  have b4 : U.Ns h.objs.size (fun _ => none) := ⟨_, #[], _, b1, rfl, fun e he => absurd he (by simp), fun _ => rfl⟩
  show wpAny _ _ (storeInDict h.objs.size (.str name tk) name v) _ _ _
  unfold storeInDict newKeyGuard
  refine wpAny_bind (wpAny_pure (wpAny_bind (wpAny_nsSet1 (Heap.Ns1.of_empty b4) fun h' hn' hs => ?_)))
  obtain ⟨oD, esD, epD, hoD, hdD, hcD⟩ := hn'.count (Within.cons name v Within.nil)
  refine wpAny_bind (wpAny_lookBehind hoD (by rw [hdD]; exact pastItsLine_dict (Nat.le_trans hcD (by rw [List.length_cons, List.length_nil, sizeLine_eq]; omega))) ?_)
  wp_walk
  exact hq h' _ hn' ((hs.2 x nx).trans b2) fun b o' nb e => (hs.2 b (Nat.ne_of_lt (Heap.lt_size e))).trans (b3 b o' nb e)
end
theorem notCls_of {o : Obj} (hnc : notCls o = true) : ∀ c, o.data ≠ .cls c := by
  intro c q
  unfold notCls at hnc
  rw [q] at hnc
  cases hnc
section
variable {prog : Program} {w : World} {A : Around} {h : Heap} {g : Array GenState} {d : Drawn} {t : Nat} {os : OsState}
variable {nm q : Str} {C N x : Addr} {bs : List Value} {sn : List Str} {sub : List Value} {ab : Bool} {col : Option Bool} {dd : Option Addr} {k0 k1 k2 k3 k5 : Option Value} {B newId sa owner : String} {bm : List Value} {mN mA : Str → Option Value} {name : Str} {v : Value} {o : Obj}
theorem exc_call1 {tk : Tok} {R : Result → Shared → Prop} (SF : StoreFacts B bm sa owner) (hC : h.get? C = some (excClassObj nm q C N bs bm true sn sub ab col dd k0 k1 k2 k3 k5 newId)) (hn : h.Ns N mN) (hna : mN name = none)
    (hB : typeLookup (.type B) name = pure none) (hx : h.get? x = some o) (hc : o.cls = .ref C) (hdn : o.dict = none) (hnc : ∀ c, o.data ≠ .cls c)
    (hq : ∀ h' tk', h'.Ns1 h.objs.size (fun y => if y = name then some v else none) → h'.get? x = some { o with dict := some h.objs.size } → (∀ b o', b ≠ x → h.get? b = some o' → h'.get? b = some o') → R (.ok (.ret .none)) ⟨h', g, d, tk', os⟩) :
    codeAny (model prog w) A (.call (.builtin sa) ⟨[.ref x, .str name tk, v], []⟩) R ⟨h, g, d, t, os⟩ :=
  codeAny_call_builtin SF.slot.plain SF.entry (wpAny_check_sa SF hC hx hc (exc_entry1 SF hC hn hna hB hx hc hdn hnc hq))
end
theorem sym_miss : typeLookup (.type "Exception") (Str.ofString "symbol") = pure none := by rw [typeLookup_type, builtinLookup_eq_fast]; kernel_rfl
theorem data_miss : typeLookup (.type "Exception") (Str.ofString "data") = pure none := by rw [typeLookup_type, builtinLookup_eq_fast]; kernel_rfl
/-- the first attribute of a LispSignal -/
theorem exc_store1 {w : World} {A : Around} {E : Value → Shared → Prop} {s : Shared} {x : Addr} {o : Obj} {v : Value} {Q : Unit → Shared → Prop} (X : (hd.heap_39 w.params).In s.heap) (mark : PySem.Challenge.rw_pq0276_01 = PySem.Challenge.rw_pq0276_01)
    (hx : s.heap.get? x = some o) (hc : o.cls = .ref 38) (hdn : o.dict = none) (hnc : notCls o = true)
    (hq : ∀ h' tk', h'.Ns1 s.heap.objs.size (fun y => if y = Str.ofString "symbol" then some v else none) → h'.get? x = some { o with dict := some s.heap.objs.size } → (∀ b o', b ≠ x → s.heap.get? b = some o' → h'.get? b = some o') → Q () { s with heap := h', toks := tk' }) :
    wpAny (model PySem.Challenge.rw_pq0276_01.row.toRowW.prog w) A (setAttr (.ref x) (Str.ofString "symbol") v) Q E s := by
  have hs : findIn (hd.heap_39 w.params) (.ref 38) "__setattr__" = some (some (.builtin "object.__setattr__")) := by
    revert X mark; k_fill; intro X _; k_is
  obtain ⟨h, g, d, t, os⟩ := s
  obtain ⟨nm, q, bs, sn, sub, ab, col, dd, k0, k1, k2, k3, k5, mN, hC, hn, h1, h2, h3, h4, h5, h6⟩ := exc_cls X rfl
  have I : PySem.W.InstAt h x o 38 none := ⟨hx, hc, hnc, by rw [hdn]; trivial⟩
  exact set_plain X I hs (exc_call1 PySem.F.store_Exception hC hn h5 sym_miss hx hc hdn (notCls_of hnc) hq)

theorem exc_store2 {w : World} {A : Around} {E : Value → Shared → Prop} {s : Shared} {x dx : Addr} {o : Obj} {v v1 : Value} {Q : Unit → Shared → Prop} (X : (hd.heap_39 w.params).In s.heap) (hx : s.heap.get? x = some o) (hc : o.cls = .ref 38) (hdx : o.dict = some dx) (hne : dx ≠ x) (hnc : notCls o = true) (hx38 : x ≠ 38)
    (hns : s.heap.Ns1 dx (fun y => if y = Str.ofString "symbol" then some v1 else none))
    (hq : ∀ h' tk', h'.Ns1 dx (fun y => if y = Str.ofString "data" then some v else if y = Str.ofString "symbol" then some v1 else none) → h'.get? x = some o → (∀ b o', b ≠ dx → s.heap.get? b = some o' → h'.get? b = some o') → Q () { s with heap := h', toks := tk' }) :
    wpAny (model PySem.Challenge.rw_pq0276_01.row.toRowW.prog w) A (setAttr (.ref x) (Str.ofString "data") v) Q E s := by
  obtain ⟨h, g, d, t, os⟩ := s
  obtain ⟨nm, q, bs, sn, sub, ab, col, dd, k0, k1, k2, k3, k5, mN, hC, hn, h1, h2, h3, h4, h5, h6⟩ := exc_cls X rfl
  refine store_attr PySem.F.store_Exception hC hn h2 h6 data_miss hx38 (mA := fun y => if y = Str.ofString "symbol" then some v1 else none) ⟨o, hx, hc, notCls_of hnc, .inr ⟨dx, hdx, hne, hns⟩⟩ (fun h' tk' I keep same => ?_) (hw := Within.cons (Str.ofString "symbol") v1 Within.nil) (hsz := by size_fits)
  obtain ⟨o1, e1, e2, e3, e4, e5⟩ := same o hx
  have eo : o1 = o := by
    obtain ⟨a1, a2, a3, a4⟩ := o1
    obtain ⟨b1, b2, b3, b4⟩ := o
    have := e5 dx hdx
    dsimp only at e2 e3 e4 this hdx
    rw [e2, e3, e4, this, hdx]
  subst eo
  obtain ⟨o2, f1, _, _, f4⟩ := I
  have : o2 = o1 := Option.some.inj (f1.symm.trans e1)
  subst this
  rcases f4 with ⟨f5, _⟩ | ⟨d2, f5, _, f7⟩
  · rw [hdx] at f5; cases f5
  · have : d2 = dx := Option.some.inj (f5.symm.trans hdx)
    subst this
    refine hq h' tk' f7 e1 fun b o' nb e => ?_
    by_cases hb : b = x
    · subst hb
      have : o' = o2 := Option.some.inj (e.symm.trans hx)
      rw [this]; exact e1
    · exact keep b o' hb (fun o₀ dx' q1 q2 => by
        have : o₀ = o2 := Option.some.inj (q1.symm.trans hx)
        subst this
        have : dx' = d2 := Option.some.inj (q2.symm.trans hdx)
        rw [this]; exact nb) e
theorem fr_one {g h h' : Heap} {L x : Addr} {m : Str → Option Value} (F : Fr g L h m) (k : ∀ b o, b ≠ x → h.get? b = some o → h'.get? b = some o) (hL : x ≠ L) (hg : g.get? x = none) : Fr g L h' m :=
  ⟨F.ns.at' fun o e => k L o (Ne.symm hL) e, fun b o e => k b o (fun q => by rw [q, hg] at e; cases e) (F.keep b o e), F.above⟩
abbrev excObj (t : Addr) (d : Option Addr) : Obj := { cls := .ref 38, dict := d, data := .fields #[.ref t, .none, .none, .none, .bool false, .none] }
section
theorem exc_init_spec {w : World} {mean : ExcName → Option Value} {mg mb : Str → Option Value} {A A₀ : Around} {base h₀ : Heap} {outer : List Env} {L : Addr} {env : Env} {s : Shared} {m : Str → Option Value} {Q E : Value → Shared → Prop} {e t : Addr} {v1 v2 : Value} (X : (hd.heap_39 w.params).In h₀) (S : Site 450 4500 mean mg mb A A₀ base outer h₀ L env s m) (N : News h₀ L s.heap [(e, excObj t none)])
    (h : ∀ h' tk' d m1, Fr h₀ L h' m → But s.heap [e] h' → h'.get? e = some (excObj t (some d)) → h'.Ns1 d m1 → m1 (Str.ofString "symbol") = some v1 → s.heap.get? d = none → d ≠ e → Q .none { s with heap := h', toks := tk' }) :
    wpAny (model PySem.Challenge.rw_pq0276_01.row.toRowW.prog w) A (call (.ref 35) [.ref e, v1, v2]) Q E s := by
  revert X; k_fill; intro X
  obtain ⟨h1, h2, h3, h4, B, F, T, he, hk⟩ := S
  refine toTop h1 h2 h3 h4 ?_
  refine wpAny_call ?_
  (k_dflt (refine' code_own ?k1 ?k2 ?k3 ?k4 ?k5 ?kA ?kF ?kK ?k6 ?k7 ?k8 ?k9 ?kB ?_ ?c2 ?c3 ?c4 ?c5; (case kA => exact rfl); (case kF => assumption); (case kK => assumption); (case k1 => k_asm); (case k2 => k_asm); (case k3 => k_asm); (case k4 => exact N); (case k5 => k_asm); (case k6 => k_is); (case k7 => k_is); (case k8 => k_room); (case k9 => first | exact BindsTo.of_eq rfl | exact binds_K (by k_in) rfl (by k_is) rfl rfl rfl); (case c5 => decide); (case kB => exact locs rfl); (case c2 => exact rfl); (case c3 => exact rfl); (case c4 => exact rfl); k_whole; intro g' L' h' HG' FG' F' N' B' X' T'; (try dsimp only); (try k_fold)))
  repeat' ((fail_if_success (with_reducible show wpAny _ _ (setAttr _ _ _) _ _ _)); (first | (k_unfold; (try dsimp only)) | (k_end; wrow_close) | walk1 | (dsimp only; walk1) | (leave1; walk_say "STEP leave1"; try dsimp only) | fail "no step"))
  have ge : g'.get? e = none := (N' _ (.head _)).2.2
  have eL : e ≠ L' := (N' _ (.head _)).2.1
  refine exc_store1 (X'.keeps F'.keep) rfl (N' _ (.head _)).1 rfl rfl rfl (fun ha tka n1 x1 k1 => ?_)
  have Fa := fr_one F' k1 eL ge
  repeat' ((fail_if_success (with_reducible show wpAny _ _ (setAttr _ _ _) _ _ _)); (first | (k_unfold; (try dsimp only)) | (k_end; wrow_close) | walk1 | (dsimp only; walk1) | (leave1; walk_say "STEP leave1"; try dsimp only) | fail "no step"))
  generalize hd9 : ({ heap := h', gens := s.gens, drawn := s.drawn, toks := _, os := s.os } : Shared).heap.objs.size = d9 at n1 x1
  dsimp only at hd9
  have he9 : e < h'.objs.size := Heap.lt_size (N' _ (.head _)).1
  have ne9 : d9 ≠ e := by rw [← hd9]; exact Nat.ne_of_gt he9
  have L9 : d9 ≠ L' := by rw [← hd9]; exact Nat.ne_of_gt F'.ns.lt
  have none9 : h'.get? d9 = none := by rw [← hd9]; exact Heap.get?_none_of_le (Nat.le_refl _)
  have g9 : g'.get? d9 = none := by
    cases q : g'.get? d9 with
    | none => rfl
    | some o' => have := F'.keep _ _ q; rw [none9] at this; cases this
  have s9 : s.heap.get? d9 = none := by
    cases q : s.heap.get? d9 with
    | none => rfl
    | some o' =>
      have z := HG' _ _ q (by simp only [List.map_cons, List.map_nil, List.mem_cons, List.not_mem_nil, or_false]; exact ne9)
      rw [g9] at z; cases z
  have e38 : e ≠ 38 := fun q => by
    obtain ⟨nm, q1, bs, sn, sub, ab, col, dd, k0, k1, k2, k3, k5, mN, hC, _⟩ := exc_cls X' rfl
    rw [q, hC] at ge; cases ge
  refine exc_store2 (X'.keeps Fa.keep) x1 rfl rfl ne9 rfl e38 n1 (fun hb tkb n2 x2 k2 => ?_)
  have Fb := fr_one Fa k2 L9 g9
  have Nb : News g' L' hb [] := News.nil
  k_steps
  exact h _ _ d9 _ (by k_asm) (But.fr HG' Fb) x2 n2 (by rw [if_neg (by decide), if_pos rfl]) s9 ne9
end

theorem exc_new {w : World} {mean : ExcName → Option Value} {mg mb : Str → Option Value} {A A₀ : Around} {base h₀ : Heap} {outer : List Env} {L : Addr} {env : Env} {s : Shared} {m : Str → Option Value} {Q E : Value → Shared → Prop} {v1 v2 : Value} (X : (hd.heap_39 w.params).In h₀) (S : Site 420 4200 mean mg mb A A₀ base outer h₀ L env s m)
    (h : ∀ h' tk' e t d m1, Fr h₀ L h' m → s.heap.StaysIn h' → h'.get? e = some (excObj t (some d)) → h'.Ns1 d m1 → m1 (Str.ofString "symbol") = some v1 → s.heap.get? e = none → s.heap.get? d = none → d ≠ e → Q (.ref e) { s with heap := h', toks := tk' }) :
    wpAny (model PySem.Challenge.rw_pq0276_01.row.toRowW.prog w) A (call (.ref 38) [v1, v2]) Q E s := by
  have Xs := X.keeps S.F.keep
  obtain ⟨nm, q, bs, sn, sub, ab, col, dd, k0, k1, k2, k3, k5, mN, hC, hn, a1, a2, a3, a4, a5, a6⟩ := exc_cls Xs rfl
  obtain ⟨fo, hf, hfc⟩ := exc_fn Xs rfl
  obtain ⟨h1, h2, h3, h4, B, F, T, he, hk⟩ := S
  obtain ⟨hh, g, dr, tt, os⟩ := s
  refine wpAny_call_exc_init PySem.F.excBase_Exception hC hn a1 hf hfc (fun h' e hm => ?_) (hrest := by simp [sizeLine_eq])
  obtain ⟨t, e1, e2, e3⟩ := hm.there
  have F1 : Fr h₀ L h' m := Fr.stay F hm.keeps
  obtain ⟨oL, _, _, eL, _⟩ := F.ns
  have neL : e ≠ L := fun q => by
    have := hm.new
    rw [q, eL] at this; cases this
  have e0 : h₀.get? e = none := by
    cases q : h₀.get? e with
    | none => rfl
    | some o' => have := F.keep _ _ q; rw [hm.new] at this; cases this
  have N : News h₀ L h' [(e, excObj t none)] := fun p hp => by
    rcases List.mem_singleton.mp hp with rfl
    exact ⟨e1, neL, e0⟩
  refine exc_init_spec (s := ⟨h', g, dr, tt, os⟩) X ⟨h1, by rw [depth_under_make]; omega, h3, by rw [units_under_make]; omega, B, F1, T, he, hk⟩ N (fun h2 tk2 d m1 F2 K2 x2 n2 y2 z2 w2 => ⟨rfl, ?_⟩)
  have st : hh.StaysIn h2 := fun b o q => K2 b o (hm.keeps b o q) (by
    simp only [List.mem_cons, List.not_mem_nil, or_false]
    intro hb; rw [hb, hm.new] at q; cases q)
  refine h h2 tk2 e t d m1 F2 st x2 n2 y2 hm.new ?_ w2
  cases q : hh.get? d with
  | none => rfl
  | some o' => have := hm.keeps _ _ q; rw [z2] at this; cases this
theorem raise_rule {w : World} {A : Around} {E : Value → Shared → Prop} {s : Shared} {env : Env} {ex : Expr} {pos : Pos} {Q : Flow → Shared → Prop} (hh : A.handled = none)
    (h : wpAny (model PySem.Challenge.rw_pq0276_01.row.toRowW.prog w) A (eval ex env) (fun v s₁ => ∃ e t d, v = .ref e ∧ (hd.heap_39 w.params).In s₁.heap ∧ s₁.heap.get? e = some (excObj t (some d)) ∧ E (.ref e) s₁) E s) :
    wpAny (model PySem.Challenge.rw_pq0276_01.row.toRowW.prog w) A (exec (.Raise (some ex) none pos) env) Q E s := by
  rw [arm_exec_Raise]
  refine wpAny_bind (wpAny_standAt ?_)
  show wpAny _ A (raiseStmt env (some (do let v ← eval ex env; standAt pos; pure v)) none) Q E s
  unfold raiseStmt
  refine wpAny_bind (wpAny_bind (wpAny_mono h (fun v s₁ h₁ => ?_) fun _ _ x => x))
  obtain ⟨e, t, d, rfl, X, he, hE⟩ := h₁
  obtain ⟨nm, q, bs, sn, sub, ab, col, dd, k0, k1, k2, k3, k5, mN, hC, _⟩ := exc_cls X rfl
  obtain ⟨hp, g, dr, tk, os⟩ := s₁
  have hcB : (Value.ref 38 :: [Value.type "Exception", .type "BaseException", .type "object"]).contains (.type "BaseException") = true := by decide
  refine wpAny_bind (wpAny_standAt (wpAny_pure ?_))
  repeat (first | with_reducible refine wpAny_loadPart_at he ?_ | with_reducible refine wpAny_loadPart_at hC ?_ | (with_reducible refine wpAny_isSubtype_exc hC ?_; rw [hcB]) | wp_step)
  exact wpAny_raiseNew_none hh hE

section
variable {M : Model} {A : Around} {E : Value → Shared → Prop} {s : Shared}
theorem dict_mapFields (f : Array Value → Array Value) (o : Obj) : (o.mapFields f).dict = o.dict := by
  obtain ⟨c, d, dt, sl⟩ := o
  cases dt <;> rfl
/-- a frame's entry is written into the exception e: what stays -/
theorem entry_exc {base : Heap} {env : Env} {outer : List Env} {L e : Addr} {oe : Obj} {vs : Array Value} {head : Value} {hadNext : Bool} {Q : Unit → Shared → Prop}
    (hfr : A.frames = some (env :: outer)) (hl : s.heap.FunFrames base (env :: outer)) (hf : env.frame = some L) (he : s.heap.get? e = some oe) (hkb : base.StaysIn s.heap) (hen : base.get? e = none) (hd : oe.data = .fields vs) (hsz : 1 < vs.size)
    (h : ∀ h' T oT ts, base.StaysIn h' → h'.FunFrames base (env :: outer) → s.heap.UpToSlots h' → h'.get? e = some (oe.mapFields (·.setIfInBounds 1 (.ref T))) → base.get? T = none → T ≠ e → h'.get? T = some oT → oT.data = .fields ts → ts[3]? = some (rawInt L) → Q () { s with heap := h' }) :
    wpAny M A (do let a ← frameOf env; let pl ← entryPlaceOf L hadNext; let b ← EntryCells.newEntry head a .none (rawInt L) .none pl; setField (.ref e) 1 b) Q E s := by
  have notIn : e ∉ (env :: outer).filterMap (·.frame) := fun hm => by
    obtain ⟨_, o, ho, no⟩ := hl.mem hm
    rw [he] at ho; cases ho; exact no vs hd
  refine wpAny_bind (wpAny_frameOf_fun hfr hl hf fun h₁ fr => wpAny_bind (wpAny_entryPlaceOf fun pl hpl => ?_))
  unfold EntryCells.newEntry newFields
  refine wpAny_bind (wpAny_newObj_type ?_ (hpl.sizeOk5 _ _ _ _ _))
  have e1 : h₁.get? e = some oe := (fr.2.1 e notIn).trans he
  have b1 : base.StaysIn h₁ := fun b o q => (fr.2.1 b fun hm => by rw [(hl.mem hm).1] at q; cases q).trans (hkb b o q)
  generalize hT : ({ cls := .type "traceback", dict := none, data := .fields ([head, .ref L, .none, rawInt L, .none] ++ (if pl.isEmpty then List.replicate 6 Value.none else pl)).toArray } : Obj) = tb
  have tfree : tb.isFreed = false := by rw [← hT]; rfl
  have tdata : tb.data = .fields ([head, .ref L, .none, rawInt L, .none] ++ (if pl.isEmpty then List.replicate 6 Value.none else pl)).toArray := by rw [← hT]
  have e2 : (h₁.push tb).get? e = some oe := Heap.get?_push_of_some _ e1
  refine wpAny_setField e2 hd hsz ?_
  have ne : h₁.objs.size ≠ e := Nat.ne_of_gt (Heap.lt_size e1)
  have d3 := Obj.data_mapFields hd (·.setIfInBounds 1 (Value.ref h₁.objs.size))
  have keep : ∀ b o, b ≠ e → h₁.get? b = some o → ((h₁.push tb).update e (Obj.mapFields (·.setIfInBounds 1 (Value.ref h₁.objs.size)))).get? b = some o := fun b o nb q =>
    (Heap.get?_update_other _ _ (Ne.symm nb)).trans (Heap.get?_push_of_some _ q)
  have noRec : ∀ b o, s.heap.get? b = some o → (∀ vs, o.data ≠ .fields vs) → b ≠ e := fun b o q no z => by
    rw [z, he] at q; cases q; exact no vs hd
  refine h _ h₁.objs.size tb _ (fun b o q => keep b o (fun z => by rw [z, hen] at q; cases q) (b1 b o q)) (hl.of_keeps fun b o q no => ?_) (fun b o q no => ?_) (Heap.get?_update_self _ e2 (Obj.isFreed_of_fields d3)) b1.fresh ne ?_ tdata ?_
  · obtain ⟨sl, z⟩ := fr.2.2 b o q
    exact ⟨_, keep b _ (noRec b o q no) z, rfl⟩
  · obtain ⟨sl, z⟩ := fr.2.2 b o q
    exact ⟨sl, keep b _ (noRec b o q no) z⟩
  · exact (Heap.get?_update_other _ _ (Ne.symm ne)).trans (Heap.get?_push_size _ tfree)
  · rcases hpl with rfl | ⟨_, _, _, _, _, _, _, rfl⟩ <;> simp
/-- a LispSignal at e whose dict is d; fl: no entry yet, or the flight that its newest entry tells -/
def ExcAt (h base : Heap) (e d : Addr) (fl : Option Value) : Prop :=
  ∃ oe vs, h.get? e = some oe ∧ oe.cls = .ref 38 ∧ oe.dict = some d ∧ oe.data = .fields vs ∧ 1 < vs.size ∧
    (match fl with
      | none => vs[1]? = some .none
      | some f => ∃ T oT ts, vs[1]? = some (.ref T) ∧ base.get? T = none ∧ T ≠ e ∧ h.get? T = some oT ∧ oT.data = .fields ts ∧ ts[3]? = some f)
theorem note_exc {base : Heap} {env : Env} {outer : List Env} {L e d : Addr} {fl : Option Value} {Q : Unit → Shared → Prop} (hfr : A.frames = some (env :: outer)) (hl : s.heap.FunFrames base (env :: outer)) (hf : env.frame = some L) (hkb : base.StaysIn s.heap) (hen : base.get? e = none)
    (hx : ExcAt s.heap base e d fl) (hfl : fl = none ∨ fl = some .none)
    (h : ∀ h', base.StaysIn h' → h'.FunFrames base (env :: outer) → s.heap.UpToSlots h' → ExcAt h' base e d (some (rawInt L)) → Q () { s with heap := h' }) : wpAny M A (noteFrame (.ref e) env) Q E s := by
  obtain ⟨oe, vs, he, hc, hdi, hd, hsz, hk⟩ := hx
  have fin : ∀ h' T oT ts, base.StaysIn h' → h'.FunFrames base (env :: outer) → s.heap.UpToSlots h' → h'.get? e = some (oe.mapFields (·.setIfInBounds 1 (.ref T))) → base.get? T = none → T ≠ e → h'.get? T = some oT → oT.data = .fields ts → ts[3]? = some (rawInt L) → Q () { s with heap := h' } :=
    fun h' T oT ts a1 a2 a3 a4 a5 a6 a7 a8 a9 => h h' a1 a2 a3 ⟨_, _, a4, (Obj.cls_mapFields _ _).trans hc, (dict_mapFields _ _).trans hdi, Obj.data_mapFields hd _, by simpa using hsz, T, oT, ts, by simp [hsz], a5, a6, a7, a8, a9⟩
  unfold noteFrame
  simp only [hf]
  rcases hfl with rfl | rfl
  · refine wpAny_bind (wpAny_field he hd hk ?_)
    rw [if_neg (by decide)]
    exact entry_exc hfr hl hf he hkb hen hd hsz fin
  · obtain ⟨T, oT, ts, h1, hnT, hTe, hT, hdT, h3⟩ := hk
    refine wpAny_bind (wpAny_field he hd h1 ?_)
    rw [if_pos (show (Value.ref T != Value.none) = true from by simp)]
    refine wpAny_bind (wpAny_field hT hdT h3 ?_)
    rw [if_neg (show ¬ ((Value.none == rawInt L) = true) from by simp [rawInt])]
    refine wpAny_bind (wpAny_setField hT hdT (Array.getElem?_eq_some_iff.mp h3).1 ?_)
    generalize hU : s.heap.update T (Obj.mapFields (·.setIfInBounds 3 Value.none)) = U
    have oth : ∀ b, b ≠ T → U.get? b = s.heap.get? b := fun b nb => by rw [← hU]; exact Heap.get?_update_other _ _ (Ne.symm nb)
    have noT : ∀ b o, s.heap.get? b = some o → (∀ vs, o.data ≠ .fields vs) → b ≠ T := fun b o q no z => by
      rw [z, hT] at q; cases q; exact no ts hdT
    refine entry_exc (s := { s with heap := U }) hfr (hl.of_keeps fun b o q no => ⟨o, (oth b (noT b o q no)).trans q, rfl⟩) hf ((oth e (Ne.symm hTe)).trans he)
      (fun b o q => (oth b fun z => by rw [z, hnT] at q; cases q).trans (hkb b o q)) hen hd hsz fun h' T' oT' ts' a1 a2 a3 => fin h' T' oT' ts' a1 a2 fun b o q no => a3 b o ((oth b (noT b o q no)).trans q) no
theorem flight_exc {base : Heap} {l : List Env} {e d : Addr} {f : Value} {Q : Unit → Shared → Prop} (hl : s.heap.FunFrames base l) (hkb : base.StaysIn s.heap) (hx : ExcAt s.heap base e d (some f))
    (h : ∀ h', base.StaysIn h' → h'.FunFrames base l → s.heap.UpToSlots h' → ExcAt h' base e d (some .none) → Q () { s with heap := h' }) : wpAny M A (setFlight (.ref e) none) Q E s := by
  obtain ⟨oe, vs, he, hc, hdi, hd, hsz, T, oT, ts, h1, hnT, hTe, hT, hdT, h3⟩ := hx
  have s3 : 3 < ts.size := (Array.getElem?_eq_some_iff.mp h3).1
  unfold setFlight
  refine wpAny_bind (wpAny_field he hd h1 ?_)
  rw [if_pos (show (Value.ref T != Value.none) = true from by simp)]
  refine wpAny_setField hT hdT s3 ?_
  generalize hU : s.heap.update T (Obj.mapFields (·.setIfInBounds 3 ((none : Option Addr).elim Value.none fun f => rawInt f))) = U
  have oth : ∀ b, b ≠ T → U.get? b = s.heap.get? b := fun b nb => by rw [← hU]; exact Heap.get?_update_other _ _ (Ne.symm nb)
  have noT : ∀ b o, s.heap.get? b = some o → (∀ vs, o.data ≠ .fields vs) → b ≠ T := fun b o q no z => by
    rw [z, hT] at q; cases q; exact no ts hdT
  have T3 : U.get? T = some (oT.mapFields (·.setIfInBounds 3 ((none : Option Addr).elim Value.none fun f => rawInt f))) := by
    rw [← hU]; exact Heap.get?_update_self _ hT (Obj.isFreed_of_fields (Obj.data_mapFields hdT _))
  exact h U (fun b o q => (oth b fun z => by rw [z, hnT] at q; cases q).trans (hkb b o q)) (hl.of_keeps fun b o q no => ⟨o, (oth b (noT b o q no)).trans q, rfl⟩) (fun b o q no => ⟨o.slots, (oth b (noT b o q no)).trans q⟩)
    ⟨oe, vs, (oth e (Ne.symm hTe)).trans he, hc, hdi, hd, hsz, T, _, _, h1, hnT, hTe, T3, Obj.data_mapFields hdT _, by simp [s3]⟩
/-- the exception leaves a frame -/
theorem leave_exc {base : Heap} {env : Env} {outer : List Env} {L e d : Addr} {fl : Option Value} {Q : Unit → Shared → Prop} (hfr : A.frames = some (env :: outer)) (hl : s.heap.FunFrames base (env :: outer)) (hf : env.frame = some L) (hkb : base.StaysIn s.heap) (hen : base.get? e = none)
    (hx : ExcAt s.heap base e d fl) (hfl : fl = none ∨ fl = some .none)
    (h : ∀ h', base.StaysIn h' → h'.FunFrames base outer → s.heap.UpToSlots h' → ExcAt h' base e d (some .none) → Q () { s with heap := h' }) : wpAny M A (leaving env (.ref e)) Q E s := by
  unfold leaving
  refine wpAny_bind (note_exc hfr hl hf hkb hen hx hfl fun h1 a1 a2 a3 a4 => ?_)
  exact flight_exc (s := { s with heap := h1 }) a2 a1 a4 fun h2 b1 b2 b3 b4 => h h2 b1 (by obtain ⟨_, _, r⟩ := b2; exact r) (a3.trans b3) b4
end

/-- a LispSignal e with the symbol v is on its way out of the frames that were over l: what h0 had stays -/
def Fly (h0 : Heap) (l : List Env) (e : Addr) (v : Value) (h' : Heap) : Prop :=
  ∃ B d m1, (∀ b o, h0.get? b = some o → b ∉ l.filterMap (·.frame) → B.get? b = some o) ∧ B.get? e = none ∧ B.StaysIn h' ∧ h'.FunFrames B l ∧ ExcAt h' B e d (some .none) ∧ h0.UpToSlots h' ∧ h'.Ns d m1 ∧ m1 (Str.ofString "symbol") = some v ∧ h0.get? e = none
theorem fly_start {M : Model} {A A' : Around} {E : Value → Shared → Prop} {s : Shared} {base h₀ g' hp : Heap} {env env' : Env} {outer : List Env} {L L' e t d : Addr} {m m' m1 : Str → Option Value} {v : Value} {Q : Unit → Shared → Prop} (B' : Below A base (env :: outer) g') (FG : Fr h₀ L g' m) (F : Fr g' L' s.heap m')
    (hA : A'.frames = some (env' :: env :: outer)) (hf : env'.frame = some L') (hk : env'.scope.kind = .function) (hp1 : g'.StaysIn hp) (hp2 : hp.get? e = none) (hx : s.heap.get? e = some (excObj t (some d))) (hn : s.heap.Ns d m1) (hm : m1 (Str.ofString "symbol") = some v)
    (h : ∀ h', Fly h₀ (env :: outer) e v h' → Q () { s with heap := h' }) : wpAny M A' (leaving env' (.ref e)) Q E s := by
  have Bp := pushX B' F hf hk
  have e0 : g'.get? e = none := by
    cases q : g'.get? e with
    | none => rfl
    | some o => have := hp1 _ _ q; rw [hp2] at this; cases this
  have hin : ∀ v ∈ (env' :: env :: outer), ∀ a, v.frame = some a → a ∈ e :: (env' :: env :: outer).filterMap (·.frame) := fun v hv a ha => .tail _ (List.mem_filterMap.mpr ⟨v, hv, ha⟩)
  refine leave_exc (base := hideAll s.heap (e :: (env' :: env :: outer).filterMap (·.frame))) (d := d) hA (funFrames_hide Bp.frames hin) hf (fun b o q => of_hideAll _ q) (hideAll_none _ (.head _)) ⟨_, _, hx, rfl, rfl, rfl, by simp, rfl⟩ (.inl rfl) (fun h' a1 a2 a3 a4 => h h' ?_)
  refine ⟨_, d, m1, fun b o q nb => ?_, hideAll_none _ (.head _), a1, a2, a4, (Heap.UpToSlots.of_keeps fun b o q => F.keep _ _ (FG.keep b o q)).trans a3, a3.ns hn, hm, ?_⟩
  · have q1 := FG.keep b o q
    refine hideAll_get _ (F.keep _ _ q1) (fun hm => ?_)
    rcases List.mem_cons.mp hm with hm | hm
    · rw [hm, e0] at q1; cases q1
    · obtain ⟨v, hv, hva⟩ := List.mem_filterMap.mp hm
      rcases List.mem_cons.mp hv with rfl | hv
      · have lt := Heap.lt_size q1
        rw [hf] at hva
        cases hva
        exact absurd (Nat.lt_of_lt_of_le lt F.above) (Nat.lt_irrefl _)
      · exact nb (List.mem_filterMap.mpr ⟨v, hv, hva⟩)
  · cases q : h₀.get? e with
    | none => rfl
    | some o => have := FG.keep _ _ q; rw [e0] at this; cases this
theorem fly_on {M : Model} {A' : Around} {E : Value → Shared → Prop} {s : Shared} {h0 g' hL : Heap} {env' : Env} {outer : List Env} {L' e : Addr} {m' : Str → Option Value} {v : Value} {Q : Unit → Shared → Prop} (K : Fly g' (env' :: outer) e v s.heap) (k0 : h0.StaysIn g') (F : Fr g' L' hL m')
    (hA : A'.frames = some (env' :: outer)) (hf : env'.frame = some L')
    (h : ∀ h', Fly h0 outer e v h' → Q () { s with heap := h' }) : wpAny M A' (leaving env' (.ref e)) Q E s := by
  obtain ⟨B, d, m1, b1, b2, b3, b4, b5, b6, b7, b8, b9⟩ := K
  refine leave_exc hA b4 hf b3 b2 b5 (.inr rfl) (fun h' a1 a2 a3 a4 => h h' ⟨B, d, m1, fun b o q nb => b1 b o (k0 _ _ q) (fun hm => ?_), b2, a1, a2, a4, (Heap.UpToSlots.of_keeps k0).trans (b6.trans a3), a3.ns b7, b8, ?_⟩)
  · obtain ⟨v, hv, hva⟩ := List.mem_filterMap.mp hm
    rcases List.mem_cons.mp hv with rfl | hv
    · rw [hf] at hva
      cases hva
      exact absurd (Nat.lt_of_lt_of_le (Heap.lt_size (k0 _ _ q)) F.above) (Nat.lt_irrefl _)
    · exact nb (List.mem_filterMap.mpr ⟨v, hv, hva⟩)
  · cases q : h0.get? e with
    | none => rfl
    | some o => have := k0 _ _ q; rw [b9] at this; cases this

theorem has_news {h₀ h : Heap} {L : Addr} {news : List (Addr × Obj)} (N : News h₀ L h news) : Has h news := fun p hp => (N p hp).1
theorem fr_none {g h : Heap} {L e : Addr} {m : Str → Option Value} (F : Fr g L h m) (a : h.get? e = none) : g.get? e = none := by
  cases q : g.get? e with
  | none => rfl
  | some o => have := F.keep _ _ q; rw [a] at this; cases this
theorem has_cons {h : Heap} {R : List (Addr × Obj)} {p : Addr × Obj} (H : Has h R) (hp : h.get? p.1 = some p.2) : Has h (p :: R) := fun q hq => by
  rcases List.mem_cons.mp hq with rfl | hq
  · exact hp
  · exact H q hq
section
theorem is_round_led {w : World} {mean : ExcName → Option Value} {mg mb : Str → Option Value} {A A₀ : Around} {base h₀ : Heap} {outer : List Env} {L : Addr} {env : Env} {s : Shared} {m : Str → Option Value} {Q E : Value → Shared → Prop} {R news : List (Addr × Obj)} {x dx : Addr} {k0 k1 k2 k3 k4 k5 t0 : Tok} {l r d sl sr : Value} {t : Int} {kl kr ksl ksr : Kd} (X : (hd.heap_39 w.params).In h₀) (S : Site 450 4500 mean mg mb A A₀ base outer h₀ L env s m) (N : News h₀ L s.heap news) (HR : Has s.heap R)
    (i1 : (x, instObj 250 dx) ∈ news) (i2 : (dx, taskDict w.params k0 k1 k2 k3 k4 k5 l r d (.int t t0) sl sr) ∈ news) (V1 : IsV w.params R l kl) (V2 : IsV w.params R r kr) (V3 : IsV w.params R sl ksl) (V4 : IsV w.params R sr ksr)
    (hk3 : ksl.isInt = false) (hk4 : ksr.isInt = false)
    (h : ∀ h' tk', s.heap.StaysIn h' → Q (.bool (roundK t kl kr ksl ksr)) { s with heap := h', toks := tk' }) :
    wpAny (model PySem.Challenge.rw_pq0276_01.row.toRowW.prog w) A (call (.ref 240) [.ref x]) Q E s := by
  have sub : ∀ p ∈ R, p ∈ (x, instObj 250 dx) :: (dx, taskDict w.params k0 k1 k2 k3 k4 k5 l r d (.int t t0) sl sr) :: R := fun p hp => .tail _ (.tail _ hp)
  exact is_round_spec X S (has_cons (p := (x, _)) (has_cons (p := (dx, _)) HR (N _ i2).1) (N _ i1).1) (.head _) (.tail _ (.head _)) (V1.mono sub) (V2.mono sub) (V3.mono sub) (V4.mono sub) hk3 hk4 h
local macro_rules | `(tactic| k_handed) => `(tactic| first | with_reducible assumption | exact isV_handed (by with_reducible assumption))
local macro_rules | `(tactic| k_inst) => `(tactic| exact instAt_base (by with_reducible assumption) (by with_reducible assumption) (by with_reducible assumption) (by with_reducible assumption))
theorem is_round0 {w : World} {mean : ExcName → Option Value} {mg mb : Str → Option Value} {A A₀ : Around} {base h₀ : Heap} {outer : List Env} {L : Addr} {env : Env} {s : Shared} {m : Str → Option Value} {Q E : Value → Shared → Prop} {R : List (Addr × Obj)} {x dx : Addr} {k0 k1 k2 k3 k4 k5 t0 : Tok} {l r d sl sr : Value} (X : (hd.heap_39 w.params).In h₀) (S : Site 450 4500 mean mg mb A A₀ base outer h₀ L env s m) (HR0 : Has s.heap R)
    (i1 : (x, instObj 250 dx) ∈ R) (i2 : (dx, taskDict w.params k0 k1 k2 k3 k4 k5 l r d (.int 0 t0) sl sr) ∈ R)
    (h : ∀ h' tk', s.heap.StaysIn h' → Q (.bool false) { s with heap := h', toks := tk' }) :
    wpAny (model PySem.Challenge.rw_pq0276_01.row.toRowW.prog w) A (call (.ref 240) [.ref x]) Q E s := by
  revert X; k_fill; intro X
  obtain ⟨h1, h2, h3, h4, B, F, T, he, hk⟩ := S
  refine toTop h1 h2 h3 h4 ?_
  refine wpAny_call ?_
  (k_dflt (refine' code_own ?k1 ?k2 ?k3 ?k4 ?k5 ?kA ?kF ?kK ?k6 ?k7 ?k8 ?k9 ?kB ?_ ?c2 ?c3 ?c4 ?c5; (case kA => exact rfl); (case kF => assumption); (case kK => assumption); (case k1 => k_asm); (case k2 => k_asm); (case k3 => k_asm); (case k4 => exact News.nil); (case k5 => k_asm); (case k6 => k_is); (case k7 => k_is); (case k8 => k_room); (case k9 => first | exact BindsTo.of_eq rfl | exact binds_K (by k_in) rfl (by k_is) rfl rfl rfl); (case c5 => decide); (case kB => exact locs rfl); (case c2 => exact rfl); (case c3 => exact rfl); (case c4 => exact rfl); k_whole; intro g' L' h' HG' FG' F' N' B' X' T'; (try dsimp only); (try k_fold))); (have HR := Has.stays HR0 (But.stays HG')); (clear HR0); k_steps
  all_goals exact h _ _ (endStay HG' (by k_asm))
theorem is_round0_led {w : World} {mean : ExcName → Option Value} {mg mb : Str → Option Value} {A A₀ : Around} {base h₀ : Heap} {outer : List Env} {L : Addr} {env : Env} {s : Shared} {m : Str → Option Value} {Q E : Value → Shared → Prop} {news : List (Addr × Obj)} {x dx : Addr} {k0 k1 k2 k3 k4 k5 t0 : Tok} {l r d sl sr : Value} (X : (hd.heap_39 w.params).In h₀) (S : Site 450 4500 mean mg mb A A₀ base outer h₀ L env s m) (N : News h₀ L s.heap news)
    (i1 : (x, instObj 250 dx) ∈ news) (i2 : (dx, taskDict w.params k0 k1 k2 k3 k4 k5 l r d (.int 0 t0) sl sr) ∈ news)
    (h : ∀ h' tk', s.heap.StaysIn h' → Q (.bool false) { s with heap := h', toks := tk' }) :
    wpAny (model PySem.Challenge.rw_pq0276_01.row.toRowW.prog w) A (call (.ref 240) [.ref x]) Q E s := is_round0 X S (has_news N) i1 i2 h
end
theorem is_round_any {w : World} {mean : ExcName → Option Value} {mg mb : Str → Option Value} {A A₀ : Around} {base h₀ : Heap} {outer : List Env} {L : Addr} {env : Env} {s : Shared} {m : Str → Option Value} {Q E : Value → Shared → Prop} {R news : List (Addr × Obj)} {x dx : Addr} {k0 k1 k2 k3 k4 k5 t0 : Tok} {l r d sl sr : Value} {t : Int} {kl kr ksl ksr : Kd} (X : (hd.heap_39 w.params).In h₀) (S : Site 450 4500 mean mg mb A A₀ base outer h₀ L env s m) (N : News h₀ L s.heap news) (HR : Has s.heap R)
    (i1 : (x, instObj 250 dx) ∈ news) (i2 : (dx, taskDict w.params k0 k1 k2 k3 k4 k5 l r d (.int t t0) sl sr) ∈ news) (V1 : IsV w.params R l kl) (V2 : IsV w.params R r kr) (V3 : IsV w.params R sl ksl) (V4 : IsV w.params R sr ksr)
    (ok : t = 0 ∨ (0 < t ∧ ksl.isInt = false ∧ ksr.isInt = false)) {b : Bool} (hb : roundK t kl kr ksl ksr = b)
    (h : ∀ h' tk', s.heap.StaysIn h' → Q (.bool b) { s with heap := h', toks := tk' }) :
    wpAny (model PySem.Challenge.rw_pq0276_01.row.toRowW.prog w) A (call (.ref 240) [.ref x]) Q E s := by
  subst hb
  rcases ok with rfl | ⟨_, a1, a2⟩
  · exact is_round0_led X S N i1 i2 h
  · exact is_round_led X S N HR i1 i2 V1 V2 V3 V4 a1 a2 h
theorem news_five {h₀ h h' : Heap} {L x dx : Addr} {x1 x2 x3 : Addr × Obj} {od od' : Obj} {led : List (Addr × Obj)} (N : News h₀ L h (x1 :: x2 :: x3 :: (x, instObj 250 dx) :: (dx, od) :: led)) (k : But h [x, dx] h') (N' : News h₀ L h' [(x, instObj 250 dx), (dx, od')])
    (a1 : @Ne Nat x1.1 x) (a2 : @Ne Nat x1.1 dx) (b1 : @Ne Nat x2.1 x) (b2 : @Ne Nat x2.1 dx) (c1 : @Ne Nat x3.1 x) (c2 : @Ne Nat x3.1 dx) (e3 : ∀ p ∈ led, p.1 ≠ x) (e4 : ∀ p ∈ led, p.1 ≠ dx) :
    News h₀ L h' (x1 :: x2 :: x3 :: (x, instObj 250 dx) :: (dx, od') :: led) := fun p hp => by
  have two : ∀ q : Addr × Obj, q ∈ x1 :: x2 :: x3 :: (x, instObj 250 dx) :: (dx, od) :: led → q.1 ≠ x → q.1 ≠ dx → h'.get? q.1 = some q.2 ∧ q.1 ≠ L ∧ h₀.get? q.1 = none := fun q hq u v =>
    ⟨k _ _ (N q hq).1 (by simp only [List.mem_cons, List.not_mem_nil, or_false, not_or]; exact ⟨u, v⟩), (N q hq).2⟩
  simp only [List.mem_cons] at hp
  rcases hp with rfl | rfl | rfl | rfl | rfl | hp
  · exact two _ (.head _) a1 a2
  · exact two _ (.tail _ (.head _)) b1 b2
  · exact two _ (.tail _ (.tail _ (.head _))) c1 c2
  · exact N' _ (.head _)
  · exact N' _ (.tail _ (.head _))
  · exact two _ (.tail _ (.tail _ (.tail _ (.tail _ (.tail _ hp))))) (e3 _ hp) (e4 _ hp)
theorem off_two {h₀ h : Heap} {L x dx : Addr} {R : List (Addr × Obj)} {a b : Obj} (N : News h₀ L h [(x, a), (dx, b)]) (HR : Has h₀ R) : ∀ p ∈ R, p.1 ∉ [x, dx] := fun p hp q => by
  have := HR p hp
  simp only [List.mem_cons, List.not_mem_nil, or_false] at q
  rcases q with q | q
  · have z := (N _ (.head _)).2.2; rw [← show p.1 = x from q, this] at z; cases z
  · have z := (N _ (.tail _ (.head _))).2.2; rw [← show p.1 = dx from q, this] at z; cases z
theorem news_mid {h₀ h : Heap} {L : Addr} {x1 x2 x3 a b : Addr × Obj} {led : List (Addr × Obj)} (N : News h₀ L h (x1 :: x2 :: x3 :: a :: b :: led)) : News h₀ L h [a, b] := fun p hp => by
  simp only [List.mem_cons, List.not_mem_nil, or_false] at hp
  rcases hp with rfl | rfl
  · exact N _ (.tail _ (.tail _ (.tail _ (.head _))))
  · exact N _ (.tail _ (.tail _ (.tail _ (.tail _ (.head _)))))
theorem go_even_led {w : World} {mean : ExcName → Option Value} {mg mb : Str → Option Value} {A A₀ : Around} {base h₀ : Heap} {outer : List Env} {L : Addr} {env : Env} {s : Shared} {m : Str → Option Value} {Q E : Value → Shared → Prop} {R : List (Addr × Obj)} {x dx : Addr} {k0 k1 k2 k3 k4 k5 t0 : Tok} {d sl sr : Value} {t : Int} {xl xr : Addr} {al ar bl br : Value} {x1 x2 x3 : Addr × Obj} {led : List (Addr × Obj)} (X : (hd.heap_39 w.params).In h₀) (S : Site 450 4500 mean mg mb A A₀ base outer h₀ L env s m)
    (N : News h₀ L s.heap (x1 :: x2 :: x3 :: (x, instObj 250 dx) :: (dx, taskDict w.params k0 k1 k2 k3 k4 k5 (.ref xl) (.ref xr) d (.int t t0) sl sr) :: led)) (HR0 : Has h₀ R) (hne : @Ne Nat x dx)
    (i0 : ConsIn w.params R xl al bl) (j0 : ConsIn w.params R xr ar br) (V1 : handedIn bl = true) (V2 : handedIn br = true) (ht : t % 2 = 0) (ht0 : 0 ≤ t) (ht1 : t < 10000)
    (a1 : @Ne Nat x1.1 x) (a2 : @Ne Nat x1.1 dx) (b1 : @Ne Nat x2.1 x) (b2 : @Ne Nat x2.1 dx) (c1 : @Ne Nat x3.1 x) (c2 : @Ne Nat x3.1 dx) (e3 : ∀ p ∈ led, p.1 ≠ x) (e4 : ∀ p ∈ led, p.1 ≠ dx)
    (h : ∀ h' tk' t1, Fr h₀ L h' m → News h₀ L h' (x1 :: x2 :: x3 :: (x, instObj 250 dx) :: (dx, taskDict w.params k0 k1 k2 k3 k4 k5 bl br d (.int (t + 1) t1) sl sr) :: led) → Q .none { s with heap := h', toks := tk' }) :
    wpAny (model PySem.Challenge.rw_pq0276_01.row.toRowW.prog w) A (call (.ref 247) [.ref x]) Q E s :=
  go_on_even X S (Has.keep HR0 S.F) (news_mid N) (off_two (news_mid N) HR0) hne i0 j0 V1 V2 ht ht0 ht1 fun h' tk' t1 F' k N' => h h' tk' t1 F' (news_five N k N' a1 a2 b1 b2 c1 c2 e3 e4)
theorem go_odd_led {w : World} {mean : ExcName → Option Value} {mg mb : Str → Option Value} {A A₀ : Around} {base h₀ : Heap} {outer : List Env} {L : Addr} {env : Env} {s : Shared} {m : Str → Option Value} {Q E : Value → Shared → Prop} {R : List (Addr × Obj)} {x dx : Addr} {k0 k1 k2 k3 k4 k5 t0 : Tok} {d : Value} {t : Int} {xl xr yl yr : Addr} {al ar bl br cl cr dl dr : Value} {x1 x2 x3 : Addr × Obj} {led : List (Addr × Obj)} (X : (hd.heap_39 w.params).In h₀) (S : Site 450 4500 mean mg mb A A₀ base outer h₀ L env s m)
    (N : News h₀ L s.heap (x1 :: x2 :: x3 :: (x, instObj 250 dx) :: (dx, taskDict w.params k0 k1 k2 k3 k4 k5 (.ref xl) (.ref xr) d (.int t t0) (.ref yl) (.ref yr)) :: led)) (HR0 : Has h₀ R) (hne : @Ne Nat x dx)
    (i0 : ConsIn w.params R xl al bl) (j0 : ConsIn w.params R xr ar br) (V1 : handedIn bl = true) (V2 : handedIn br = true)
    (e0 : ConsIn w.params R yl cl dl) (f0 : ConsIn w.params R yr cr dr) (V3 : handedIn dl = true) (V4 : handedIn dr = true) (ht : t % 2 = 1) (ht0 : 0 ≤ t) (ht1 : t < 10000)
    (a1 : @Ne Nat x1.1 x) (a2 : @Ne Nat x1.1 dx) (b1 : @Ne Nat x2.1 x) (b2 : @Ne Nat x2.1 dx) (c1 : @Ne Nat x3.1 x) (c2 : @Ne Nat x3.1 dx) (e3 : ∀ p ∈ led, p.1 ≠ x) (e4 : ∀ p ∈ led, p.1 ≠ dx)
    (h : ∀ h' tk' t1, Fr h₀ L h' m → News h₀ L h' (x1 :: x2 :: x3 :: (x, instObj 250 dx) :: (dx, taskDict w.params k0 k1 k2 k3 k4 k5 bl br d (.int (t + 1) t1) dl dr) :: led) → Q .none { s with heap := h', toks := tk' }) :
    wpAny (model PySem.Challenge.rw_pq0276_01.row.toRowW.prog w) A (call (.ref 247) [.ref x]) Q E s :=
  go_on_odd X S (Has.keep HR0 S.F) (news_mid N) (off_two (news_mid N) HR0) hne i0 j0 V1 V2 e0 f0 V3 V4 ht ht0 ht1 fun h' tk' t1 F' k N' => h h' tk' t1 F' (news_five N k N' a1 a2 b1 b2 c1 c2 e3 e4)
theorem eq_b {w : World} {mean : ExcName → Option Value} {mg mb : Str → Option Value} {A A₀ : Around} {base h₀ : Heap} {outer : List Env} {L : Addr} {env : Env} {s : Shared} {m : Str → Option Value} {Q E : Value → Shared → Prop} {R : List (Addr × Obj)} {v v' : Value} {k k' : Kd} {b : Bool} (X : (hd.heap_39 w.params).In h₀) (S : Site 500 5000 mean mg mb A A₀ base outer h₀ L env s m) (HR0 : Has s.heap R) (V : IsV w.params R v k) (V' : IsV w.params R v' k') (hb : eqK k k' = b)
    (h : ∀ h' tk', s.heap.StaysIn h' → Q (.bool b) { s with heap := h', toks := tk' }) : wpAny (model PySem.Challenge.rw_pq0276_01.row.toRowW.prog w) A (call (.ref 207) [v, v']) Q E s := by subst hb; exact eq_spec X S HR0 V V' h
theorem class_b {w : World} {mean : ExcName → Option Value} {mg mb : Str → Option Value} {A A₀ : Around} {base h₀ : Heap} {outer : List Env} {L : Addr} {env : Env} {s : Shared} {m : Str → Option Value} {Q E : Value → Shared → Prop} {R : List (Addr × Obj)} {v v' : Value} {k k' : Kd} {b : Bool} (X : (hd.heap_39 w.params).In h₀) (S : Site 500 5000 mean mg mb A A₀ base outer h₀ L env s m) (HR0 : Has s.heap R) (V : IsV w.params R v k) (V' : IsV w.params R v' k') (hb : clsK k k' = b)
    (h : ∀ h' tk', s.heap.StaysIn h' → Q (.bool b) { s with heap := h', toks := tk' }) : wpAny (model PySem.Challenge.rw_pq0276_01.row.toRowW.prog w) A (call (.ref 219) [v, v']) Q E s := by subst hb; exact class_spec X S HR0 V V' h
theorem not_long {pre : List Value} {n : Nat} (h : pre.length ≤ 1000) (hn : n ≤ 1000) : ¬(!pre.toArray.isEmpty && Builtin.List.listTooLong (pre.toArray.size + n)) = true := by
  simp only [Builtin.List.listTooLong, List.size_toArray, Bool.and_eq_true, decide_eq_true_eq, not_and, Nat.not_lt, gt_iff_lt]
  intro _; rw [sizeLine_eq]; omega
theorem cls_cons {a b : Addr} : clsK (.cons a) (.cons b) = true := rfl
theorem cls_text {a b : Addr} : clsK (.text a) (.text b) = true := rfl
theorem room1 {pre : List Value} (h : pre.length ≤ 1000) : pre.toArray.toList.length ≤ sizeLine := by rw [sizeLine_eq]; simp; omega
theorem room2 {pre : List Value} {n : Nat} (h : pre.length ≤ 1000) (hn : n ≤ 1000) : pre.toArray.size + n ≤ sizeLine + 1 := by rw [sizeLine_eq]; simp; omega
theorem nd_drop {W c a dx : Addr} {l : List Addr} (h : (W :: c :: a :: dx :: l).Nodup) : (W :: c :: l).Nodup := h.sublist (.cons₂ _ (.cons₂ _ (.cons _ (.cons _ (List.Sublist.refl _)))))
theorem sub5 {W c x a d : Addr × Obj} {led : List (Addr × Obj)} : ∀ p ∈ W :: c :: led, p ∈ x :: W :: c :: a :: d :: led := fun p hp => by
  simp only [List.mem_cons] at hp ⊢
  rcases hp with hp | hp | hp <;> simp [hp]
theorem sub7 {W c x y z a d : Addr × Obj} {led : List (Addr × Obj)} : ∀ p ∈ W :: c :: led, p ∈ x :: y :: z :: W :: c :: a :: d :: led := fun p hp => by
  simp only [List.mem_cons] at hp ⊢
  rcases hp with hp | hp | hp <;> simp [hp]
theorem app_two {pre : List Value} {x y : Value} : (pre.toArray.toList ++ #[x, y].toList).toArray = ((pre ++ [x]) ++ [y]).toArray := by simp
theorem sub8 {W c l y dy D a d : Addr × Obj} {led : List (Addr × Obj)} : ∀ p ∈ W :: c :: y :: dy :: a :: d :: led, p ∈ l :: y :: dy :: D :: W :: c :: a :: d :: led := fun p hp => by
  simp only [List.mem_cons] at hp ⊢
  rcases hp with hp | hp | hp | hp | hp | hp | hp <;> simp [hp]
theorem nd_new {W c a dx y dy D : Addr} {oD oW oc oa od : Obj} {led : List (Addr × Obj)} (h : (W :: c :: a :: dx :: led.map (·.1)).Nodup) (hlt : ∀ p ∈ (D, oD) :: (W, oW) :: (c, oc) :: (a, oa) :: (dx, od) :: led, p.1 < dy) (hy : @LT.lt Nat _ dy y) :
    (W :: c :: y :: dy :: a :: dx :: led.map (·.1)).Nodup := by
  have q : ∀ z ∈ W :: c :: a :: dx :: led.map (·.1), @LT.lt Nat _ z dy := fun z hz => by
    simp only [List.mem_cons, List.mem_map] at hz
    rcases hz with rfl | rfl | rfl | rfl | ⟨p, hp, rfl⟩
    · exact hlt (_, oW) (.tail _ (.head _))
    · exact hlt (_, oc) (.tail _ (.tail _ (.head _)))
    · exact hlt (_, oa) (.tail _ (.tail _ (.tail _ (.head _))))
    · exact hlt (_, od) (.tail _ (.tail _ (.tail _ (.tail _ (.head _)))))
    · exact hlt p (.tail _ (.tail _ (.tail _ (.tail _ (.tail _ hp)))))
  have perm : (W :: c :: y :: dy :: a :: dx :: led.map (·.1)).Perm (y :: dy :: W :: c :: a :: dx :: led.map (·.1)) := by
    have := (List.perm_append_comm (l₁ := [W, c]) (l₂ := [y, dy])).append_right (a :: dx :: led.map (·.1))
    simpa using this
  rw [perm.nodup_iff]
  refine List.nodup_cons.mpr ⟨fun m => ?_, List.nodup_cons.mpr ⟨fun m => ?_, h⟩⟩
  · rcases List.mem_cons.mp m with m | m
    · exact absurd (m ▸ hy) (Nat.lt_irrefl _)
    · exact absurd (Nat.lt_trans hy (q _ m)) (Nat.lt_irrefl _)
  · exact absurd (q _ m) (Nat.lt_irrefl _)
theorem pop_room (pre : List Value) (v : Value) (h : pre.length ≤ 1000) : (pre ++ [v]).toArray.toList.length ≤ sizeLine := by rw [sizeLine_eq]; simp; omega
theorem news4 {h₀ h : Heap} {L : Addr} {a b c d : Addr × Obj} (N : News h₀ L h [a, b, c, d]) : News h₀ L h [a, d, b, c] := news_sub N (fun p hp => by simp only [List.mem_cons, List.not_mem_nil, or_false] at hp ⊢; rcases hp with hp | hp | hp | hp <;> simp [hp])
theorem nd_facts {W c a dx : Addr} {led : List (Addr × Obj)} (h : (W :: c :: a :: dx :: led.map (·.1)).Nodup) : @Ne Nat W c ∧ @Ne Nat W a ∧ @Ne Nat W dx ∧ @Ne Nat c a ∧ @Ne Nat c dx ∧ @Ne Nat a dx ∧
    (∀ p ∈ led, p.1 ≠ W) ∧ (∀ p ∈ led, p.1 ≠ c) ∧ (∀ p ∈ led, p.1 ≠ a) ∧ (∀ p ∈ led, p.1 ≠ dx) ∧ (led.map (·.1)).Nodup := by
  simp only [List.nodup_cons, List.mem_cons, not_or, List.mem_map, not_exists, not_and] at h
  obtain ⟨⟨h1, h2, h3, h4⟩, ⟨h5, h6, h7⟩, ⟨h8, h9⟩, h10, h11⟩ := h
  exact ⟨h1, h2, h3, h5, h6, h8, fun p hp => h4 p hp, fun p hp => h7 p hp, fun p hp => h9 p hp, fun p hp => h10 p hp, h11⟩
section
local macro_rules | `(tactic| k_handed) => `(tactic| first | with_reducible assumption | exact isV_handed (by with_reducible assumption))
local macro_rules | `(tactic| k_inst) => `(tactic| exact instAt_base (by with_reducible assumption) (by with_reducible assumption) (by with_reducible assumption) (by with_reducible assumption))
local macro_rules | `(tactic| walk_at "call ref") => `(tactic| (k_here; (with_reducible show wpAny _ _ (call (Value.ref 250) _) _ _ _); k_dflt (refine' task_new ?X ⟨?h, ?d, ?f, ?u, ?B, ?F, ?T, ?e, ?k⟩ ?N ?_; (case X => k_asm); (case h => exact rfl); (case d => exact Nat.le_of_ble_eq_true rfl); (case f => exact rfl); (case u => exact Nat.le_of_ble_eq_true rfl); (case B => k_asm); (case F => k_asm); (case T => k_asm); (case e => first | exact rfl | assumption); (case k => first | exact rfl | assumption); (case N => k_asm); k_whole); intro h' tk' y' dy' q0 q1 q2 q3 q4 q5 t0' F' N' l1 l2; (have l1c := l1); (try k_lt l1); (try k_lt2 l2); (try k_sweep)))
local macro_rules | `(tactic| walk_at "call ref") => `(tactic| (k_here; (with_reducible show wpAny _ _ (call (Value.ref 240) _) _ _ _); k_dflt (refine' is_round_any ?X ⟨?h, ?d, ?f, ?u, ?B, ?F, ?T, ?e, ?k⟩ ?N ?HR ?i1 ?i2 ?V1 ?V2 ?V3 ?V4 ?ok ?hb ?_; (case X => k_asm); (case h => exact rfl); (case d => exact Nat.le_of_ble_eq_true rfl); (case f => exact rfl); (case u => exact Nat.le_of_ble_eq_true rfl); (case B => k_asm); (case F => k_asm); (case T => k_asm); (case e => first | exact rfl | assumption); (case k => first | exact rfl | assumption); (case N => k_asm); (case i1 => k_mem); (case i2 => k_mem); (case V1 => with_reducible assumption); (case V2 => with_reducible assumption); (case V3 => with_reducible assumption); (case V4 => with_reducible assumption); (case ok => with_reducible assumption); (case hb => with_reducible assumption); (case HR => first | with_reducible assumption | exact Has.keep (by k_asm) (by k_asm)); k_whole); intro h' tk' K'; (have F'' := Fr.stay (by k_asm) K'); (have N'' := News.stay (by k_asm) K'); (clear K'); (try k_sweep)))
local macro_rules | `(tactic| walk_at "call ref") => `(tactic| (k_here; (with_reducible show wpAny _ _ (call (Value.ref 207) _) _ _ _); k_dflt (refine' eq_b ?X ⟨?h, ?d, ?f, ?u, ?B, ?F, ?T, ?e, ?k⟩ ?HR ?V1 ?V2 ?hb ?_; (case X => k_asm); (case h => exact rfl); (case d => exact Nat.le_of_ble_eq_true rfl); (case f => exact rfl); (case u => exact Nat.le_of_ble_eq_true rfl); (case B => k_asm); (case F => k_asm); (case T => k_asm); (case e => first | exact rfl | assumption); (case k => first | exact rfl | assumption); (case V1 => with_reducible assumption); (case V2 => with_reducible assumption); (case hb => first | with_reducible assumption | rfl); (case HR => first | with_reducible assumption | exact Has.keep (by k_asm) (by k_asm)); k_whole); intro h' tk' K'; (have F'' := Fr.stay (by k_asm) K'); (have N'' := News.stay (by k_asm) K'); (clear K'); (try k_sweep)))
local macro_rules | `(tactic| walk_at "call ref") => `(tactic| (k_here; (with_reducible show wpAny _ _ (call (Value.ref 212) _) _ _ _); k_dflt (refine' parts_spec ?X ⟨?h, ?d, ?f, ?u, ?B, ?F, ?T, ?e, ?k⟩ ?N ?HR ?V1 ?V2 ?_; (case X => k_asm); (case h => exact rfl); (case d => exact Nat.le_of_ble_eq_true rfl); (case f => exact rfl); (case u => exact Nat.le_of_ble_eq_true rfl); (case B => k_asm); (case F => k_asm); (case T => k_asm); (case e => first | exact rfl | assumption); (case k => first | exact rfl | assumption); (case N => k_asm); (case V1 => with_reducible assumption); (case V2 => with_reducible assumption); (case HR => with_reducible assumption); k_whole); intro h' tk' r' F' N' l1; (try k_lt l1); (try k_sweep)))
local macro_rules | `(tactic| walk_at "call ref") => `(tactic| (k_here; (with_reducible show wpAny _ _ (call (Value.ref 219) _) _ _ _); k_dflt (refine' class_b ?X ⟨?h, ?d, ?f, ?u, ?B, ?F, ?T, ?e, ?k⟩ ?HR ?V1 ?V2 ?hb ?_; (case X => k_asm); (case h => exact rfl); (case d => exact Nat.le_of_ble_eq_true rfl); (case f => exact rfl); (case u => exact Nat.le_of_ble_eq_true rfl); (case B => k_asm); (case F => k_asm); (case T => k_asm); (case e => first | exact rfl | assumption); (case k => first | exact rfl | assumption); (case V1 => with_reducible assumption); (case V2 => with_reducible assumption); (case hb => first | with_reducible assumption | exact cls_cons | exact cls_text); (case HR => first | with_reducible assumption | exact Has.keep (by k_asm) (by k_asm)); k_whole); intro h' tk' K'; (have F'' := Fr.stay (by k_asm) K'); (have N'' := News.stay (by k_asm) K'); (clear K'); (try k_sweep)))
local macro_rules | `(tactic| walk_at "call ref") => `(tactic| (k_here; (with_reducible show wpAny _ _ (call (Value.ref 247) _) _ _ _); k_dflt (refine' go_even_led ?X ⟨?h, ?d, ?f, ?u, ?B, ?F, ?T, ?e, ?k⟩ ?N ?HR ?hne ?i0 ?j0 ?V1 ?V2 ?ht ?ht0 ?ht1 ?a1 ?a2 ?b1 ?b2 ?c1 ?c2 ?e3 ?e4 ?_; (case X => k_asm); (case h => exact rfl); (case d => exact Nat.le_of_ble_eq_true rfl); (case f => exact rfl); (case u => exact Nat.le_of_ble_eq_true rfl); (case B => k_asm); (case F => k_asm); (case T => k_asm); (case e => first | exact rfl | assumption); (case k => first | exact rfl | assumption); (case N => k_asm); (case hne => with_reducible assumption); (case i0 => with_reducible assumption); (case j0 => with_reducible assumption); (case V1 => with_reducible assumption); (case V2 => with_reducible assumption); (case ht => with_reducible assumption); (case ht0 => with_reducible assumption); (case ht1 => with_reducible assumption); (case a1 => k_ne); (case a2 => k_ne); (case b1 => k_ne); (case b2 => k_ne); (case c1 => k_ne); (case c2 => k_ne); (case e3 => with_reducible assumption); (case e4 => with_reducible assumption); (case HR => with_reducible assumption); k_whole); intro h' tk' t1' F' N'; (try k_sweep)))
local macro_rules | `(tactic| walk_at "call ref") => `(tactic| (k_here; (with_reducible show wpAny _ _ (call (Value.ref 247) _) _ _ _); k_dflt (refine' go_odd_led ?X ⟨?h, ?d, ?f, ?u, ?B, ?F, ?T, ?e, ?k⟩ ?N ?HR ?hne ?i0 ?j0 ?V1 ?V2 ?e0 ?f0 ?V3 ?V4 ?ht ?ht0 ?ht1 ?a1 ?a2 ?b1 ?b2 ?c1 ?c2 ?e3 ?e4 ?_; (case X => k_asm); (case h => exact rfl); (case d => exact Nat.le_of_ble_eq_true rfl); (case f => exact rfl); (case u => exact Nat.le_of_ble_eq_true rfl); (case B => k_asm); (case F => k_asm); (case T => k_asm); (case e => first | exact rfl | assumption); (case k => first | exact rfl | assumption); (case N => k_asm); (case hne => with_reducible assumption); (case i0 => with_reducible assumption); (case j0 => with_reducible assumption); (case V1 => with_reducible assumption); (case V2 => with_reducible assumption); (case e0 => with_reducible assumption); (case f0 => with_reducible assumption); (case V3 => with_reducible assumption); (case V4 => with_reducible assumption); (case ht => with_reducible assumption); (case ht0 => with_reducible assumption); (case ht1 => with_reducible assumption); (case a1 => k_ne); (case a2 => k_ne); (case b1 => k_ne); (case b2 => k_ne); (case c1 => k_ne); (case c2 => k_ne); (case e3 => with_reducible assumption); (case e4 => with_reducible assumption); (case HR => with_reducible assumption); k_whole); intro h' tk' t1' F' N'; (try k_sweep)))
local macro_rules | `(tactic| k_all) => `(tactic| with_reducible assumption)
local macro_rules | `(tactic| walk_at "call builtin:list.pop") => `(tactic| (k_here; k_dflt (refine' kl_pop ?F ?N ?e ?U ?z ?_; (case F => k_asm); (case N => k_asm); (case U => k_upd); (case e => exact kpa_last _ _); (case z => exact pop_room _ _ (by omega))); kl_rest))
local macro_rules | `(tactic| walk_at "call builtin:len") => `(tactic| (k_here; k_dflt (refine' len_list ?l ?f ?_; (case l => exact News.isList (by k_asm) (by k_mem)); (case f => (simp only [List.size_toArray, List.length_append, List.length_cons, List.length_nil]; omega))); (try intro _); (try simp only [List.size_toArray, List.length_append, List.length_cons, List.length_nil])))
local macro_rules | `(tactic| walk_at "call builtin:list.extend") => `(tactic| (k_here; k_dflt (refine' kl_extend ?F ?N ?b ?e ?ne ?U ?d ?z ?y ?_; (case F => k_asm); (case N => k_asm); (case b => k_mem); (case U => k_upd); (case e => exact rfl); (case ne => exact Nat.succ_ne_zero _); (case d => exact not_long (by omega) (by simp)); (case z => exact room1 (by omega)); (case y => exact room2 (by omega) (by simp))); (intro h' F' N'; (try k_sweep))))
local macro_rules | `(tactic| walk_at "call builtin:list.extend") => `(tactic| (k_here; k_dflt (refine' kxn_extend ?F ?N ?b ?e ?U ?d ?z ?y ?_; (case F => k_asm); (case N => k_asm); (case b => k_mem); (case e => exact rfl); (case U => k_upd); (case d => exact not_long (by omega) (by decide)); (case z => exact room1 (by omega)); (case y => exact room2 (by omega) (by decide))); (intro h' F' N'; (try k_sweep))))
local macro_rules | `(tactic| walk_at "call ref") => `(tactic| (k_here; (with_reducible show wpAny _ _ (call (Value.ref 38) _) _ _ _); k_dflt (refine' exc_new ?X ⟨?h, ?d, ?f, ?u, ?B, ?F, ?T, ?e, ?k⟩  ?_; (case X => k_asm); (case h => exact rfl); (case d => exact Nat.le_of_ble_eq_true rfl); (case f => exact rfl); (case u => exact Nat.le_of_ble_eq_true rfl); (case B => k_asm); (case F => k_asm); (case T => k_asm); (case e => first | exact rfl | assumption); (case k => first | exact rfl | assumption);  k_whole); intro h' tk' e9 t9 d9 m9 F' K' x9 n9 s9 a9 b9 c9; (have z9 := fr_none (by k_asm) a9); (try k_sweep)))
theorem equal_by_spec {w : World} {mean : ExcName → Option Value} {mg mb : Str → Option Value} {A A₀ : Around} {base h₀ : Heap} {outer : List Env} {L : Addr} {env : Env} {s : Shared} {m : Str → Option Value} {Q E : Value → Shared → Prop} {R : List (Addr × Obj)} {v v' : Value} {k k' : Kd} {n : Nat} {res : Res} (X : (hd.heap_39 w.params).In h₀) (S : Site 400 4000 mean mg mb A A₀ base outer h₀ L env s m) (HR0 : Has h₀ R) (V : IsV w.params R v k) (V' : IsV w.params R v' k')
    (hn : n ≤ 7000000) (hr : Runs w.params R n [⟨k, k', k, k', 0, 0⟩] res)
    (hyes : res = .yes → ∀ h' tk', Fr h₀ L h' m → Q (.bool true) { s with heap := h', toks := tk' }) (hno : res = .no → ∀ h' tk', Fr h₀ L h' m → Q (.bool false) { s with heap := h', toks := tk' })
    (hround : res = .round → ∀ h' tk' e tt, Fly h₀ (env :: outer) e (.str (Str.ofString "circular-list") tt) h' → E (.ref e) { s with heap := h', toks := tk' }) :
    wpAny (model PySem.Challenge.rw_pq0276_01.row.toRowW.prog w) A (call (.ref 259) [v, v', .ref 266]) Q E s := by
  revert X; k_fill; intro X
  obtain ⟨h1, h2, h3, h4, B, F, T, he, hk⟩ := S
  refine toTop h1 h2 h3 h4 ?_
  refine wpAny_call ?_
  have N : News h₀ L s.heap [] := News.nil
  (k_dflt (refine' code_defC ?k1 ?k2 ?k3 ?k4 ?k5 ?kA ?kF ?kK ?k6 ?k7 ?k8 ?k9 ?kB ?kD ?_ ?c2 ?c3 ?c4; (case kA => exact rfl); (case kF => assumption); (case kK => assumption); (case k1 => k_asm); (case k2 => k_asm); (case k3 => k_asm); (case k4 => k_asm); (case k5 => k_asm); (case k6 => k_is); (case k7 => k_is); (case k8 => k_room); (case k9 => first | exact BindsTo.of_eq rfl | exact binds_K (by k_in) rfl (by k_is) rfl rfl rfl); (case kB => exact rfl); (case kD => decide +kernel); (case c2 => exact rfl); (case c3 => exact rfl); (case c4 => exact rfl); k_whole; intro g' L' h' tk' cells' FG' F' N' Y' B' X' T' l1; (try k_lt l1); k_cells Y'; (try simp only [List.cons_append, List.nil_append] at N'); (try dsimp only); (try k_fold)))
  have HR := Has.keep HR0 FG'
  clear HR0
  repeat' ((fail_if_success (with_reducible show wpAny _ _ (exec (Stmt.While _ _ _ _) _) _ _ _)); (first | (k_unfold; (try dsimp only)) | (k_end; wrow_close) | walk1 | (dsimp only; walk1) | (leave1; walk_say "STEP leave1"; try dsimp only) | fail "no step"))
  refine' loop_rule (P := w.params) (R := R) (res := res) (pre := [] ++ [_]) (led := _ :: _ :: []) (ts := [⟨k, k', k, k', 0, 0⟩]) (k := 0) ?F ?N ?hs ?hc ?S ?hr ?hnd ?hk ?hkn ?turn ?hE
  (case F => k_asm)
  (case N => exact news4 (by k_asm))
  (case hs => exact rfl)
  (case hc => assumption)
  (case S => exact Stk.cons (x := ⟨k, k', k, k', 0, 0⟩) _ _ _ _ _ _ _ _ _ _ _ _ _ _ V V' V V' .nil)
  (case hr => exact hr)
  (case hnd => simp only [List.map_cons, List.map_nil, List.nodup_cons, List.mem_cons, List.not_mem_nil, or_false, not_or, List.nodup_nil, and_true, not_false_eq_true]; refine ⟨⟨?_, ?_, ?_⟩, ⟨?_, ?_⟩, ?_⟩ <;> k_ne)
  (case hk => decide)
  (case hkn => omega)
  (case hE => passes_own)
  (case turn =>
    intro n h₁ tk₁ u k tk pre led ts nW oc vc FT NT hc ST RT ndT hk hkn
    cases ST with
    | nil =>
      cases RT
      k_steps
      exact hyes rfl _ _ (by k_asm)
    | @cons pre led ts x a dx k0 k1 k2 k3 k4 k5 td t0 l r sl sr V1 V2 V3 V4 ST =>
      obtain ⟨kl, kr, ksl, ksr, dd, tt⟩ := x
      dsimp only at V1 V2 V3 V4 NT
      simp only [List.map_cons] at ndT
      obtain ⟨d1, d2, d3, d4, d5, d6, e1, e2, e3, e4, ndL⟩ := nd_facts ndT
      have hl := ST.len
      have hlen : pre.length ≤ 50 := by cases RT <;> omega
      repeat' ((fail_if_success (with_reducible show wpAny _ _ (getMethod _ (Str.ofString "is_round") _) _ _ _)); (first | (k_unfold; (try dsimp only)) | (k_end; wrow_close) | walk1 | (dsimp only; walk1) | (leave1; walk_say "STEP leave1"; try dsimp only) | fail "no step"))
      cases RT with
      | round ok hlt hrn =>
        obtain ⟨o1, o2, o3, o4, o5⟩ := ok
        unfold TR.rnd at hrn
        dsimp only at o1 o2 o3 o4 o5 hrn
        repeat' ((fail_if_success (with_reducible show wpAny _ _ (exec (Stmt.Raise _ _ _) _) _ _ _)); (first | (k_unfold; (try dsimp only)) | (k_end; wrow_close) | walk1 | (dsimp only; walk1) | (leave1; walk_say "STEP leave1"; try dsimp only) | fail "no step"))
        refine raise_rule (by exact rfl) ?_
        repeat' ((fail_if_success (with_reducible show @Exists _ _)); (first | (k_unfold; (try dsimp only)) | (k_end; wrow_close) | walk1 | (dsimp only; walk1) | (leave1; walk_say "STEP leave1"; try dsimp only) | fail "no step"))
        exact ⟨_, _, _, rfl, X'.keeps (Fr.keep (by k_asm)), by with_reducible assumption, fly_start B' FG' (by k_asm) rfl rfl rfl (fun _ _ q => q) (by with_reducible assumption) (by with_reducible assumption) (Heap.Ns1.ns (by with_reducible assumption)) (by with_reducible assumption) (fun h' K => hround rfl _ _ _ _ K)⟩
      | no ok hlt hrn heq hcl =>
        obtain ⟨o1, o2, o3, o4, o5⟩ := ok
        unfold TR.rnd at hrn
        dsimp only at o1 o2 o3 o4 o5 hrn heq hcl
        k_steps
        dsimp only [WhileStep2]
        k_steps
        exact hno rfl _ _ (by k_asm)
      | eq ok hlt hrn heq RT =>
        obtain ⟨o1, o2, o3, o4, o5⟩ := ok
        unfold TR.rnd at hrn
        dsimp only at o1 o2 o3 o4 o5 hrn heq
        k_steps
        refine step_end (by k_asm) (by k_asm) rfl ?_ sub5 (by with_reducible assumption) ST RT (Nat.lt_succ_self _) (nd_drop ndT) (by omega) (by omega) (Or.inr rfl)
        intro z z1 z2 z3 z4
        simp only [if_neg z1, if_neg z2, if_neg z3, if_neg z4]
      | text ok hlt hrn hka hkb heq RT =>
        obtain ⟨o1, o2, o3, o4, o5⟩ := ok
        unfold TR.rnd at hrn
        dsimp only at o1 o2 o3 o4 o5 hrn hka hkb heq
        subst hka hkb
        have W1 := V1
        have W2 := V2
        cases V1 with | text _ ht1 => cases V2 with | text _ ht2 =>
        have hu1 := ht1
        have hu2 := ht2
        obtain ⟨_, _, _, _, _, _, i1, i2, _⟩ := hu1
        obtain ⟨_, _, _, _, _, _, j1, j2, _⟩ := hu2
        k_steps
        refine step_end (by k_asm) (by k_asm) rfl ?_ sub7 (by with_reducible assumption) ST RT (Nat.lt_succ_self _) (nd_drop ndT) (by omega) (by omega) (Or.inl rfl)
        intro z z1 z2 z3 z4
        simp only [if_neg z1, if_neg z2, if_neg z3, if_neg z4]
      | @even _ _ _ _ xa xb ka kb ka' kb' ok hlt hrn hka hkb heq c1 c2 hpar RT =>
        obtain ⟨ca, cb, h1, vca, vcb⟩ := c1
        obtain ⟨ca', cb', h2, vca', vcb'⟩ := c2
        have hb1 := isV_handed vcb
        have hb2 := isV_handed vcb'
        obtain ⟨o1, o2, o3, o4, o5⟩ := ok
        unfold TR.rnd at hrn
        dsimp only at o1 o2 o3 o4 o5 hrn hka hkb heq hpar RT
        subst hka hkb
        have W1 := V1
        have W2 := V2
        cases V1 with | cons _ ca0 cb0 h10 => clear h10; cases V2 with | cons _ ca0' cb0' h20 =>
        clear h20
        have hu1 := h1
        have hu2 := h2
        obtain ⟨_, _, _, i1, i2⟩ := hu1
        obtain ⟨_, _, _, j1, j2⟩ := hu2
        k_steps
        (with_reducible rename News g' L' _ (_ :: _ :: _ :: _ :: _ :: _ :: _ :: _ :: led) => NE)
        rw [app_two] at NE
        refine step_end (by k_asm) NE rfl ?_ sub8 (by with_reducible assumption) (Stk.cons (x := ⟨ka, ka', ka, ka', dd + 1, 0⟩) _ _ _ _ _ _ _ _ _ _ _ _ _ _ vca vca' vca vca' (Stk.cons (x := ⟨kb, kb', ksl, ksr, dd, tt + 1⟩) _ _ _ _ _ _ _ _ _ _ _ _ _ _ vcb vcb' V3 V4 ST)) RT (Nat.lt_succ_self _) (nd_new ndT (by with_reducible assumption) (by assumption)) (by omega) (by omega) (Or.inr rfl)
        intro z z1 z2 z3 z4
        simp only [if_neg z1, if_neg z2, if_neg z3, if_neg z4]
      | @odd _ _ _ _ xa xb xc xe ka kb ka' kb' kc kd ke kf ok hlt hrn hka hkb heq c1 c2 hkc hke c3 c4 hpar RT =>
        obtain ⟨ca, cb, h1, vca, vcb⟩ := c1
        obtain ⟨ca', cb', h2, vca', vcb'⟩ := c2
        obtain ⟨cc, cd, h3, vcc, vcd⟩ := c3
        obtain ⟨ce, cf, h4, vce, vcf⟩ := c4
        have hb1 := isV_handed vcb
        have hb2 := isV_handed vcb'
        have hb3 := isV_handed vcd
        have hb4 := isV_handed vcf
        obtain ⟨o1, o2, o3, o4, o5⟩ := ok
        unfold TR.rnd at hrn
        dsimp only at o1 o2 o3 o4 o5 hrn hka hkb hkc hke heq hpar RT
        subst hka hkb hkc hke
        have W1 := V1
        have W2 := V2
        have W3 := V3
        have W4 := V4
        cases V1 with | cons _ ca0 cb0 h10 => clear h10; cases V2 with | cons _ ca0' cb0' h20 => clear h20; cases V3 with | cons _ ca3 cb3 h30 => clear h30; cases V4 with | cons _ ca4 cb4 h40 =>
        clear h40
        have hu1 := h1
        have hu2 := h2
        obtain ⟨_, _, _, i1, i2⟩ := hu1
        obtain ⟨_, _, _, j1, j2⟩ := hu2
        k_steps
        (with_reducible rename News g' L' _ (_ :: _ :: _ :: _ :: _ :: _ :: _ :: _ :: led) => NE)
        rw [app_two] at NE
        refine step_end (by k_asm) NE rfl ?_ sub8 (by with_reducible assumption) (Stk.cons (x := ⟨ka, ka', ka, ka', dd + 1, 0⟩) _ _ _ _ _ _ _ _ _ _ _ _ _ _ vca vca' vca vca' (Stk.cons (x := ⟨kb, kb', kd, kf, dd, tt + 1⟩) _ _ _ _ _ _ _ _ _ _ _ _ _ _ vcb vcb' vcd vcf ST)) RT (Nat.lt_succ_self _) (nd_new ndT (by with_reducible assumption) (by assumption)) (by omega) (by omega) (Or.inr rfl)
        intro z z1 z2 z3 z4
        simp only [if_neg z1, if_neg z2, if_neg z3, if_neg z4])
end

section
local macro_rules | `(tactic| k_handed) => `(tactic| first | with_reducible assumption | exact isV_handed (by with_reducible assumption))
theorem equal_spec {w : World} {mean : ExcName → Option Value} {mg mb : Str → Option Value} {A A₀ : Around} {base h₀ : Heap} {outer : List Env} {L : Addr} {env : Env} {s : Shared} {m : Str → Option Value} {Q E : Value → Shared → Prop} {R : List (Addr × Obj)} {v v' : Value} {k k' : Kd} {n : Nat} {res : Res} (X : (hd.heap_39 w.params).In h₀) (S : Site 380 3800 mean mg mb A A₀ base outer h₀ L env s m) (HR0 : Has s.heap R) (V : IsV w.params R v k) (V' : IsV w.params R v' k')
    (hn : n ≤ 7000000) (hr : Runs w.params R n [⟨k, k', k, k', 0, 0⟩] res)
    (hyes : res = .yes → ∀ h' tk', s.heap.StaysIn h' → Q (.bool true) { s with heap := h', toks := tk' }) (hno : res = .no → ∀ h' tk', s.heap.StaysIn h' → Q (.bool false) { s with heap := h', toks := tk' })
    (hround : res = .round → ∀ h' tk' e tt, Fly s.heap (env :: outer) e (.str (Str.ofString "circular-list") tt) h' → E (.ref e) { s with heap := h', toks := tk' }) :
    wpAny (model PySem.Challenge.rw_pq0276_01.row.toRowW.prog w) A (call (.ref 273) [v, v']) Q E s := by
  revert X; k_fill; intro X
  obtain ⟨h1, h2, h3, h4, B, F, T, he, hk⟩ := S
  refine toTop h1 h2 h3 h4 ?_
  refine wpAny_call ?_
  (k_dflt (refine' code_own ?k1 ?k2 ?k3 ?k4 ?k5 ?kA ?kF ?kK ?k6 ?k7 ?k8 ?k9 ?kB ?_ ?c2 ?c3 ?c4 ?c5; (case kA => exact rfl); (case kF => assumption); (case kK => assumption); (case k1 => k_asm); (case k2 => k_asm); (case k3 => k_asm); (case k4 => exact News.nil); (case k5 => k_asm); (case k6 => k_is); (case k7 => k_is); (case k8 => k_room); (case k9 => first | exact BindsTo.of_eq rfl | exact binds_K (by k_in) rfl (by k_is) rfl rfl rfl); (case c5 => decide); (case kB => exact locs rfl); (case c2 => exact rfl); (case c3 => exact rfl); (case c4 => exact rfl); k_whole; intro g' L' h' HG' FG' F' N' B' X' T'; (try dsimp only); (try k_fold))); (have HR := Has.stays HR0 (But.stays HG')); (clear HR0)
  repeat' ((fail_if_success (with_reducible show wpAny _ _ (call (Value.ref 259) _) _ _ _)); (first | (k_unfold; (try dsimp only)) | (k_end; wrow_close) | walk1 | (dsimp only; walk1) | (leave1; walk_say "STEP leave1"; try dsimp only) | fail "no step"))
  refine' equal_by_spec ?X ⟨?h, ?d, ?f, ?u, ?B, ?F, ?T, ?e, ?k⟩ ?HR V V' hn hr ?yes ?no ?round
  (case X => k_asm); (case h => exact rfl); (case d => exact Nat.le_of_ble_eq_true rfl); (case f => exact rfl); (case u => exact Nat.le_of_ble_eq_true rfl); (case B => k_asm); (case F => k_asm); (case T => k_asm); (case e => first | exact rfl | assumption); (case k => first | exact rfl | assumption);
  (case HR => exact HR)
  (case yes =>
    intro hy h' tk' FF
    have NN : News g' L' h' [] := News.nil
    k_steps
    exact hyes hy _ _ (endStay HG' (by k_asm)))
  (case no =>
    intro hy h' tk' FF
    have NN : News g' L' h' [] := News.nil
    k_steps
    exact hno hy _ _ (endStay HG' (by k_asm)))
  (case round =>
    intro hy h' tk' e tt FL
    exact fly_on FL (But.stays HG') (by k_asm) rfl rfl (fun h' K => hround hy _ _ _ _ K))
end

/-- objects R' that came anew -/
def Newly (h : Heap) (R' : List (Addr × Obj)) (h' : Heap) : Prop := ∀ p ∈ R', h'.get? p.1 = some p.2 ∧ h.get? p.1 = none
theorem newly_of {h g h' : Heap} {L' : Addr} {R' : List (Addr × Obj)} (k : But h [] g) (N : News g L' h' R') : Newly h R' h' := fun p hp => ⟨(N p hp).1, by
  cases q : h.get? p.1 with
  | none => rfl
  | some o => have := k.stays _ _ q; rw [(N p hp).2.2] at this; cases this⟩
theorem Newly.news {h₀ h h' : Heap} {L : Addr} {m : Str → Option Value} {R' : List (Addr × Obj)} (Y : Newly h R' h') (F : Fr h₀ L h m) : News h₀ L h' R' := fun p hp => by
  obtain ⟨y1, y2⟩ := Y p hp
  refine ⟨y1, fun q => ?_, ?_⟩
  · obtain ⟨o, _, _, e, _⟩ := F.ns
    rw [q, e] at y2; cases y2
  · cases q : h₀.get? p.1 with
    | none => rfl
    | some o => have := F.keep _ _ q; rw [y2] at this; cases this
/-- the thing that a code stands for -/
inductive ThingK (P : Params) (R : List (Addr × Obj)) : Int → Kd → Prop where
  | num (c : Int) : 0 ≤ c → c < 3 → ThingK P R c (.int c)
  | text (x : Addr) : ThingK P R 3 (.text x)
  | one (x : Addr) : ConsK P R x (.int 1) .nil → ThingK P R 4 (.cons x)
  | nil : ThingK P R 5 .nil
theorem ConsK.mono {P : Params} {R R' : List (Addr × Obj)} {x : Addr} {a b : Kd} (h : ConsK P R x a b) (hs : ∀ p ∈ R, p ∈ R') : ConsK P R' x a b := by obtain ⟨c, d, q, v, w⟩ := h; exact ⟨c, d, q.mono hs, v.mono hs, w.mono hs⟩
theorem ThingK.mono {P : Params} {R R' : List (Addr × Obj)} {c : Int} {k : Kd} (h : ThingK P R c k) (hs : ∀ p ∈ R, p ∈ R') : ThingK P R' c k := by
  cases h with
  | num c a b => exact .num c a b
  | text x => exact .text x
  | one x q => exact .one x (q.mono hs)
  | nil => exact .nil
section
local macro_rules | `(tactic| k_handed) => `(tactic| first | with_reducible assumption | exact isV_handed (by with_reducible assumption))
theorem cons_new {w : World} {mean : ExcName → Option Value} {mg mb : Str → Option Value} {A A₀ : Around} {base h₀ : Heap} {outer : List Env} {L : Addr} {env : Env} {s : Shared} {m : Str → Option Value} {Q E : Value → Shared → Prop} {news : List (Addr × Obj)} {l r : Value} (X : (hd.heap_39 w.params).In h₀) (S : Site 400 4000 mean mg mb A A₀ base outer h₀ L env s m) (N : News h₀ L s.heap news) (hl : handedIn l = true) (hr : handedIn r = true)
    (h : ∀ h' tk' y dy t1 t2, Fr h₀ L h' m → News h₀ L h' ((y, instObj 82 dy) :: (dy, consDict w.params t1 t2 l r) :: news) → (∀ p ∈ news, p.1 < dy) → @LT.lt Nat _ dy y → 
      Q (.ref y) { s with heap := h', toks := tk' }) :
    wpAny (model PySem.Challenge.rw_pq0276_01.row.toRowW.prog w) A (call (.ref 82) [l, r]) Q E s := by
  revert X; k_fill; intro X
  obtain ⟨h1, h2, h3, h4, B, F, T, he, hk⟩ := S
  refine toTop h1 h2 h3 h4 ?_
  k_dflt (refine' call_cls ?k1 ?k2 ?k3 ?k4 ?k5 ?k6 ?_; (case k1 => k_asm); (case k2 => k_asm); (case k3 => k_asm); (case k4 => k_is); (case k5 => k_is); (case k6 => k_is); k_whole; intro x' d' hx' F' N0 l1 l2)
  have hne : x' ≠ d' := Nat.ne_of_gt l2
  have N1 := news_two N0
  have N2 := news_rest N0
  have d2 : ∀ p ∈ news, p.1 ∉ [x', d'] := fun p hp q => by
    have := l1 p hp
    simp only [List.mem_cons, List.not_mem_nil, or_false] at q
    rcases q with q | q
    · rw [q] at this; exact Nat.lt_irrefl _ (Nat.lt_trans this l2)
    · rw [q] at this; exact Nat.lt_irrefl _ this
  (k_dflt (refine' code_own ?k1 ?k2 ?k3 ?k4 ?k5 ?kA ?kF ?kK ?k6 ?k7 ?k8 ?k9 ?kB ?_ ?c2 ?c3 ?c4 ?c5; (case kA => exact rfl); (case kF => assumption); (case kK => assumption); (case k1 => k_asm); (case k2 => k_asm); (case k3 => k_asm); (case k4 => exact N1); (case k5 => k_asm); (case k6 => k_is); (case k7 => k_is); (case k8 => k_room); (case k9 => first | exact BindsTo.of_eq rfl | exact binds_K (by k_in) rfl (by k_is) rfl rfl rfl); (case c5 => decide); (case kB => exact locs rfl); (case c2 => exact rfl); (case c3 => exact rfl); (case c4 => exact rfl); k_whole; intro g' L' h' HG' FG' F' N' B' X' T'; (try dsimp only); (try k_fold)))
  k_steps
  have NN : News h₀ L _ news := News.but N2 (But.fr HG' (by k_asm)) d2
  (with_reducible rename News h₀ L _ [_, _] => kN)
  exact h _ _ _ _ _ _ (by k_asm) (news_join kN NN) l1 l2
theorem thing_spec {w : World} {mean : ExcName → Option Value} {mg mb : Str → Option Value} {A A₀ : Around} {base h₀ : Heap} {outer : List Env} {L : Addr} {env : Env} {s : Shared} {m : Str → Option Value} {Q E : Value → Shared → Prop} {c : Int} {tc : Tok} (X : (hd.heap_39 w.params).In h₀) (S : Site 400 4000 mean mg mb A A₀ base outer h₀ L env s m) (hc0 : 0 ≤ c) (hc6 : c < 6)
    (h : ∀ h' tk' v k R', s.heap.StaysIn h' → Newly s.heap R' h' → IsV w.params R' v k → ThingK w.params R' c k → Q v { s with heap := h', toks := tk' }) :
    wpAny (model PySem.Challenge.rw_pq0276_01.row.toRowW.prog w) A (call (.ref 299) [.int c tc]) Q E s := by
  revert X; k_fill; intro X
  obtain ⟨h1, h2, h3, h4, B, F, T, he, hk⟩ := S
  refine toTop h1 h2 h3 h4 ?_
  refine wpAny_call ?_
  have cs : c = 0 ∨ c = 1 ∨ c = 2 ∨ c = 3 ∨ c = 4 ∨ c = 5 := by omega
  rcases cs with rfl | rfl | rfl | rfl | rfl | rfl
  case inr.inr.inr.inl =>
    (k_dflt (refine' code_own ?k1 ?k2 ?k3 ?k4 ?k5 ?kA ?kF ?kK ?k6 ?k7 ?k8 ?k9 ?kB ?_ ?c2 ?c3 ?c4 ?c5; (case kA => exact rfl); (case kF => assumption); (case kK => assumption); (case k1 => k_asm); (case k2 => k_asm); (case k3 => k_asm); (case k4 => exact News.nil); (case k5 => k_asm); (case k6 => k_is); (case k7 => k_is); (case k8 => k_room); (case k9 => first | exact BindsTo.of_eq rfl | exact binds_K (by k_in) rfl (by k_is) rfl rfl rfl); (case c5 => decide); (case kB => exact locs rfl); (case c2 => exact rfl); (case c3 => exact rfl); (case c4 => exact rfl); k_whole; intro g' L' h' HG' FG' F' N' B' X' T'; (try dsimp only); (try k_fold))); k_steps
    (with_reducible rename News g' _ _ _ => kN9)
    exact h _ _ _ _ _ (endStay HG' (by k_asm)) (newly_of HG' kN9) (.text _ ⟨_, _, _, _, _, _, .head _, .tail _ (.head _), .tail _ (.tail _ (.head _))⟩) (.text _)
  case inr.inr.inr.inr.inl =>
    (k_dflt (refine' code_own ?k1 ?k2 ?k3 ?k4 ?k5 ?kA ?kF ?kK ?k6 ?k7 ?k8 ?k9 ?kB ?_ ?c2 ?c3 ?c4 ?c5; (case kA => exact rfl); (case kF => assumption); (case kK => assumption); (case k1 => k_asm); (case k2 => k_asm); (case k3 => k_asm); (case k4 => exact News.nil); (case k5 => k_asm); (case k6 => k_is); (case k7 => k_is); (case k8 => k_room); (case k9 => first | exact BindsTo.of_eq rfl | exact binds_K (by k_in) rfl (by k_is) rfl rfl rfl); (case c5 => decide); (case kB => exact locs rfl); (case c2 => exact rfl); (case c3 => exact rfl); (case c4 => exact rfl); k_whole; intro g' L' h' HG' FG' F' N' B' X' T'; (try dsimp only); (try k_fold))); k_steps
    (with_reducible rename News g' _ _ _ => kN9)
    exact h _ _ _ _ _ (endStay HG' (by k_asm)) (newly_of HG' kN9) (.cons _ _ _ ⟨_, _, _, .head _, .tail _ (.head _)⟩) (.one _ ⟨_, _, ⟨_, _, _, .head _, .tail _ (.head _)⟩, .int 1 _, .nil⟩)
  case inr.inr.inr.inr.inr =>
    (k_dflt (refine' code_own ?k1 ?k2 ?k3 ?k4 ?k5 ?kA ?kF ?kK ?k6 ?k7 ?k8 ?k9 ?kB ?_ ?c2 ?c3 ?c4 ?c5; (case kA => exact rfl); (case kF => assumption); (case kK => assumption); (case k1 => k_asm); (case k2 => k_asm); (case k3 => k_asm); (case k4 => exact News.nil); (case k5 => k_asm); (case k6 => k_is); (case k7 => k_is); (case k8 => k_room); (case k9 => first | exact BindsTo.of_eq rfl | exact binds_K (by k_in) rfl (by k_is) rfl rfl rfl); (case c5 => decide); (case kB => exact locs rfl); (case c2 => exact rfl); (case c3 => exact rfl); (case c4 => exact rfl); k_whole; intro g' L' h' HG' FG' F' N' B' X' T'; (try dsimp only); (try k_fold))); k_steps
    exact h _ _ _ _ [] (endStay HG' (by k_asm)) (newly_of (L' := L') HG' News.nil) .nil .nil
  all_goals
    (k_dflt (refine' code_own ?k1 ?k2 ?k3 ?k4 ?k5 ?kA ?kF ?kK ?k6 ?k7 ?k8 ?k9 ?kB ?_ ?c2 ?c3 ?c4 ?c5; (case kA => exact rfl); (case kF => assumption); (case kK => assumption); (case k1 => k_asm); (case k2 => k_asm); (case k3 => k_asm); (case k4 => exact News.nil); (case k5 => k_asm); (case k6 => k_is); (case k7 => k_is); (case k8 => k_room); (case k9 => first | exact BindsTo.of_eq rfl | exact binds_K (by k_in) rfl (by k_is) rfl rfl rfl); (case c5 => decide); (case kB => exact locs rfl); (case c2 => exact rfl); (case c3 => exact rfl); (case c4 => exact rfl); k_whole; intro g' L' h' HG' FG' F' N' B' X' T'; (try dsimp only); (try k_fold))); k_steps
    exact h _ _ _ _ [] (endStay HG' (by k_asm)) (newly_of (L' := L') HG' News.nil) (.int _ _) (.num _ (by decide) (by decide))
end

section
variable {prog : Program} {w : World} {A : Around} {E : Value → Shared → Prop} {s : Shared} {h₀ : Heap} {L : Addr} {m : Str → Option Value} {env : Env}
theorem comp_ind {elt : Expr} {x : Str} {scope : Scope} {cl : List (Str × Addr)} {S : List (Addr × Obj) → Prop} {P : Nat → Value → Prop} {Fin : List Value → List (Addr × Obj) → Prop} {Inv : Nat → List Value → List (Addr × Obj) → Prop} (n : Nat)
    (step : ∀ i ys news, i < n → Inv i ys news → ∀ v I oI C oC D m₂ h tk (E' : Value → Shared → Prop), P i v → LCg.NsObj oC m₂ → m₂ x = some v → Fr h₀ L h m → News h₀ L h ((I, oI) :: (C, oC) :: (D, LCg.lst ys) :: news) → LCg.Off3 I C D news → ((@Ne Nat I C) ∧ (@Ne Nat I D) ∧ (@Ne Nat C D)) →
      wpAny (model prog w) A (eval elt (compEnvC scope cl C env)) (LCg.CompEnd h₀ L m { s with heap := h, toks := tk } I oI C oC D (LCg.lst ys) S (fun y news' => Inv (i + 1) (ys ++ [y]) news')) E' { s with heap := h, toks := tk })
    (fin : ∀ ys news, Inv n ys news → Fin ys news) : ∀ k i ys news, i + k = n → Inv i ys news → LCg.CompRest prog w A h₀ L m env elt x scope cl s S P Fin k i ys news := by
  intro k
  induction k with
  | zero => intro i ys news hi h; obtain rfl : i = n := hi; exact fin _ _ h
  | succ k ih =>
    intro i ys news hi h v I oI C oC D m₂ hh tk E' a1 a2 a3 a4 a5 a6 a7
    refine wpAny_mono (step i ys news (by omega) h v I oI C oC D m₂ hh tk E' a1 a2 a3 a4 a5 a6 a7) (fun y s₂ q => ?_) fun _ _ e => e
    obtain ⟨b1, b2, b3, b4, b5, b6, b7, b8, b9⟩ := q
    exact ⟨b1, b2, b3, b4, b5, b6, b7, b8, ih _ _ _ (by omega) b9⟩
theorem range_ind {x : Str} {body : List Stmt} {Q : Flow → Shared → Prop} {I : Addr} {a : Int} {Inv : Nat → (Str → Option Value) → List (Addr × Obj) → Prop} (n : Nat)
    (step : ∀ i m news, i < n → Inv i m news → ∀ t h tk, Fr h₀ env.locals h (fun y => if y = x then some (.int (a + (i : Int)) t) else m y) → News h₀ env.locals h ((I, itR (a + ((i + 1 : Nat) : Int)) ((n : Int) - ((i + 1 : Nat) : Int))) :: news) →
      wpAny (model prog w) A (execs body env) (UnrPost h₀ env.locals { s with heap := h, toks := tk } I (itR (a + ((i + 1 : Nat) : Int)) ((n : Int) - ((i + 1 : Nat) : Int))) (fun m' news' => Inv (i + 1) m' news') Q) E { s with heap := h, toks := tk })
    (fin : ∀ m news, Inv n m news → ∀ h tk, Fr h₀ env.locals h m → News h₀ env.locals h news → Q .next { s with heap := h, toks := tk }) :
    ∀ k i m news, i + k = n → Inv i m news → RangeRest prog w A E h₀ env x body Q s I a n k i m news := by
  intro k
  induction k with
  | zero => intro i m news hi h; obtain rfl : i = n := hi; exact fin _ _ h
  | succ k ih =>
    intro i m news hi h t hh tk a1 a2
    have up : ∀ s₂, UnrEnd h₀ env.locals { s with heap := hh, toks := tk } I (itR (a + ((i + 1 : Nat) : Int)) ((n : Int) - ((i + 1 : Nat) : Int))) (fun m' news' => Inv (i + 1) m' news') s₂ → UnrEnd h₀ env.locals { s with heap := hh, toks := tk } I (itR (a + ((i + 1 : Nat) : Int)) ((n : Int) - ((i + 1 : Nat) : Int))) (RangeRest prog w A E h₀ env x body Q s I a n k (i + 1)) s₂ := by
      rintro s₂ ⟨b1, b2, b3, b4, b5, b6, b7, b8, b9⟩
      exact ⟨b1, b2, b3, b4, b5, b6, b7, b8, ih _ _ _ (by omega) b9⟩
    refine wpAny_mono (step i m news (by omega) h t hh tk a1 a2) (fun f s₂ q => ?_) fun _ _ e => e
    cases f with
    | ret v => exact q
    | brk => exact q
    | next => exact up _ q
    | cont => exact up _ q
theorem range_ind1 {x : Str} {body : List Stmt} {Q : Flow → Shared → Prop} {I : Addr} {a : Int} {m₀ : Str → Option Value} {Inv : Nat → List (Addr × Obj) → Prop} (n : Nat)
    (step : ∀ i news, i < n → Inv i news → ∀ t h tk, Fr h₀ env.locals h (fun y => if y = x then some (.int (a + (i : Int)) t) else m₀ y) → News h₀ env.locals h ((I, itR (a + ((i + 1 : Nat) : Int)) ((n : Int) - ((i + 1 : Nat) : Int))) :: news) →
      wpAny (model prog w) A (execs body env) (UnrPost h₀ env.locals { s with heap := h, toks := tk } I (itR (a + ((i + 1 : Nat) : Int)) ((n : Int) - ((i + 1 : Nat) : Int))) (fun m' news' => (∀ y, y ≠ x → m' y = m₀ y) ∧ Inv (i + 1) news') Q) E { s with heap := h, toks := tk })
    (fin : ∀ u news, Inv n news → ∀ h tk, Fr h₀ env.locals h (fun y => if y = x then u else m₀ y) → News h₀ env.locals h news → Q .next { s with heap := h, toks := tk }) (news : List (Addr × Obj)) (h0 : Inv 0 news) :
    RangeRest prog w A E h₀ env x body Q s I a n n 0 m₀ news := by
  refine range_ind (Inv := fun i m news => (∀ y, y ≠ x → m y = m₀ y) ∧ Inv i news) n ?_ ?_ n 0 m₀ news (Nat.zero_add _) ⟨fun y _ => rfl, h0⟩
  · rintro i m news hi ⟨hm, hI⟩ t h tk F N
    have e : (fun y => if y = x then some (Value.int (a + (i : Int)) t) else m y) = (fun y => if y = x then some (Value.int (a + (i : Int)) t) else m₀ y) := by
      funext y
      by_cases q : y = x
      · rw [if_pos q, if_pos q]
      · rw [if_neg q, if_neg q, hm y q]
    rw [e] at F
    exact step i news hi hI t h tk F N
  · rintro m news ⟨hm, hI⟩ h tk F N
    have e : m = (fun y => if y = x then m x else m₀ y) := by
      funext y
      by_cases q : y = x
      · rw [if_pos q, q]
      · rw [if_neg q, hm y q]
    rw [e] at F
    exact fin _ news hI h tk F N
theorem range_n (n : Nat) : Builtin.Range.rangeSize 0 ((n : Int) - 1) 1 = ((n - 1 : Nat) : Int) := by rw [rangeSize_one]; split <;> omega
end
structure Cell where
  x : Addr
  dx : Addr
  t1 : Tok
  t2 : Tok
  v : Value
  k : Kd
def led (P : Params) (cells : List Cell) (f : Nat → Value) : List (Addr × Obj) := cells.zipIdx.flatMap fun q => [(q.1.x, instObj 82 q.1.dx), (q.1.dx, consDict P q.1.t1 q.1.t2 q.1.v (f q.2))]
theorem mem_led {P : Params} {cells : List Cell} {f : Nat → Value} {p : Addr × Obj} : p ∈ led P cells f ↔ ∃ (i : Nat) (c : Cell), cells[i]? = some c ∧ (p = (c.x, instObj 82 c.dx) ∨ p = (c.dx, consDict P c.t1 c.t2 c.v (f i))) := by
  unfold led
  simp only [List.mem_flatMap, List.mem_cons, List.not_mem_nil, or_false]
  constructor
  · rintro ⟨⟨c, i⟩, hq, h⟩
    exact ⟨i, c, List.mk_mem_zipIdx_iff_getElem?.mp hq, h⟩
  · rintro ⟨i, c, hq, h⟩
    exact ⟨(c, i), List.mk_mem_zipIdx_iff_getElem?.mpr hq, h⟩
theorem led_congr {P : Params} {cells : List Cell} {f g : Nat → Value} (h : ∀ i, i < cells.length → f i = g i) : led P cells f = led P cells g := by
  unfold led
  have key : ∀ q ∈ cells.zipIdx, [(q.1.x, instObj 82 q.1.dx), (q.1.dx, consDict P q.1.t1 q.1.t2 q.1.v (f q.2))] = [(q.1.x, instObj 82 q.1.dx), (q.1.dx, consDict P q.1.t1 q.1.t2 q.1.v (g q.2))] := fun q hq => by
    have : cells[q.2]? = some q.1 := List.mk_mem_zipIdx_iff_getElem?.mp hq
    rw [h q.2 (by obtain ⟨a, _⟩ := List.getElem?_eq_some_iff.mp this; exact a)]
  rw [List.flatMap_def, List.flatMap_def, List.map_congr_left key]
theorem led_snoc {P : Params} {cells : List Cell} {f : Nat → Value} {c : Cell} {p : Addr × Obj} : p ∈ led P (cells ++ [c]) f ↔ p ∈ led P cells f ∨ p = (c.x, instObj 82 c.dx) ∨ p = (c.dx, consDict P c.t1 c.t2 c.v (f cells.length)) := by
  rw [mem_led, mem_led]
  constructor
  · rintro ⟨i, d, hi, h⟩
    by_cases hlt : i < cells.length
    · rw [List.getElem?_append_left hlt] at hi
      exact .inl ⟨i, d, hi, h⟩
    · rw [List.getElem?_append_right (Nat.not_lt.mp hlt)] at hi
      have q := List.getElem?_eq_some_iff.mp hi
      obtain ⟨q1, q2⟩ := q
      have : i - cells.length = 0 := by simpa using q1
      have e : i = cells.length := by omega
      subst e
      simp at q2
      subst q2
      exact .inr h
  · rintro (⟨i, d, hi, h⟩ | h)
    · have hlt : i < cells.length := (List.getElem?_eq_some_iff.mp hi).1
      exact ⟨i, d, by rw [List.getElem?_append_left hlt]; exact hi, h⟩
    · exact ⟨cells.length, c, by simp, h⟩
/-- the cells hold the things of these codes -/
def Made (P : Params) (RT : List (Addr × Obj)) (codes : List Int) (cells : List Cell) : Prop := ∀ (i : Nat) (c : Cell) (n : Int), cells[i]? = some c → codes[i]? = some n → IsV P RT c.v c.k ∧ ThingK P RT n c.k
def Dist (cells : List Cell) (RT : List (Addr × Obj)) : Prop := (∀ (i j : Nat) (ci cj : Cell), cells[i]? = some ci → cells[j]? = some cj → i ≠ j → @Ne Nat ci.dx cj.dx) ∧ ∀ p ∈ RT, ∀ c ∈ cells, @Ne Nat p.1 c.dx
/-- the ledger while the conses are made -/
abbrev compLed (P : Params) (src : Addr × Obj) (cells : List Cell) (RT : List (Addr × Obj)) : List (Addr × Obj) := src :: (led P cells (fun _ => .ref 64) ++ RT)
theorem snoc_get {α : Type} {l : List α} {a b : α} {i : Nat} (h : (l ++ [a])[i]? = some b) : l[i]? = some b ∨ (i = l.length ∧ a = b) := by
  by_cases hlt : i < l.length
  · rw [List.getElem?_append_left hlt] at h; exact .inl h
  · rw [List.getElem?_append_right (Nat.not_lt.mp hlt)] at h
    obtain ⟨q1, q2⟩ := List.getElem?_eq_some_iff.mp h
    have : i - l.length = 0 := by simpa using q1
    have e : i = l.length := by omega
    subst e
    simp at q2
    exact .inr ⟨rfl, q2⟩
theorem ints_at {vs : List Value} {ns : List Int} (h : IntsAre vs ns) : ∀ (i : Nat) (v : Value), vs[i]? = some v → ∃ (n : Int) (t : Tok), ns[i]? = some n ∧ v = .int n t := by
  induction h with
  | nil => intro i v h; simp at h
  | cons n t _ ih =>
    intro i v h
    cases i with
    | zero => simp at h; exact ⟨n, t, by simp, h.symm⟩
    | succ i => simp at h; obtain ⟨n, t, a, b⟩ := ih i v h; exact ⟨n, t, by simpa using a, b⟩
theorem made_snoc {P : Params} {RT R' : List (Addr × Obj)} {codes : List Int} {cells : List Cell} {c : Cell} {n : Int} (M : Made P RT codes cells) (hn : codes[cells.length]? = some n) (V : IsV P R' c.v c.k) (T : ThingK P R' n c.k) : Made P (R' ++ RT) codes (cells ++ [c]) := fun i d n' hi hn' => by
  rcases snoc_get hi with hi | ⟨rfl, rfl⟩
  · obtain ⟨a, b⟩ := M i d n' hi hn'
    exact ⟨a.mono fun p hp => List.mem_append_right _ hp, b.mono fun p hp => List.mem_append_right _ hp⟩
  · rw [hn] at hn'
    cases hn'
    exact ⟨V.mono fun p hp => List.mem_append_left _ hp, T.mono fun p hp => List.mem_append_left _ hp⟩
theorem dist_snoc {P : Params} {RT R' : List (Addr × Obj)} {cells : List Cell} {c : Cell} {f : Nat → Value} (D : Dist cells RT) (hl : ∀ p ∈ led P cells f, p.1 < c.dx) (hR : ∀ p ∈ RT, p.1 < c.dx) (hR' : ∀ p ∈ R', p.1 < c.dx) (hn : ∀ p ∈ R', ∀ d ∈ cells, @Ne Nat p.1 d.dx) : Dist (cells ++ [c]) (R' ++ RT) := by
  have lt : ∀ (i : Nat) (d : Cell), cells[i]? = some d → @LT.lt Nat _ d.dx c.dx := fun i d h => hl (d.dx, _) (mem_led.mpr ⟨i, d, h, .inr rfl⟩)
  refine ⟨fun i j ci cj hi hj hij => ?_, fun p hp d hd => ?_⟩
  · rcases snoc_get hi with hi | ⟨rfl, rfl⟩ <;> rcases snoc_get hj with hj | ⟨rfl, rfl⟩
    · exact D.1 i j ci cj hi hj hij
    · exact Nat.ne_of_lt (lt i _ hi)
    · exact Nat.ne_of_gt (lt j _ hj)
    · exact absurd rfl hij
  · rcases List.mem_append.mp hd with hd | hd
    · rcases List.mem_append.mp hp with hp | hp
      · exact hn p hp d hd
      · exact D.2 p hp d hd
    · rw [List.mem_singleton.mp hd]
      rcases List.mem_append.mp hp with hp | hp
      · exact Nat.ne_of_lt (hR' p hp)
      · exact Nat.ne_of_lt (hR p hp)
theorem comp_sub {P : Params} {a b c src : Addr × Obj} {cells : List Cell} {RT R7 : List (Addr × Obj)} {y d : Addr} {t1 t2 : Tok} {v : Value} {k : Kd} :
    ∀ p ∈ a :: b :: c :: compLed P src (cells ++ [⟨y, d, t1, t2, v, k⟩]) (R7 ++ RT), p ∈ (y, instObj 82 d) :: (d, consDict P t1 t2 v (.ref 64)) :: (R7 ++ a :: b :: c :: compLed P src cells RT) := fun p hp => by
  simp only [List.mem_cons, List.mem_append, led_snoc] at hp ⊢
  rcases hp with h | h | h | h | (h | h | h) | h | h <;> simp [h]
theorem comp_off {P : Params} {h₀ h h' : Heap} {L I C D : Addr} {oI oC oD : Obj} {src : Addr × Obj} {cells : List Cell} {RT R7 : List (Addr × Obj)} {y d : Addr} {t1 t2 : Tok} {v : Value} {k : Kd} (Y : Newly h R7 h') (N : News h₀ L h ((I, oI) :: (C, oC) :: (D, oD) :: compLed P src cells RT)) (off : LCg.Off3 I C D (compLed P src cells RT))
    (l : ∀ p ∈ R7 ++ (I, oI) :: (C, oC) :: (D, oD) :: compLed P src cells RT, p.1 < d) (g : @LT.lt Nat _ d y) : LCg.Off3 I C D (compLed P src (cells ++ [⟨y, d, t1, t2, v, k⟩]) (R7 ++ RT)) := by
  have lI : @LT.lt Nat _ I d := l (I, oI) (List.mem_append_right _ (.head _))
  have lC : @LT.lt Nat _ C d := l (C, oC) (List.mem_append_right _ (.tail _ (.head _)))
  have lD : @LT.lt Nat _ D d := l (D, oD) (List.mem_append_right _ (.tail _ (.tail _ (.head _))))
  have nI := (N (I, oI) (.head _)).1
  have nC := (N (C, oC) (.tail _ (.head _))).1
  have nD := (N (D, oD) (.tail _ (.tail _ (.head _)))).1
  refine LCg.Off3.of fun p hp => ?_
  simp only [List.mem_cons, List.mem_append, led_snoc] at hp
  have o := off.mem
  have new : ∀ p ∈ R7, p.1 ≠ I ∧ p.1 ≠ C ∧ p.1 ≠ D := fun p hp => by
    have y2 := (Y p hp).2
    refine ⟨fun q => ?_, fun q => ?_, fun q => ?_⟩ <;> (rw [q] at y2)
    · rw [y2] at nI; cases nI
    · rw [y2] at nC; cases nC
    · rw [y2] at nD; cases nD
  rcases hp with hp | (hp | hp | hp) | hp | hp
  · exact o p (by simp [hp])
  · exact o p (by simp [hp])
  · rw [hp]; exact ⟨Nat.ne_of_gt (Nat.lt_trans lI g), Nat.ne_of_gt (Nat.lt_trans lC g), Nat.ne_of_gt (Nat.lt_trans lD g)⟩
  · rw [hp]; exact ⟨Nat.ne_of_gt lI, Nat.ne_of_gt lC, Nat.ne_of_gt lD⟩
  · exact new p hp
  · exact o p (by simp [hp])
theorem ne_of_obj {h₀ h : Heap} {L : Addr} {all : List (Addr × Obj)} (N : News h₀ L h all) {p q : Addr × Obj} (hp : p ∈ all) (hq : q ∈ all) (e : p.2.cls ≠ q.2.cls) : p.1 ≠ q.1 := fun z => by
  have a := (N p hp).1
  have b := (N q hq).1
  rw [z, b] at a
  exact e (congrArg Obj.cls (Option.some.inj a).symm)
theorem set_cdr {w : World} {A : Around} {E : Value → Shared → Prop} {s : Shared} {h₀ : Heap} {L : Addr} {m : Str → Option Value} {Q : Unit → Shared → Prop} {news : List (Addr × Obj)} {x dx : Addr} {t1 t2 : Tok} {l r v : Value} (X : (hd.heap_39 w.params).In h₀) (F : Fr h₀ L s.heap m) (N : News h₀ L s.heap news)
    (i1 : (x, instObj 82 dx) ∈ news) (i2 : (dx, consDict w.params t1 t2 l r) ∈ news)
    (h : ∀ h' tk', Fr h₀ L h' m → News h₀ L h' ((dx, consDict w.params t1 t2 l v) :: news.filter (fun p => decide (p.1 ≠ dx))) → Q () { s with heap := h', toks := tk' }) :
    wpAny (model PySem.Challenge.rw_pq0276_01.row.toRowW.prog w) A (setAttr (.ref x) (Str.ofString "cdr") v) Q E s := by
  revert X; k_fill; intro X
  have N1 : News h₀ L s.heap ((dx, consDict w.params t1 t2 l r) :: news.filter (fun p => decide (p.1 ≠ dx))) := fun p hp => by
    rcases List.mem_cons.mp hp with rfl | hp
    · exact N _ i2
    · exact N p (List.mem_filter.mp hp).1
  k_dflt (refine' set_dict F ?k2 N1 (InstAt.of_news N i1 i2) rfl ?k6 ?k7 ?k8 ?k9 ?k10 ?k11 (Upd.head (fun p hp => by simpa using (List.mem_filter.mp hp).2)) ?k13 ?_; (case k2 => k_asm); (case k6 => k_is); (case k7 => k_is); (case k8 => k_is); (case k9 => k_is); (case k10 => k_get); (case k11 => k_put); (case k13 => exact Nat.le_of_ble_eq_true rfl); k_whole; intro h' F' N')
  exact h _ _ F' N'
theorem upd_sub {P : Params} {h₀ h : Heap} {L I D l : Addr} {oI oD ol : Obj} {cells : List Cell} {RT : List (Addr × Obj)} {f f' : Nat → Value} {i : Nat} {c : Cell} {v : Value} (N : News h₀ L h ((I, oI) :: (D, oD) :: (l, ol) :: (led P cells f ++ RT))) (hD : Dist cells RT) (hc : cells[i]? = some c) (hv : f' i = v)
    (ff : ∀ j, j ≠ i → f' j = f j) (n1 : oI.cls ≠ .type "dict") (n2 : oD.cls ≠ .type "dict") (n3 : ol.cls ≠ .type "dict") :
    ∀ p ∈ (I, oI) :: (D, oD) :: (l, ol) :: (led P cells f' ++ RT), p ∈ (c.dx, consDict P c.t1 c.t2 c.v v) :: List.filter (fun p => decide (p.1 ≠ c.dx)) ((I, oI) :: (D, oD) :: (l, ol) :: (led P cells f ++ RT)) := by
  have md : (c.dx, consDict P c.t1 c.t2 c.v (f i)) ∈ (I, oI) :: (D, oD) :: (l, ol) :: (led P cells f ++ RT) := .tail _ (.tail _ (.tail _ (List.mem_append_left _ (mem_led.mpr ⟨i, c, hc, .inr rfl⟩))))
  have old : ∀ p ∈ (I, oI) :: (D, oD) :: (l, ol) :: (led P cells f ++ RT), p.1 ≠ c.dx → p ∈ (c.dx, consDict P c.t1 c.t2 c.v v) :: List.filter (fun p => decide (p.1 ≠ c.dx)) ((I, oI) :: (D, oD) :: (l, ol) :: (led P cells f ++ RT)) :=
    fun p hp hn => .tail _ (List.mem_filter.mpr ⟨hp, by simpa using hn⟩)
  intro p hp
  rcases List.mem_cons.mp hp with rfl | hp
  · exact old _ (.head _) (ne_of_obj N (.head _) md n1)
  rcases List.mem_cons.mp hp with rfl | hp
  · exact old _ (.tail _ (.head _)) (ne_of_obj N (.tail _ (.head _)) md n2)
  rcases List.mem_cons.mp hp with rfl | hp
  · exact old _ (.tail _ (.tail _ (.head _))) (ne_of_obj N (.tail _ (.tail _ (.head _))) md n3)
  rcases List.mem_append.mp hp with hp | hp
  · obtain ⟨j, d, hj, rfl | rfl⟩ := mem_led.mp hp
    · have mj : (d.x, instObj 82 d.dx) ∈ (I, oI) :: (D, oD) :: (l, ol) :: (led P cells f ++ RT) := .tail _ (.tail _ (.tail _ (List.mem_append_left _ (mem_led.mpr ⟨j, d, hj, .inl rfl⟩))))
      exact old _ mj (ne_of_obj N mj md (by intro e; cases e))
    · by_cases ji : j = i
      · subst ji
        rw [hc] at hj; cases hj
        rw [hv]; exact .head _
      · rw [ff j ji]
        exact old _ (.tail _ (.tail _ (.tail _ (List.mem_append_left _ (mem_led.mpr ⟨j, d, hj, .inr rfl⟩))))) (hD.1 j i d c hj hc ji)
  · exact old _ (.tail _ (.tail _ (.tail _ (List.mem_append_right _ hp)))) (hD.2 p hp c (List.mem_of_getElem? hc))
theorem ite_step {α : Type} {i j : Nat} {a b : α} (hj : j ≠ i) : (if j < i + 1 then a else b) = if j < i then a else b := by
  by_cases q : j < i
  · rw [if_pos q, if_pos (by omega)]
  · rw [if_neg q, if_neg (by omega)]
theorem led_addr {P : Params} {cells : List Cell} {f g : Nat → Value} {RT : List (Addr × Obj)} {I D l : Addr} {oD ol : Obj} (h : ∀ p ∈ (D, oD) :: (l, ol) :: (led P cells f ++ RT), p.1 < I) : ∀ p ∈ (D, oD) :: (l, ol) :: (led P cells g ++ RT), p.1 ≠ I := by
  intro p hp
  refine Nat.ne_of_lt ?_
  rcases List.mem_cons.mp hp with rfl | hp
  · exact h _ (.head _)
  rcases List.mem_cons.mp hp with rfl | hp
  · exact h _ (.tail _ (.head _))
  rcases List.mem_append.mp hp with hp | hp
  · obtain ⟨j, d, hj, rfl | rfl⟩ := mem_led.mp hp
    · exact h (d.x, instObj 82 d.dx) (.tail _ (.tail _ (List.mem_append_left _ (mem_led.mpr ⟨j, d, hj, .inl rfl⟩))))
    · exact h (d.dx, consDict P d.t1 d.t2 d.v (f j)) (.tail _ (.tail _ (List.mem_append_left _ (mem_led.mpr ⟨j, d, hj, .inr rfl⟩))))
  · exact h p (.tail _ (.tail _ (List.mem_append_right _ hp)))
/-- what the last cons holds behind its dot -/
inductive ListEnd (cells : List Cell) (ns ms : List Int) (t : Int) : Value → Prop where
  | ring (c : Cell) : ms ≠ [] → cells[ns.length]? = some c → ListEnd cells ns ms t (.ref c.x)
  | nil : ms = [] → t = 0 → ListEnd cells ns ms t (.ref 64)
  | num (tt : Tok) : ms = [] → t ≠ 0 → ListEnd cells ns ms t (.int t tt)
theorem ListEnd.handed {cells : List Cell} {ns ms : List Int} {t : Int} {v : Value} (h : ListEnd cells ns ms t v) : handedIn v = true := by cases h <;> rfl
def headOf (cells : List Cell) (ev : Value) : Value := match cells with
  | [] => ev
  | c :: _ => .ref c.x
theorem led_nil {P : Params} {f : Nat → Value} : led P [] f = [] := rfl
theorem rc_nil {A : Around} {s : Shared} {l b : Addr} {items items2 : Array Value} (hl : s.heap.IsList l items) (hb : s.heap.IsList b items2) (h1 : items.size = 0) (h2 : items2.size = 0) (hu : A.units + 64 < cLine) : SeqAt.RcAt A s (.ref l) (.ref b) true := by
  have := SeqAt.RcAt.lists (e := fun _ => true) hl hb (h1.trans h2.symm) (Nat.lt_of_le_of_lt (Nat.le_add_right _ 64) hu) (fun j q _ => absurd q (by omega))
  rw [h1] at this
  exact this
theorem seqIndex_last {n : Nat} (h : 0 < n) : seqIndex? (-1) n = some (n - 1) := by
  unfold seqIndex?
  simp only []
  split <;> rename_i q
  · congr 1; simp at q ⊢; omega
  · exfalso; simp at q; try omega
theorem last_item {cells : List Cell} {c : Cell} (hc : cells[cells.length - 1]? = some c) : (cells.map (fun c => Value.ref c.x))[(cells.map (fun c => Value.ref c.x)).length - 1]? = some (.ref c.x) := by
  rw [List.length_map, List.getElem?_map, hc]; rfl
theorem head_of {cells : List Cell} {c : Cell} {ev : Value} (hc : cells[0]? = some c) : headOf cells ev = .ref c.x := by
  cases cells with
  | nil => cases hc
  | cons a l => simp at hc; subst hc; rfl
def endF (cells : List Cell) (ev : Value) : Nat → Value := fun j => if j < cells.length - 1 then .ref ((cells.map (·.x)).getD (j + 1) 0) else if j = cells.length - 1 then ev else .ref 64
theorem endF_at {cells : List Cell} {ev : Value} : ∀ j, j < cells.length → endF cells ev j = if j + 1 < cells.length then .ref ((cells.map (·.x)).getD (j + 1) 0) else ev := fun j hj => by
  unfold endF
  by_cases q : j < cells.length - 1
  · rw [if_pos q, if_pos (show j + 1 < cells.length by omega)]
  · rw [if_neg q, if_pos (show j = cells.length - 1 by omega), if_neg (show ¬ j + 1 < cells.length by omega)]
theorem cell_item {cells : List Cell} {c : Cell} {j : Nat} {k : Int} (hc : cells[j]? = some c) (hk : k = (j : Int)) : (cells.map (fun c => Value.ref c.x)).toArray[k.toNat]? = some (.ref c.x) := by
  subst hk; simp [hc]
theorem cell_get {cells : List Cell} {c : Cell} {j : Nat} (hc : cells[j]? = some c) : (cells.map (·.x)).getD j 0 = c.x := by
  simp [List.getD, hc]
section
local macro_rules | `(tactic| k_handed) => `(tactic| first | with_reducible assumption | exact isV_handed (by with_reducible assumption))
theorem list_spec {w : World} {mean : ExcName → Option Value} {mg mb : Str → Option Value} {A A₀ : Around} {base h₀ : Heap} {outer : List Env} {L : Addr} {env : Env} {s : Shared} {m : Str → Option Value} {Q E : Value → Shared → Prop} {R : List (Addr × Obj)} {a b : Addr} {va vb : List Value} {na nb : Nat} {ns ms : List Int} {t : Int} {tt : Tok} (X : (hd.heap_39 w.params).In h₀) (S : Site 360 3600 mean mg mb A A₀ base outer h₀ L env s m) (HR0 : Has s.heap R)
    (ia : (a, W.listOf va.toArray na) ∈ R) (ib : (b, W.listOf vb.toArray nb) ∈ R) (za : IntsAre va ns) (zb : IntsAre vb ms) (la : va.length ≤ 20) (lb : vb.length ≤ 20)
    (cs : ∀ c ∈ ns ++ ms, 0 ≤ c ∧ c < 6)
    (h : ∀ h' tk' cells RT f ev, s.heap.StaysIn h' → Newly s.heap (led w.params cells f ++ RT) h' → Made w.params RT (ns ++ ms) cells → Dist cells RT → cells.length = ns.length + ms.length → ListEnd cells ns ms t ev →
      (∀ j, j < cells.length → f j = if j + 1 < cells.length then .ref ((cells.map (·.x)).getD (j + 1) 0) else ev) → Q (headOf cells ev) { s with heap := h', toks := tk' }) :
    wpAny (model PySem.Challenge.rw_pq0276_01.row.toRowW.prog w) A (call (.ref 304) [.ref a, .ref b, .int t tt]) Q E s := by
  revert X; k_fill; intro X
  obtain ⟨h1, h2, h3, h4, B, F, T, he, hk⟩ := S
  refine toTop h1 h2 h3 h4 ?_
  refine wpAny_call ?_
  (k_dflt (refine' code_own ?k1 ?k2 ?k3 ?k4 ?k5 ?kA ?kF ?kK ?k6 ?k7 ?k8 ?k9 ?kB ?_ ?c2 ?c3 ?c4 ?c5; (case kA => exact rfl); (case kF => assumption); (case kK => assumption); (case k1 => k_asm); (case k2 => k_asm); (case k3 => k_asm); (case k4 => exact News.nil); (case k5 => k_asm); (case k6 => k_is); (case k7 => k_is); (case k8 => k_room); (case k9 => first | exact BindsTo.of_eq rfl | exact binds_K (by k_in) rfl (by k_is) rfl rfl rfl); (case c5 => decide); (case kB => exact locs rfl); (case c2 => exact rfl); (case c3 => exact rfl); (case c4 => exact rfl); k_whole; intro g' L' h' HG' FG' F' N' B' X' T'; (try dsimp only); (try k_fold))); (have HR := Has.stays HR0 (But.stays HG')); (clear HR0)
  repeat' ((fail_if_success (with_reducible show wpAny _ _ (exec (Stmt.Assign _ (Expr.ListComp _ _ _ _) _) _) _ _ _)); (first | (k_unfold; (try dsimp only)) | (k_end; wrow_close) | walk1 | (dsimp only; walk1) | (leave1; walk_say "STEP leave1"; try dsimp only) | fail "no step"))
  (k_dflt (refine LCg.Assign_ListComp_U (F₀ := by k_asm) (by rfl) (by with_unfolding_all rfl) (by rfl) (by decide) (by rfl) (by decide) (by rfl) (by rfl) (by rfl) ?_))
  repeat' ((fail_if_success (with_reducible show wpAny _ _ (binaryOp _ _ _) _ _ _)); (first | (k_unfold; (try dsimp only)) | (k_end; wrow_close) | walk1 | (dsimp only; walk1) | (leave1; walk_say "STEP leave1"; try dsimp only) | fail "no step"))
  have la' := za.length
  have lb' := zb.length
  refine kmk_add_ints (by k_asm) (by k_asm) (isList_base HR (by k_asm) ia) (isList_base HR (by k_asm) ib) za zb ?_ ?hz
  (case hz => rw [sizeLine_eq]; omega)
  intro l9 us9 h9 F9 N9 z9 zus
  have zlen := zus.length
  have zl2 : us9.length ≤ 40 := by rw [zlen, List.length_append]; omega
  refine LCg.CompSrc.ledger (by rfl) (by k_asm) N9 (.head _) ?hsz ?_
  (case hsz => rw [List.size_toArray, sizeLine_eq]; omega)
  intro g9
  refine comp_ind (Inv := fun i ys news => ∃ cells RT, cells.length = i ∧ ys = cells.map (fun c => .ref c.x) ∧ Made w.params RT (ns ++ ms) cells ∧ Dist cells RT ∧ news = compLed w.params (l9, W.listOf us9.toArray 0) cells RT) us9.length ?step ?fin us9.length 0 [] _ (Nat.zero_add _) ⟨[], [], rfl, rfl, fun i c n h => by simp at h, ⟨fun i j a b h => by simp at h, fun p hp => nomatch hp⟩, rfl⟩
  (case step =>
    rintro i ys news hi ⟨cells, RT, rfl, rfl, hM, hD, rfl⟩ v I oI C oC D m2 h8 tk8 E8 hv hoC hx F8 N8 off8 ⟨ne1, ne2, ne3⟩
    obtain ⟨c, tc, hc, rfl⟩ := ints_at zus cells.length v (by simpa using hv)
    have hc06 := cs c (List.mem_of_getElem? hc)
    repeat' ((fail_if_success (with_reducible show wpAny _ _ (call (Value.ref 299) _) _ _ _)); (first | (k_unfold; (try dsimp only)) | (k_end; wrow_close) | walk1 | (dsimp only; walk1) | (leave1; walk_say "STEP leave1"; try dsimp only) | fail "no step"))
    refine' thing_spec ?X ⟨?h, ?d, ?f, ?u, ?B, ?F, ?T, ?e, ?k⟩ hc06.1 hc06.2 ?_
    (case X => k_asm); (case h => exact rfl); (case d => exact Nat.le_of_ble_eq_true rfl); (case f => exact rfl); (case u => exact Nat.le_of_ble_eq_true rfl); (case B => k_asm); (case F => k_asm); (case T => k_asm); (case e => first | exact rfl | assumption); (case k => first | exact rfl | assumption);
    intro h7 tk7 v7 k7 R7 K7 Y7 V7 T7
    have N7 := news_join (Newly.news Y7 (by k_asm)) (News.stay (by k_asm) K7)
    have F7 := Fr.stay (by k_asm) K7
    repeat' ((fail_if_success (with_reducible show wpAny _ _ (call (Value.ref 82) _) _ _ _)); (first | (k_unfold; (try dsimp only)) | (k_end; wrow_close) | walk1 | (dsimp only; walk1) | (leave1; walk_say "STEP leave1"; try dsimp only) | fail "no step"))
    refine' cons_new ?X ⟨?h, ?d, ?f, ?u, ?B, ?F, ?T, ?e, ?k⟩ N7 (isV_handed V7) rfl ?_
    (case X => k_asm); (case h => exact rfl); (case d => exact Nat.le_of_ble_eq_true rfl); (case f => exact rfl); (case u => exact Nat.le_of_ble_eq_true rfl); (case B => k_asm); (case F => k_asm); (case T => k_asm); (case e => first | exact rfl | assumption); (case k => first | exact rfl | assumption);
    intro h6 tk6 y6 d6 t1 t2 F6 N6 l6 g6
    refine LCg.CompEnd.intro F6 N6 (compLed w.params (l9, W.listOf us9.toArray 0) (cells ++ [⟨y6, d6, t1, t2, v7, k7⟩]) (R7 ++ RT)) ?sub ?off (.inr ⟨_, .head _, rfl, _, rfl⟩) ?inv
    (case sub => exact comp_sub)
    (case off => exact comp_off Y7 N8 off8 l6 g6)
    (case inv =>
      refine ⟨_, _, by simp, by simp, made_snoc hM hc V7 T7, dist_snoc (P := w.params) (f := fun _ => .ref 64) hD (fun p hp => l6 p ?_) (fun p hp => l6 p ?_) (fun p hp => l6 p ?_) (fun p hp d hd q => ?_), rfl⟩
      · exact List.mem_append_right _ (.tail _ (.tail _ (.tail _ (.tail _ (List.mem_append_left _ hp)))))
      · exact List.mem_append_right _ (.tail _ (.tail _ (.tail _ (.tail _ (List.mem_append_right _ hp)))))
      · exact List.mem_append_left _ hp
      · have y2 := (Y7 p hp).2
        obtain ⟨j, hj⟩ := List.mem_iff_getElem?.mp hd
        have z := (N8 (d.dx, _) (.tail _ (.tail _ (.tail _ (.tail _ (List.mem_append_left _ (mem_led.mpr ⟨j, d, hj, .inr rfl⟩))))))).1
        rw [show p.1 = d.dx from q] at y2
        exact absurd (y2.symm.trans z) (by intro e; cases e)))
  (case fin =>
    rintro ys news ⟨cells, RT, hlen, rfl, hM, hD, rfl⟩
    unfold LCg.FinA
    intro D9 h5 tk5 F5 N5 o5
    repeat' ((fail_if_success (with_reducible show wpAny _ _ (call (Value.builtin "len") _) _ _ _)); (first | (k_unfold; (try dsimp only)) | (k_end; wrow_close) | walk1 | (dsimp only; walk1) | (leave1; walk_say "STEP leave1"; try dsimp only) | fail "no step"))
    refine len_list (News.isList N5 (.head _)) ?f ?_
    (case f => simp only [List.size_toArray, List.length_map]; omega)
    simp only [List.size_toArray, List.length_map]
    repeat' ((fail_if_success (with_reducible show wpAny _ _ (pyIter _) _ _ _)); (first | (k_unfold; (try dsimp only)) | (k_end; wrow_close) | walk1 | (dsimp only; walk1) | (leave1; walk_say "STEP leave1"; try dsimp only) | fail "no step"))
    have zc : cells.length ≤ 40 := by omega
    refine iter_rangeUnr (n := cells.length - 1) rfl (by assumption) (small_one (by omega) (by omega) (by omega) (by omega)) (range_n _) (by k_asm) (by k_asm) (fun I9 lI => ?_)
    refine range_ind1 (Inv := fun i news => news = (D9, LCg.lst (cells.map (fun c => .ref c.x))) :: (l9, W.listOf us9.toArray 0) :: (led w.params cells (fun j => if j < i then .ref ((cells.map (·.x)).getD (j + 1) 0) else .ref 64) ++ RT)) (cells.length - 1) ?step ?fin _ ?init
    (case init => rfl)
    (case step =>
      rintro i news hi rfl ti hi6 tki F4 N4
      obtain ⟨c0, hc0⟩ : ∃ c, cells[i]? = some c := ⟨_, List.getElem?_eq_getElem (by omega)⟩
      obtain ⟨c1, hc1⟩ : ∃ c, cells[i + 1]? = some c := ⟨_, List.getElem?_eq_getElem (by omega)⟩
      repeat' ((fail_if_success (with_reducible show wpAny _ _ (subscriptTail _ _ _ _) _ _ _)); (first | (k_unfold; (try dsimp only)) | (k_end; wrow_close) | walk1 | (dsimp only; walk1) | (leave1; walk_say "STEP leave1"; try dsimp only) | fail "no step"))
      refine item_list (News.isList N4 (.tail _ (.head _))) (by omega) (by omega) (cell_item hc1 (by omega)) ?_
      repeat' ((fail_if_success (with_reducible show wpAny _ _ (subscriptTail _ _ _ _) _ _ _)); (first | (k_unfold; (try dsimp only)) | (k_end; wrow_close) | walk1 | (dsimp only; walk1) | (leave1; walk_say "STEP leave1"; try dsimp only) | fail "no step"))
      refine item_list (News.isList N4 (.tail _ (.head _))) (by omega) (by omega) (cell_item hc0 (by omega)) ?_
      repeat' ((fail_if_success (with_reducible show wpAny _ _ (setAttr _ _ _) _ _ _)); (first | (k_unfold; (try dsimp only)) | (k_end; wrow_close) | walk1 | (dsimp only; walk1) | (leave1; walk_say "STEP leave1"; try dsimp only) | fail "no step"))
      refine set_cdr X' F4 N4 (.tail _ (.tail _ (.tail _ (List.mem_append_left _ (mem_led.mpr ⟨i, c0, hc0, .inl rfl⟩))))) (.tail _ (.tail _ (.tail _ (List.mem_append_left _ (mem_led.mpr ⟨i, c0, hc0, .inr rfl⟩))))) ?_
      intro h3 tk3 F3 N3
      repeat' ((fail_if_success (with_reducible show UnrPost _ _ _ _ _ _ _ _ _)); (first | (k_unfold; (try dsimp only)) | (k_end; wrow_close) | walk1 | (dsimp only; walk1) | (leave1; walk_say "STEP leave1"; try dsimp only) | fail "no step"))
      exact UnrEnd.intro F3 N3 _ (upd_sub (f' := fun j => if j < i + 1 then .ref ((cells.map (·.x)).getD (j + 1) 0) else .ref 64) N4 hD hc0 (by show (if i < i + 1 then Value.ref _ else _) = _; rw [if_pos (Nat.lt_succ_self _), cell_get hc1]) (fun j hj => by show (if j < i + 1 then Value.ref _ else _) = if j < i then Value.ref _ else _; exact ite_step hj) (by intro e; exact absurd (Value.type.inj e) (by decide)) (by intro e; exact absurd (Value.type.inj e) (by decide)) (by intro e; exact absurd (Value.type.inj e) (by decide))) (led_addr lI) ⟨fun y hy => if_neg hy, rfl⟩)
    (case fin =>
      rintro u news rfl h4 tk4 F4 N4
      repeat' ((fail_if_success (with_reducible show wpAny _ _ (compareOp CmpOp.NotEq (Value.ref _) (Value.ref _)) _ _ _)); (first | (k_unfold; (try dsimp only)) | (k_end; wrow_close) | walk1 | (dsimp only; walk1) | (leave1; walk_say "STEP leave1"; try dsimp only) | fail "no step"))
      refine ne_intsK (isList_base HR (by k_asm) ib) zb (News.isList (items := [].toArray) (by k_asm) (.head _)) IntsAre.nil (by units_room) ?_
      by_cases hm : ms = []
      · rw [decide_eq_true hm]
        by_cases ht : t = 0
        · subst ht
          repeat' ((fail_if_success (with_reducible show wpAny _ _ (compareOp CmpOp.Eq (Value.ref _) (Value.ref _)) _ _ _)); (first | (k_unfold; (try dsimp only)) | (k_end; wrow_close) | walk1 | (dsimp only; walk1) | (leave1; walk_say "STEP leave1"; try dsimp only) | fail "no step"))
          have E2 : ListEnd cells ns ms _ (Value.ref 64) := .nil hm rfl
          (with_reducible rename News g' L' _ (_ :: _ :: _ :: _ :: (_ ++ _)) => N2)
          by_cases hz : cells = []
          · refine (rc_nil (News.isList N2 (.tail _ (.tail _ (.head _)))) (News.isList N2 (.head _)) (by simp [hz]) rfl (by units_room)) _ _ _ _ ?_
            k_steps
            (with_reducible rename News g' L' _ _ => N1)
            have hh : headOf cells (Value.ref 64) = (Value.ref 64) := by rw [hz]; rfl
            rw [← hh]
            exact h _ _ cells RT _ (Value.ref 64) (endStay HG' (by k_asm)) (newly_of HG' (news_sub N1 (fun p hp => .tail _ (.tail _ (.tail _ (.tail _ hp)))))) hM hD (by rw [hlen, zlen, List.length_append]) E2 (fun j hj => absurd hj (by rw [hz]; exact Nat.not_lt_zero _))
          · have hpos := List.length_pos_iff.mpr hz
            refine (SeqAt.RcAt.lists_lengths (News.isList N2 (.tail _ (.tail _ (.head _)))) (News.isList N2 (.head _)) (by simp [hz]) (Nat.lt_of_le_of_lt (Nat.le_add_right _ 64) (by units_room))) _ _ _ _ ?_
            repeat' ((fail_if_success (with_reducible show wpAny _ _ (subscriptTail _ _ _ _) _ _ _)); (first | (k_unfold; (try dsimp only)) | (k_end; wrow_close) | walk1 | (dsimp only; walk1) | (leave1; walk_say "STEP leave1"; try dsimp only) | fail "no step"))
            obtain ⟨cl, hcl⟩ : ∃ c, cells[cells.length - 1]? = some c := ⟨_, List.getElem?_eq_getElem (by omega)⟩
            obtain ⟨c0, hc0⟩ : ∃ c, cells[0]? = some c := ⟨_, List.getElem?_eq_getElem (by omega)⟩
            (with_reducible rename News g' L' _ (_ :: _ :: _ :: _ :: (_ ++ _)) => N1)
            refine kde_neg (News.isList N1 (.tail _ (.tail _ (.head _)))) (by decide) (by decide) (seqIndex_last (by rw [List.length_map]; exact hpos)) (last_item hcl) ?_
            repeat' ((fail_if_success (with_reducible show wpAny _ _ (setAttr _ _ _) _ _ _)); (first | (k_unfold; (try dsimp only)) | (k_end; wrow_close) | walk1 | (dsimp only; walk1) | (leave1; walk_say "STEP leave1"; try dsimp only) | fail "no step"))
            (with_reducible rename Fr g' L' _ _ => F1)
            have N0 := news_sub N1 (fun p hp => List.Mem.tail _ hp)
            refine set_cdr X' F1 N0 (.tail _ (.tail _ (.tail _ (List.mem_append_left _ (mem_led.mpr ⟨_, cl, hcl, .inl rfl⟩))))) (.tail _ (.tail _ (.tail _ (List.mem_append_left _ (mem_led.mpr ⟨_, cl, hcl, .inr rfl⟩))))) ?_
            intro h3 tk3 F3 N3
            have N7 : News g' L' h3 _ := news_sub N3 (upd_sub (f' := endF cells (Value.ref 64)) N0 hD hcl (by unfold endF; rw [if_neg (Nat.lt_irrefl _), if_pos rfl]) (fun j hj => by unfold endF; rw [if_neg hj]) (by intro e; exact absurd (Value.type.inj e) (by decide)) (by intro e; exact absurd (Value.type.inj e) (by decide)) (by intro e; exact absurd (Value.type.inj e) (by decide)))
            clear N3 N1 N0 F1
            repeat' ((fail_if_success (with_reducible show wpAny _ _ (subscriptTail _ _ _ _) _ _ _)); (first | (k_unfold; (try dsimp only)) | (k_end; wrow_close) | walk1 | (dsimp only; walk1) | (leave1; walk_say "STEP leave1"; try dsimp only) | fail "no step"))
            refine item_list (News.isList N7 (.tail _ (.head _))) (by decide) (by decide) (cell_item hc0 rfl) ?_
            k_steps
            (with_reducible rename News g' L' _ _ => N1)
            rw [← head_of (ev := (Value.ref 64)) hc0]
            exact h _ _ cells RT _ (Value.ref 64) (endStay HG' (by k_asm)) (newly_of HG' (news_sub N1 (fun p hp => .tail _ (.tail _ (.tail _ hp))))) hM hD (by rw [hlen, zlen, List.length_append]) E2 endF_at
        · have hne : (t == 0) = false := by simpa using ht
          repeat' ((fail_if_success (with_reducible show wpAny _ _ (compareOp CmpOp.Eq (Value.ref _) (Value.ref _)) _ _ _)); (first | (k_unfold; (try dsimp only)) | (k_end; wrow_close) | walk1 | (dsimp only; walk1) | (leave1; walk_say "STEP leave1"; try dsimp only) | fail "no step"))
          have E2 : ListEnd cells ns ms _ (Value.int t tt) := .num tt hm ht
          (with_reducible rename News g' L' _ (_ :: _ :: _ :: _ :: (_ ++ _)) => N2)
          by_cases hz : cells = []
          · refine (rc_nil (News.isList N2 (.tail _ (.tail _ (.head _)))) (News.isList N2 (.head _)) (by simp [hz]) rfl (by units_room)) _ _ _ _ ?_
            k_steps
            (with_reducible rename News g' L' _ _ => N1)
            have hh : headOf cells (Value.int t tt) = (Value.int t tt) := by rw [hz]; rfl
            rw [← hh]
            exact h _ _ cells RT _ (Value.int t tt) (endStay HG' (by k_asm)) (newly_of HG' (news_sub N1 (fun p hp => .tail _ (.tail _ (.tail _ (.tail _ hp)))))) hM hD (by rw [hlen, zlen, List.length_append]) E2 (fun j hj => absurd hj (by rw [hz]; exact Nat.not_lt_zero _))
          · have hpos := List.length_pos_iff.mpr hz
            refine (SeqAt.RcAt.lists_lengths (News.isList N2 (.tail _ (.tail _ (.head _)))) (News.isList N2 (.head _)) (by simp [hz]) (Nat.lt_of_le_of_lt (Nat.le_add_right _ 64) (by units_room))) _ _ _ _ ?_
            repeat' ((fail_if_success (with_reducible show wpAny _ _ (subscriptTail _ _ _ _) _ _ _)); (first | (k_unfold; (try dsimp only)) | (k_end; wrow_close) | walk1 | (dsimp only; walk1) | (leave1; walk_say "STEP leave1"; try dsimp only) | fail "no step"))
            obtain ⟨cl, hcl⟩ : ∃ c, cells[cells.length - 1]? = some c := ⟨_, List.getElem?_eq_getElem (by omega)⟩
            obtain ⟨c0, hc0⟩ : ∃ c, cells[0]? = some c := ⟨_, List.getElem?_eq_getElem (by omega)⟩
            (with_reducible rename News g' L' _ (_ :: _ :: _ :: _ :: (_ ++ _)) => N1)
            refine kde_neg (News.isList N1 (.tail _ (.tail _ (.head _)))) (by decide) (by decide) (seqIndex_last (by rw [List.length_map]; exact hpos)) (last_item hcl) ?_
            repeat' ((fail_if_success (with_reducible show wpAny _ _ (setAttr _ _ _) _ _ _)); (first | (k_unfold; (try dsimp only)) | (k_end; wrow_close) | walk1 | (dsimp only; walk1) | (leave1; walk_say "STEP leave1"; try dsimp only) | fail "no step"))
            (with_reducible rename Fr g' L' _ _ => F1)
            have N0 := news_sub N1 (fun p hp => List.Mem.tail _ hp)
            refine set_cdr X' F1 N0 (.tail _ (.tail _ (.tail _ (List.mem_append_left _ (mem_led.mpr ⟨_, cl, hcl, .inl rfl⟩))))) (.tail _ (.tail _ (.tail _ (List.mem_append_left _ (mem_led.mpr ⟨_, cl, hcl, .inr rfl⟩))))) ?_
            intro h3 tk3 F3 N3
            have N7 : News g' L' h3 _ := news_sub N3 (upd_sub (f' := endF cells (Value.int t tt)) N0 hD hcl (by unfold endF; rw [if_neg (Nat.lt_irrefl _), if_pos rfl]) (fun j hj => by unfold endF; rw [if_neg hj]) (by intro e; exact absurd (Value.type.inj e) (by decide)) (by intro e; exact absurd (Value.type.inj e) (by decide)) (by intro e; exact absurd (Value.type.inj e) (by decide)))
            clear N3 N1 N0 F1
            repeat' ((fail_if_success (with_reducible show wpAny _ _ (subscriptTail _ _ _ _) _ _ _)); (first | (k_unfold; (try dsimp only)) | (k_end; wrow_close) | walk1 | (dsimp only; walk1) | (leave1; walk_say "STEP leave1"; try dsimp only) | fail "no step"))
            refine item_list (News.isList N7 (.tail _ (.head _))) (by decide) (by decide) (cell_item hc0 rfl) ?_
            k_steps
            (with_reducible rename News g' L' _ _ => N1)
            rw [← head_of (ev := (Value.int t tt)) hc0]
            exact h _ _ cells RT _ (Value.int t tt) (endStay HG' (by k_asm)) (newly_of HG' (news_sub N1 (fun p hp => .tail _ (.tail _ (.tail _ hp))))) hM hD (by rw [hlen, zlen, List.length_append]) E2 endF_at
      · rw [decide_eq_false hm]
        repeat' ((fail_if_success (with_reducible show wpAny _ _ (call (Value.builtin "len") _) _ _ _)); (first | (k_unfold; (try dsimp only)) | (k_end; wrow_close) | walk1 | (dsimp only; walk1) | (leave1; walk_say "STEP leave1"; try dsimp only) | fail "no step"))
        have hr1 : ∃ c, cells[ns.length]? = some c := ⟨_, List.getElem?_eq_getElem (by have := List.length_pos_iff.mpr hm; rw [zlen, List.length_append] at hlen; omega)⟩
        obtain ⟨cr, hcr⟩ := hr1
        refine len_list (isList_base HR (by k_asm) ia) ?f2 ?_
        (case f2 => rw [List.size_toArray]; omega)
        simp only [List.size_toArray, la']
        repeat' ((fail_if_success (with_reducible show wpAny _ _ (subscriptTail _ _ _ _) _ _ _)); (first | (k_unfold; (try dsimp only)) | (k_end; wrow_close) | walk1 | (dsimp only; walk1) | (leave1; walk_say "STEP leave1"; try dsimp only) | fail "no step"))
        (with_reducible rename News g' _ _ (_ :: _ :: _ :: _) => N2)
        refine item_list (News.isList N2 (.tail _ (.head _))) (by omega) (by omega) (cell_item hcr rfl) ?_
        repeat' ((fail_if_success (with_reducible show wpAny _ _ (compareOp CmpOp.Eq (Value.ref _) (Value.ref _)) _ _ _)); (first | (k_unfold; (try dsimp only)) | (k_end; wrow_close) | walk1 | (dsimp only; walk1) | (leave1; walk_say "STEP leave1"; try dsimp only) | fail "no step"))
        clear N2
        have E2 : ListEnd cells ns ms t (Value.ref cr.x) := .ring cr hm hcr
        (with_reducible rename News g' L' _ (_ :: _ :: _ :: _ :: (_ ++ _)) => N2)
        by_cases hz : cells = []
        · refine (rc_nil (News.isList N2 (.tail _ (.tail _ (.head _)))) (News.isList N2 (.head _)) (by simp [hz]) rfl (by units_room)) _ _ _ _ ?_
          k_steps
          (with_reducible rename News g' L' _ _ => N1)
          have hh : headOf cells (Value.ref cr.x) = (Value.ref cr.x) := by rw [hz]; rfl
          rw [← hh]
          exact h _ _ cells RT _ (Value.ref cr.x) (endStay HG' (by k_asm)) (newly_of HG' (news_sub N1 (fun p hp => .tail _ (.tail _ (.tail _ (.tail _ hp)))))) hM hD (by rw [hlen, zlen, List.length_append]) E2 (fun j hj => absurd hj (by rw [hz]; exact Nat.not_lt_zero _))
        · have hpos := List.length_pos_iff.mpr hz
          refine (SeqAt.RcAt.lists_lengths (News.isList N2 (.tail _ (.tail _ (.head _)))) (News.isList N2 (.head _)) (by simp [hz]) (Nat.lt_of_le_of_lt (Nat.le_add_right _ 64) (by units_room))) _ _ _ _ ?_
          repeat' ((fail_if_success (with_reducible show wpAny _ _ (subscriptTail _ _ _ _) _ _ _)); (first | (k_unfold; (try dsimp only)) | (k_end; wrow_close) | walk1 | (dsimp only; walk1) | (leave1; walk_say "STEP leave1"; try dsimp only) | fail "no step"))
          obtain ⟨cl, hcl⟩ : ∃ c, cells[cells.length - 1]? = some c := ⟨_, List.getElem?_eq_getElem (by omega)⟩
          obtain ⟨c0, hc0⟩ : ∃ c, cells[0]? = some c := ⟨_, List.getElem?_eq_getElem (by omega)⟩
          (with_reducible rename News g' L' _ (_ :: _ :: _ :: _ :: (_ ++ _)) => N1)
          refine kde_neg (News.isList N1 (.tail _ (.tail _ (.head _)))) (by decide) (by decide) (seqIndex_last (by rw [List.length_map]; exact hpos)) (last_item hcl) ?_
          repeat' ((fail_if_success (with_reducible show wpAny _ _ (setAttr _ _ _) _ _ _)); (first | (k_unfold; (try dsimp only)) | (k_end; wrow_close) | walk1 | (dsimp only; walk1) | (leave1; walk_say "STEP leave1"; try dsimp only) | fail "no step"))
          (with_reducible rename Fr g' L' _ _ => F1)
          have N0 := news_sub N1 (fun p hp => List.Mem.tail _ hp)
          refine set_cdr X' F1 N0 (.tail _ (.tail _ (.tail _ (List.mem_append_left _ (mem_led.mpr ⟨_, cl, hcl, .inl rfl⟩))))) (.tail _ (.tail _ (.tail _ (List.mem_append_left _ (mem_led.mpr ⟨_, cl, hcl, .inr rfl⟩))))) ?_
          intro h3 tk3 F3 N3
          have N7 : News g' L' h3 _ := news_sub N3 (upd_sub (f' := endF cells (Value.ref cr.x)) N0 hD hcl (by unfold endF; rw [if_neg (Nat.lt_irrefl _), if_pos rfl]) (fun j hj => by unfold endF; rw [if_neg hj]) (by intro e; exact absurd (Value.type.inj e) (by decide)) (by intro e; exact absurd (Value.type.inj e) (by decide)) (by intro e; exact absurd (Value.type.inj e) (by decide)))
          clear N3 N1 N0 F1
          repeat' ((fail_if_success (with_reducible show wpAny _ _ (subscriptTail _ _ _ _) _ _ _)); (first | (k_unfold; (try dsimp only)) | (k_end; wrow_close) | walk1 | (dsimp only; walk1) | (leave1; walk_say "STEP leave1"; try dsimp only) | fail "no step"))
          refine item_list (News.isList N7 (.tail _ (.head _))) (by decide) (by decide) (cell_item hc0 rfl) ?_
          k_steps
          (with_reducible rename News g' L' _ _ => N1)
          rw [← head_of (ev := (Value.ref cr.x)) hc0]
          exact h _ _ cells RT _ (Value.ref cr.x) (endStay HG' (by k_asm)) (newly_of HG' (news_sub N1 (fun p hp => .tail _ (.tail _ (.tail _ hp))))) hM hD (by rw [hlen, zlen, List.length_append]) E2 endF_at))
end

inductive Tag where
  | thing
  | stop
  | none
  deriving DecidableEq
def Tag.str : Tag → Str
  | .thing => Str.ofString "thing"
  | .stop => Str.ofString "end"
  | .none => Str.ofString "none"
/-- what stands at a place of a list -/
def atL (a r : List Int) (t : Int) (p : Nat) : Tag × Int :=
  if p < a.length then (.thing, a.getD p 0) else if r ≠ [] then (.thing, r.getD ((p - a.length) % r.length) 0) else if p = a.length then (.stop, t) else (.none, 0)
abbrev tupO (S : Str) (tk : Tok) (x : Int) (tx : Tok) : Obj := { cls := .type "tuple", data := .seq #[.str S tk, .int x tx] }
theorem at_sub {a b : Addr × Obj} : ∀ p ∈ [a], p ∈ [a, b] := fun p hp => by rw [List.mem_singleton.mp hp]; exact .head _
theorem at1 {a r : List Int} {t : Int} {p : Nat} (h : p < a.length) : atL a r t p = (.thing, a.getD ((p : Int)).toNat 0) := by unfold atL; rw [if_pos h, Int.toNat_natCast]
theorem at2 {a r : List Int} {t : Int} {p : Nat} (h : ¬ p < a.length) (hr : r = []) (hp : (p : Int) = a.length) : atL a r t p = (.stop, t) := by unfold atL; rw [if_neg h, if_neg (by simp [hr]), if_pos (by omega)]
theorem at3 {a r : List Int} {t : Int} {p : Nat} (h : ¬ p < a.length) (hr : r = []) (hp : (p : Int) ≠ a.length) : atL a r t p = (.none, 0) := by unfold atL; rw [if_neg h, if_neg (by simp [hr]), if_neg (by omega)]
theorem mod_nat {p n r : Nat} (h : ¬ p < n) : Int.fmod ((p : Int) - n) r = (((p - n) % r : Nat) : Int) := by
  rw [Int.fmod_eq_emod_of_nonneg _ (by omega)]
  have : (p : Int) - n = ((p - n : Nat) : Int) := by omega
  rw [this]; rfl
theorem at4 {a r : List Int} {t : Int} {p : Nat} (h : ¬ p < a.length) (hr : r ≠ []) : atL a r t p = (.thing, r.getD (((p - a.length) % r.length : Nat) : Int).toNat 0) := by unfold atL; rw [if_neg h, if_pos hr, Int.toNat_natCast]
section
theorem at_spec {w : World} {mean : ExcName → Option Value} {mg mb : Str → Option Value} {A A₀ : Around} {base h₀ : Heap} {outer : List Env} {L : Addr} {env : Env} {s : Shared} {m : Str → Option Value} {Q E : Value → Shared → Prop} {R : List (Addr × Obj)} {a b : Addr} {va vb : List Value} {na nb : Nat} {ns ms : List Int} {t : Int} {tt tp : Tok} {p : Nat} (X : (hd.heap_39 w.params).In h₀) (S : Site 400 4000 mean mg mb A A₀ base outer h₀ L env s m) (HR0 : Has s.heap R)
    (ia : (a, W.listOf va.toArray na) ∈ R) (ib : (b, W.listOf vb.toArray nb) ∈ R) (za : IntsAre va ns) (zb : IntsAre vb ms) (la : va.length ≤ 20) (lb : vb.length ≤ 20) (hp : p < 60)
    (h : ∀ h' tk' T g x tk tx, s.heap.StaysIn h' → Newly s.heap [(T, tupO (Tag.str g) tk x tx)] h' → atL ns ms t p = (g, x) → Q (.ref T) { s with heap := h', toks := tk' }) :
    wpAny (model PySem.Challenge.rw_pq0276_01.row.toRowW.prog w) A (call (.ref 311) [.ref a, .ref b, .int t tt, .int (p : Int) tp]) Q E s := by
  revert X; k_fill; intro X
  obtain ⟨h1, h2, h3, h4, B, F, T, he, hk⟩ := S
  refine toTop h1 h2 h3 h4 ?_
  refine wpAny_call ?_
  (k_dflt (refine' code_own ?k1 ?k2 ?k3 ?k4 ?k5 ?kA ?kF ?kK ?k6 ?k7 ?k8 ?k9 ?kB ?_ ?c2 ?c3 ?c4 ?c5; (case kA => exact rfl); (case kF => assumption); (case kK => assumption); (case k1 => k_asm); (case k2 => k_asm); (case k3 => k_asm); (case k4 => exact News.nil); (case k5 => k_asm); (case k6 => k_is); (case k7 => k_is); (case k8 => k_room); (case k9 => first | exact BindsTo.of_eq rfl | exact binds_K (by k_in) rfl (by k_is) rfl rfl rfl); (case c5 => decide); (case kB => exact locs rfl); (case c2 => exact rfl); (case c3 => exact rfl); (case c4 => exact rfl); k_whole; intro g' L' h' HG' FG' F' N' B' X' T'; (try dsimp only); (try k_fold))); (have HR := Has.stays HR0 (But.stays HG')); (clear HR0)
  have la' := za.length
  have lb' := zb.length
  repeat' ((fail_if_success (with_reducible show wpAny _ _ (call (Value.builtin "len") _) _ _ _)); (first | (k_unfold; (try dsimp only)) | (k_end; wrow_close) | walk1 | (dsimp only; walk1) | (leave1; walk_say "STEP leave1"; try dsimp only) | fail "no step"))
  refine len_list (isList_base HR (by k_asm) ia) ?f2 ?_
  (case f2 => rw [List.size_toArray]; omega)
  simp only [List.size_toArray, la']
  by_cases q1 : p < ns.length
  · repeat' ((fail_if_success (with_reducible show wpAny _ _ (subscriptTail _ _ _ _) _ _ _)); (first | (k_unfold; (try dsimp only)) | (k_end; wrow_close) | walk1 | (dsimp only; walk1) | (leave1; walk_say "STEP leave1"; try dsimp only) | fail "no step"))
    refine item_list_ints (isList_base HR (by k_asm) ia) za (by omega) (by omega) (by omega) (fun t9 => ?_)
    k_steps
    (with_reducible rename News g' L' _ _ => N1)
    exact h _ _ _ .thing _ _ _ (endStay HG' (by k_asm)) (newly_of HG' N1) (at1 q1)
  · repeat' ((fail_if_success (with_reducible show wpAny _ _ (compareOp CmpOp.NotEq _ _) _ _ _)); (first | (k_unfold; (try dsimp only)) | (k_end; wrow_close) | walk1 | (dsimp only; walk1) | (leave1; walk_say "STEP leave1"; try dsimp only) | fail "no step"))
    refine ne_intsK (isList_base HR (by k_asm) ib) zb (News.isList (items := [].toArray) (by k_asm) (.head _)) IntsAre.nil (by units_room) ?_
    by_cases q2 : ms = []
    · rw [decide_eq_true q2]
      repeat' ((fail_if_success (with_reducible show wpAny _ _ (call (Value.builtin "len") _) _ _ _)); (first | (k_unfold; (try dsimp only)) | (k_end; wrow_close) | walk1 | (dsimp only; walk1) | (leave1; walk_say "STEP leave1"; try dsimp only) | fail "no step"))
      refine len_list (isList_base HR (by k_asm) ia) ?f3 ?_
      (case f3 => rw [List.size_toArray]; omega)
      simp only [List.size_toArray, la']
      k_steps
      all_goals (with_reducible rename News g' L' _ _ => N1)
      · exact h _ _ _ .stop _ _ _ (endStay HG' (by k_asm)) (newly_of HG' (news_sub N1 at_sub)) (at2 q1 q2 (by assumption))
      · exact h _ _ _ .none _ _ _ (endStay HG' (by k_asm)) (newly_of HG' (news_sub N1 at_sub)) (at3 q1 q2 (by assumption))
    · rw [decide_eq_false q2]
      have hpos := List.length_pos_iff.mpr q2
      repeat' ((fail_if_success (with_reducible show wpAny _ _ (call (Value.builtin "len") _) _ _ _)); (first | (k_unfold; (try dsimp only)) | (k_end; wrow_close) | walk1 | (dsimp only; walk1) | (leave1; walk_say "STEP leave1"; try dsimp only) | fail "no step"))
      refine len_list (isList_base HR (by k_asm) ia) ?f3 ?_
      (case f3 => rw [List.size_toArray]; omega)
      simp only [List.size_toArray, la']
      repeat' ((fail_if_success (with_reducible show wpAny _ _ (call (Value.builtin "len") _) _ _ _)); (first | (k_unfold; (try dsimp only)) | (k_end; wrow_close) | walk1 | (dsimp only; walk1) | (leave1; walk_say "STEP leave1"; try dsimp only) | fail "no step"))
      refine len_list (isList_base HR (by k_asm) ib) ?f4 ?_
      (case f4 => rw [List.size_toArray]; omega)
      simp only [List.size_toArray, lb']
      repeat' ((fail_if_success (with_reducible show wpAny _ _ (binaryOp Operator.Mod _ _) _ _ _)); (first | (k_unfold; (try dsimp only)) | (k_end; wrow_close) | walk1 | (dsimp only; walk1) | (leave1; walk_say "STEP leave1"; try dsimp only) | fail "no step"))
      refine mod_int' (by simp; exact q2) ?_
      repeat' ((fail_if_success (with_reducible show wpAny _ _ (subscriptTail _ _ _ _) _ _ _)); (first | (k_unfold; (try dsimp only)) | (k_end; wrow_close) | walk1 | (dsimp only; walk1) | (leave1; walk_say "STEP leave1"; try dsimp only) | fail "no step"))
      rw [mod_nat q1]
      have hlt := Nat.mod_lt (p - ns.length) hpos
      refine item_list_ints (isList_base HR (by k_asm) ib) zb (by omega) (by omega) (by omega) (fun t9 => ?_)
      k_steps
      (with_reducible rename News g' L' _ _ => N1)
      exact h _ _ _ .thing _ _ _ (endStay HG' (by k_asm)) (newly_of HG' (news_sub N1 at_sub)) (at4 q1 q2)
end

section
variable {prog : Program} {w : World} {A : Around} {E : Value → Shared → Prop} {s : Shared} {h₀ : Heap} {env : Env}
theorem range_ind3 {x n1 n2 : Str} {body : List Stmt} {Q : Flow → Shared → Prop} {I : Addr} {a : Int} {m₀ : Str → Option Value} {Inv : Nat → List (Addr × Obj) → Prop} (n : Nat)
    (step : ∀ (i : Nat) (news : List (Addr × Obj)) (u : Str → Option Value), i < n → Inv i news → ∀ t h tk, Fr h₀ env.locals h (fun y => if y = x then some (.int (a + (i : Int)) t) else if y = n1 then u y else if y = n2 then u y else m₀ y) → News h₀ env.locals h ((I, itR (a + ((i + 1 : Nat) : Int)) ((n : Int) - ((i + 1 : Nat) : Int))) :: news) →
      wpAny (model prog w) A (execs body env) (UnrPost h₀ env.locals { s with heap := h, toks := tk } I (itR (a + ((i + 1 : Nat) : Int)) ((n : Int) - ((i + 1 : Nat) : Int))) (fun m' news' => (∀ y, y ≠ x → y ≠ n1 → y ≠ n2 → m' y = m₀ y) ∧ Inv (i + 1) news') Q) E { s with heap := h, toks := tk })
    (fin : ∀ (u : Str → Option Value) (news : List (Addr × Obj)), Inv n news → ∀ h tk, Fr h₀ env.locals h (fun y => if y = x then u y else if y = n1 then u y else if y = n2 then u y else m₀ y) → News h₀ env.locals h news → Q .next { s with heap := h, toks := tk }) (news : List (Addr × Obj)) (h0 : Inv 0 news) :
    RangeRest prog w A E h₀ env x body Q s I a n n 0 m₀ news := by
  refine range_ind (Inv := fun i m news => (∀ y, y ≠ x → y ≠ n1 → y ≠ n2 → m y = m₀ y) ∧ Inv i news) n ?_ ?_ n 0 m₀ news (Nat.zero_add _) ⟨fun y _ _ _ => rfl, h0⟩
  · rintro i m news hi ⟨hm, hI⟩ t h tk F N
    have e : (fun y => if y = x then some (Value.int (a + (i : Int)) t) else m y) = (fun y => if y = x then some (Value.int (a + (i : Int)) t) else if y = n1 then m y else if y = n2 then m y else m₀ y) := by
      funext y
      by_cases q : y = x
      · rw [if_pos q, if_pos q]
      · by_cases q1 : y = n1
        · rw [if_neg q, if_neg q, if_pos q1]
        · by_cases q2 : y = n2
          · rw [if_neg q, if_neg q, if_neg q1, if_pos q2]
          · rw [if_neg q, if_neg q, if_neg q1, if_neg q2, hm y q q1 q2]
    rw [e] at F
    exact step i news m hi hI t h tk F N
  · rintro m news ⟨hm, hI⟩ h tk F N
    have e : m = (fun y => if y = x then m y else if y = n1 then m y else if y = n2 then m y else m₀ y) := by
      funext y
      by_cases q : y = x
      · rw [if_pos q]
      · by_cases q1 : y = n1
        · rw [if_neg q, if_pos q1]
        · by_cases q2 : y = n2
          · rw [if_neg q, if_neg q1, if_pos q2]
          · rw [if_neg q, if_neg q1, if_neg q2, hm y q q1 q2]
    exact fin m news hI h tk (e ▸ F) N
end
theorem shaped_tag {g : Tag} {x : Int} : SeqAt.shaped (.tuple [.str (Tag.str g), .int x]) = true := by
  have : PyData.strOk (Tag.str g) = true := by cases g <;> decide +kernel
  simp [this, SeqAt.shaped, PyData.canLay0, PyData.canLayAll0, PyData.depth, PyData.depthAll]
theorem ne_tup {w : World} {A : Around} {E : Value → Shared → Prop} {s : Shared} {a b : Addr} {g g' : Tag} {x x' : Int} {tk tx tk' tx' : Tok} {Q : Value → Shared → Prop} (ha : s.heap.get? a = some (tupO (Tag.str g) tk x tx)) (hb : s.heap.get? b = some (tupO (Tag.str g') tk' x' tx')) (hu : A.units + 64 < cLine)
    (h : Q (.bool (!decide ((g, x) = (g', x')))) s) : wpAny (model PySem.Challenge.rw_pq0276_01.row.toRowW.prog w) A (compareOp .NotEq (.ref a) (.ref b)) Q E s := by
  refine ne_dataH_same (Reads.tuple ha rfl rfl (.cons (.str _ _) (.cons (.int _ _) .nil))) (Reads.tuple hb rfl rfl (.cons (.str _ _) (.cons (.int _ _) .nil))) shaped_tag shaped_tag hu (by simp [PySem.SeqAt.noMix, PySem.SeqAt.noMixAll]) ?_
  have e : PySem.Spec.same (.tuple [.str (Tag.str g), .int x]) (.tuple [.str (Tag.str g'), .int x']) = decide ((g, x) = (g', x')) := by
    simp only [PySem.Spec.same, PySem.Spec.sameAll, Bool.and_true]
    by_cases q : x = x'
    · subst q; cases g <;> cases g' <;> simp <;> decide
    · have : (x == x') = false := by simpa using q
      rw [this]; simp [q]
  rw [e]; exact h
/-- what is due, from a place on -/
def dueFrom (a r : List Int) (t : Int) (a' r' : List Int) (t' : Int) : Nat → Nat → Res
  | 0, _ => .round
  | k + 1, p => if atL a r t p = atL a' r' t' p then (if (atL a r t p).1 = .stop then .yes else dueFrom a r t a' r' t' k (p + 1)) else .no
theorem dueFrom_succ {a r : List Int} {t : Int} {a' r' : List Int} {t' : Int} {k p : Nat} : dueFrom a r t a' r' t' (k + 1) p = if atL a r t p = atL a' r' t' p then (if (atL a r t p).1 = .stop then .yes else dueFrom a r t a' r' t' k (p + 1)) else .no := rfl
inductive ResV : Res → Value → Prop where
  | yes : ResV .yes (.bool true)
  | no : ResV .no (.bool false)
  | round (tk : Tok) : ResV .round (.str (Str.ofString "circular-list") tk)
/-- a list's tuple -/
abbrev triO (a b : Addr) (t : Int) (tt : Tok) : Obj := { cls := .type "tuple", data := .seq #[.ref a, .ref b, .int t tt] }
inductive TriIn (R : List (Addr × Obj)) (T : Addr) (ns ms : List Int) (t : Int) : Prop where
  | mk (a b : Addr) (va vb : List Value) (na nb : Nat) (tt : Tok) : (T, triO a b t tt) ∈ R → (a, W.listOf va.toArray na) ∈ R → (b, W.listOf vb.toArray nb) ∈ R → IntsAre va ns → IntsAre vb ms → va.length ≤ 20 → vb.length ≤ 20 → TriIn R T ns ms t
theorem tup_base {g h : Heap} {L : Addr} {m : Str → Option Value} {R : List (Addr × Obj)} {T a b : Addr} {t : Int} {tt : Tok} (H : Has g R) (F : Fr g L h m) (i : (T, triO a b t tt) ∈ R) : IsTup h T #[.ref a, .ref b, .int t tt] := ⟨_, F.keep _ _ (H _ i), rfl, _, rfl⟩
section
theorem due_spec {w : World} {mean : ExcName → Option Value} {mg mb : Str → Option Value} {A A₀ : Around} {base h₀ : Heap} {outer : List Env} {L : Addr} {env : Env} {s : Shared} {m : Str → Option Value} {Q E : Value → Shared → Prop} {R : List (Addr × Obj)} {T1 T2 : Addr} {ns ms ns' ms' : List Int} {t t' : Int} {D : Res} (X : (hd.heap_39 w.params).In h₀) (S : Site 360 3600 mean mg mb A A₀ base outer h₀ L env s m) (hD : dueFrom ns ms t ns' ms' t' 60 0 = D) (HR0 : Has s.heap R)
    (i1 : TriIn R T1 ns ms t) (i2 : TriIn R T2 ns' ms' t')
    (h : ∀ h' tk' v, s.heap.StaysIn h' → ResV D v → Q v { s with heap := h', toks := tk' }) :
    wpAny (model PySem.Challenge.rw_pq0276_01.row.toRowW.prog w) A (call (.ref 318) [.ref T1, .ref T2]) Q E s := by
  obtain ⟨a, b, va, vb, na, nb, tt, j1, j2, j3, j4, j5, j6, j7⟩ := i1
  obtain ⟨a', b', va', vb', na', nb', tt', k1, k2, k3, k4, k5, k6, k7⟩ := i2
  revert X; k_fill; intro X
  obtain ⟨h1, h2, h3, h4, B, F, T, he, hk⟩ := S
  refine toTop h1 h2 h3 h4 ?_
  refine wpAny_call ?_
  (k_dflt (refine' code_own ?k1 ?k2 ?k3 ?k4 ?k5 ?kA ?kF ?kK ?k6 ?k7 ?k8 ?k9 ?kB ?_ ?c2 ?c3 ?c4 ?c5; (case kA => exact rfl); (case kF => assumption); (case kK => assumption); (case k1 => k_asm); (case k2 => k_asm); (case k3 => k_asm); (case k4 => exact News.nil); (case k5 => k_asm); (case k6 => k_is); (case k7 => k_is); (case k8 => k_room); (case k9 => first | exact BindsTo.of_eq rfl | exact binds_K (by k_in) rfl (by k_is) rfl rfl rfl); (case c5 => decide); (case kB => exact locs rfl); (case c2 => exact rfl); (case c3 => exact rfl); (case c4 => exact rfl); k_whole; intro g' L' h' HG' FG' F' N' B' X' T'; (try dsimp only); (try k_fold))); (have HR := Has.stays HR0 (But.stays HG')); (clear HR0)
  repeat' ((fail_if_success (with_reducible show wpAny _ _ (pyIter _) _ _ _)); (first | (k_unfold; (try dsimp only)) | (k_end; wrow_close) | walk1 | (dsimp only; walk1) | (leave1; walk_say "STEP leave1"; try dsimp only) | fail "no step"))
  refine iter_rangeUnr (n := 60) rfl (by assumption) (by decide) (by decide) (by k_asm) (by k_asm) (fun I9 lI => ?_)
  refine range_ind3 (n1 := Str.ofString "_law_here") (n2 := Str.ofString "_law_there") (Inv := fun i news => news = [] ∧ dueFrom ns ms t ns' ms' t' (60 - i) i = D) 60 ?step ?fin _ ⟨rfl, hD⟩
  (case step =>
    rintro i news u hi ⟨rfl, hdue⟩ ti hi6 tki F4 N4
    simp only [Int.zero_add] at F4 N4 ⊢
    repeat' ((fail_if_success (with_reducible show wpAny _ _ (subscriptTail _ _ _ _) _ _ _)); (first | (k_unfold; (try dsimp only)) | (k_end; wrow_close) | walk1 | (dsimp only; walk1) | (leave1; walk_say "STEP leave1"; try dsimp only) | fail "no step"))
    refine item_tuple (tup_base HR (by k_asm) j1) (by decide) (by decide) (j := 0) rfl rfl ?_
    repeat' ((fail_if_success (with_reducible show wpAny _ _ (subscriptTail _ _ _ _) _ _ _)); (first | (k_unfold; (try dsimp only)) | (k_end; wrow_close) | walk1 | (dsimp only; walk1) | (leave1; walk_say "STEP leave1"; try dsimp only) | fail "no step"))
    refine item_tuple (tup_base HR (by k_asm) j1) (by decide) (by decide) (j := 1) rfl rfl ?_
    repeat' ((fail_if_success (with_reducible show wpAny _ _ (subscriptTail _ _ _ _) _ _ _)); (first | (k_unfold; (try dsimp only)) | (k_end; wrow_close) | walk1 | (dsimp only; walk1) | (leave1; walk_say "STEP leave1"; try dsimp only) | fail "no step"))
    refine item_tuple (tup_base HR (by k_asm) j1) (by decide) (by decide) (j := 2) rfl rfl ?_
    repeat' ((fail_if_success (with_reducible show wpAny _ _ (call (Value.ref 311) _) _ _ _)); (first | (k_unfold; (try dsimp only)) | (k_end; wrow_close) | walk1 | (dsimp only; walk1) | (leave1; walk_say "STEP leave1"; try dsimp only) | fail "no step"))
    refine' at_spec ?X ⟨?h, ?d, ?f, ?u, ?B, ?F, ?T, ?e, ?k⟩ (Has.keep HR (by k_asm)) j2 j3 j4 j5 j6 j7 hi ?_
    (case X => k_asm); (case h => exact rfl); (case d => exact Nat.le_of_ble_eq_true rfl); (case f => exact rfl); (case u => exact Nat.le_of_ble_eq_true rfl); (case B => k_asm); (case F => k_asm); (case T => k_asm); (case e => first | exact rfl | assumption); (case k => first | exact rfl | assumption);
    intro h7 tk7 T7 g7 x7 ka7 kb7 K7 Y7 e7
    have N7 := news_join (Newly.news Y7 (by k_asm)) (News.stay (by k_asm) K7)
    have F7 := Fr.stay (by k_asm) K7
    clear K7
    clear F4 N4
    repeat' ((fail_if_success (with_reducible show wpAny _ _ (subscriptTail _ _ _ _) _ _ _)); (first | (k_unfold; (try dsimp only)) | (k_end; wrow_close) | walk1 | (dsimp only; walk1) | (leave1; walk_say "STEP leave1"; try dsimp only) | fail "no step"))
    refine item_tuple (tup_base HR (by k_asm) k1) (by decide) (by decide) (j := 0) rfl rfl ?_
    repeat' ((fail_if_success (with_reducible show wpAny _ _ (subscriptTail _ _ _ _) _ _ _)); (first | (k_unfold; (try dsimp only)) | (k_end; wrow_close) | walk1 | (dsimp only; walk1) | (leave1; walk_say "STEP leave1"; try dsimp only) | fail "no step"))
    refine item_tuple (tup_base HR (by k_asm) k1) (by decide) (by decide) (j := 1) rfl rfl ?_
    repeat' ((fail_if_success (with_reducible show wpAny _ _ (subscriptTail _ _ _ _) _ _ _)); (first | (k_unfold; (try dsimp only)) | (k_end; wrow_close) | walk1 | (dsimp only; walk1) | (leave1; walk_say "STEP leave1"; try dsimp only) | fail "no step"))
    refine item_tuple (tup_base HR (by k_asm) k1) (by decide) (by decide) (j := 2) rfl rfl ?_
    repeat' ((fail_if_success (with_reducible show wpAny _ _ (call (Value.ref 311) _) _ _ _)); (first | (k_unfold; (try dsimp only)) | (k_end; wrow_close) | walk1 | (dsimp only; walk1) | (leave1; walk_say "STEP leave1"; try dsimp only) | fail "no step"))
    refine' at_spec ?X ⟨?h, ?d, ?f, ?u, ?B, ?F, ?T, ?e, ?k⟩ (Has.keep HR (by k_asm)) k2 k3 k4 k5 k6 k7 hi ?_
    (case X => k_asm); (case h => exact rfl); (case d => exact Nat.le_of_ble_eq_true rfl); (case f => exact rfl); (case u => exact Nat.le_of_ble_eq_true rfl); (case B => k_asm); (case F => k_asm); (case T => k_asm); (case e => first | exact rfl | assumption); (case k => first | exact rfl | assumption);
    intro h8 tk8 T8 g8 x8 ka8 kb8 K8 Y8 e8
    have N8 := news_join (Newly.news Y8 (by k_asm)) (News.stay (by k_asm) K8)
    have F8 := Fr.stay (by k_asm) K8
    clear K8
    clear F7 N7
    simp only [List.cons_append, List.nil_append] at N8
    obtain ⟨k9, hk9⟩ : ∃ k, 60 - i = k + 1 := ⟨59 - i, by omega⟩
    rw [hk9, dueFrom_succ, e7, e8] at hdue
    repeat' ((fail_if_success (with_reducible show wpAny _ _ (compareOp CmpOp.NotEq (Value.ref _) (Value.ref _)) _ _ _)); (first | (k_unfold; (try dsimp only)) | (k_end; wrow_close) | walk1 | (dsimp only; walk1) | (leave1; walk_say "STEP leave1"; try dsimp only) | fail "no step"))
    (with_reducible rename News g' _ _ _ => N9)
    have z7 := (N9 (T7, _) (.tail _ (.tail _ (.head _)))).1
    have z8 := (N9 (T8, _) (.tail _ (.head _))).1
    refine ne_tup z7 z8 (by units_room) ?_
    by_cases hq : (g7, x7) = (g8, x8)
    · rw [decide_eq_true hq]
      rw [if_pos hq] at hdue
      repeat' ((fail_if_success (with_reducible show wpAny _ _ (subscriptTail _ _ _ _) _ _ _)); (first | (k_unfold; (try dsimp only)) | (k_end; wrow_close) | walk1 | (dsimp only; walk1) | (leave1; walk_say "STEP leave1"; try dsimp only) | fail "no step"))
      refine item_tuple (x := .str (Tag.str g7) ka7) ⟨_, z7, rfl, _, rfl⟩ (by decide) (by decide) (j := 0) rfl rfl ?_
      cases g7 with
      | stop =>
        rw [if_pos rfl] at hdue
        simp only [Tag.str]
        k_steps
        refine h _ _ _ (endStay HG' (by k_asm)) ?_
        rw [← hdue]
        exact .yes
      | thing =>
        rw [if_neg (fun z => by cases z)] at hdue
        simp only [Tag.str]
        repeat' ((fail_if_success (with_reducible show UnrPost _ _ _ _ _ _ _ _ _)); (first | (k_unfold; (try dsimp only)) | (k_end; wrow_close) | walk1 | (dsimp only; walk1) | (leave1; walk_say "STEP leave1"; try dsimp only) | fail "no step"))
        (with_reducible rename News g' _ _ _ => N9)
        exact UnrEnd.intro (by k_asm) N9 [] (fun p hp => by rw [List.mem_singleton.mp hp]; exact .tail _ (.tail _ (.tail _ (.head _)))) (fun p hp => nomatch hp) ⟨fun z z1 z2 z3 => by simp only [if_neg z1, if_neg z2, if_neg z3], rfl, by rw [show 60 - (i + 1) = k9 by omega]; exact hdue⟩
      | none =>
        rw [if_neg (fun z => by cases z)] at hdue
        simp only [Tag.str]
        repeat' ((fail_if_success (with_reducible show UnrPost _ _ _ _ _ _ _ _ _)); (first | (k_unfold; (try dsimp only)) | (k_end; wrow_close) | walk1 | (dsimp only; walk1) | (leave1; walk_say "STEP leave1"; try dsimp only) | fail "no step"))
        (with_reducible rename News g' _ _ _ => N9)
        exact UnrEnd.intro (by k_asm) N9 [] (fun p hp => by rw [List.mem_singleton.mp hp]; exact .tail _ (.tail _ (.tail _ (.head _)))) (fun p hp => nomatch hp) ⟨fun z z1 z2 z3 => by simp only [if_neg z1, if_neg z2, if_neg z3], rfl, by rw [show 60 - (i + 1) = k9 by omega]; exact hdue⟩
    · rw [decide_eq_false hq]
      rw [if_neg hq] at hdue
      k_steps
      refine h _ _ _ (endStay HG' (by k_asm)) ?_
      rw [← hdue]
      exact .no)
  (case fin =>
    rintro u news ⟨rfl, hdue⟩ h4 tk4 F4 N4
    k_steps
    refine h _ _ _ (endStay HG' (by k_asm)) ?_
    rw [← hdue]
    exact .round _)
end

section
variable {prog : Program} {w : World} {A : Around} {E : Value → Shared → Prop} {Q : Flow → Shared → Prop} {s : Shared} {env : Env} {h₀ : Heap} {L : Addr}
theorem while_const {test : Expr} {body : List Stmt} {pos : Pos} {m₀ : Str → Option Value} {news : List (Addr × Obj)} {n₀ : Nat} {Inv : Nat → List (Addr × Obj) → Prop} (F : Fr h₀ L s.heap m₀) (N : News h₀ L s.heap news) (hJ : Inv n₀ news)
    (turn : ∀ n news₁ h₁ tk₁, Fr h₀ L h₁ m₀ → News h₀ L h₁ news₁ → Inv n news₁ →
      wpAny (model prog w) A (isTrue test env (eval test env)) (fun b s₂ =>
        if b = true then wpAny (model prog w) A (execs body env) (WhileStep2 h₀ L s (fun n m news => m = m₀ ∧ Inv n news) Q n) E s₂ else Q .next s₂) E { s with heap := h₁, toks := tk₁ })
    (hE : PassesOwn (model prog w) A env E) : wpAny (model prog w) A (exec (.While test body [] pos) env) Q E s := by
  refine While_inv2 (fun n m news => m = m₀ ∧ Inv n news) F N ⟨rfl, hJ⟩ ?_ hE
  rintro n m₁ news₁ h₁ tk₁ F₁ N₁ ⟨rfl, hI⟩
  exact turn n news₁ h₁ tk₁ F₁ N₁ hI
theorem while_end {m₀ : Str → Option Value} {Inv : Nat → List (Addr × Obj) → Prop} {n n' : Nat} {all news' : List (Addr × Obj)} {h' : Heap} {tk' : Nat} (F : Fr h₀ L h' m₀) (N : News h₀ L h' all) (hs : ∀ p ∈ news', p ∈ all) (hn : n' < n) (hI : Inv n' news') :
    WhileStep2 h₀ L s (fun n m news => m = m₀ ∧ Inv n news) Q n .next { s with heap := h', toks := tk' } :=
  ⟨h', tk', m₀, news', n', rfl, F, fun p hp => N p (hs p hp), hn, rfl, hI⟩
end
theorem fm {a b : Int} (hb : 0 < b) : 0 ≤ a.fmod b ∧ a.fmod b < b := by rw [Int.fmod_eq_emod_of_nonneg _ (by omega)]; exact ⟨Int.emod_nonneg _ (by omega), Int.emod_lt_of_pos _ hb⟩
theorem fd {c b : Int} (hc : 0 ≤ c ∧ c < 10 ^ 60) (hb : 0 < b) : 0 ≤ c.fdiv b ∧ c.fdiv b < 10 ^ 60 := by
  rw [Int.fdiv_eq_ediv_of_nonneg _ (by omega)]
  exact ⟨Int.ediv_nonneg hc.1 (by omega), Int.lt_of_le_of_lt (Int.ediv_le_self _ hc.1) hc.2⟩
theorem cells_put {c : Int} {cs : List Int} (h : 0 ≤ c ∧ c < 10 ^ 60) (hs : ∀ x ∈ cs, 0 ≤ x ∧ x < 10 ^ 60) : ∀ x ∈ c :: cs, 0 ≤ x ∧ x < 10 ^ 60 := fun x z => by
  rcases List.mem_cons.mp z with rfl | z
  · exact h
  · exact hs x z
theorem last2 {a b c d : Addr × Obj} : ∀ p ∈ [c, d], p ∈ [a, b, c, d] := fun p hp => .tail _ (.tail _ hp)
/-- the deck: cells and the mixed number -/
inductive DeckO (D I : Addr) : List (Addr × Obj) → Prop where
  | mk (vs : List Value) (cs : List Int) (mx : Int) (tm : Tok) (nD nI : Nat) : IntsAre vs cs → (∀ c ∈ cs, 0 ≤ c ∧ c < 10 ^ 60) → 0 ≤ mx → mx < 2147483647 → vs.length ≤ 24 → DeckO D I [(D, W.listOf #[.ref I, .int mx tm] nD), (I, W.listOf vs.toArray nI)]
section
theorem draw_spec {w : World} {mean : ExcName → Option Value} {mg mb : Str → Option Value} {A A₀ : Around} {base h₀ : Heap} {outer : List Env} {L : Addr} {env : Env} {s : Shared} {m : Str → Option Value} {Q E : Value → Shared → Prop} {D I : Addr} {own : List (Addr × Obj)} {many : Int} {tn : Tok} (X : (hd.heap_39 w.params).In h₀) (S : Site 380 3800 mean mg mb A A₀ base outer h₀ L env s m) (N : News h₀ L s.heap own) (O : DeckO D I own) (hDI : @Ne Nat D I) (hn : 0 < many) (hn9 : many < 100)
    (h : ∀ h' tk' own' x tx, Fr h₀ L h' m → But s.heap [D, I] h' → News h₀ L h' own' → DeckO D I own' → 0 ≤ x → x < many → Q (.int x tx) { s with heap := h', toks := tk' }) :
    wpAny (model PySem.Challenge.rw_pq0276_01.row.toRowW.prog w) A (call (.ref 285) [.ref D, .int many tn]) Q E s := by
  cases O with | mk vs cs mx tm nD nI hv hc hm0 hm1 hl =>
  revert X; k_fill; intro X
  obtain ⟨h1, h2, h3, h4, B, F, T, he, hk⟩ := S
  refine toTop h1 h2 h3 h4 ?_
  refine wpAny_call ?_
  (k_dflt (refine' code_own ?k1 ?k2 ?k3 ?k4 ?k5 ?kA ?kF ?kK ?k6 ?k7 ?k8 ?k9 ?kB ?_ ?c2 ?c3 ?c4 ?c5; (case kA => exact rfl); (case kF => assumption); (case kK => assumption); (case k1 => k_asm); (case k2 => k_asm); (case k3 => k_asm); (case k4 => exact N); (case k5 => k_asm); (case k6 => k_is); (case k7 => k_is); (case k8 => k_room); (case k9 => first | exact BindsTo.of_eq rfl | exact binds_K (by k_in) rfl (by k_is) rfl rfl rfl); (case c5 => decide); (case kB => exact locs rfl); (case c2 => exact rfl); (case c3 => exact rfl); (case c4 => exact rfl); k_whole; intro g' L' h' HG' FG' F' N' B' X' T'; (try dsimp only); (try k_fold)))
  repeat' ((fail_if_success (with_reducible show wpAny _ _ (exec (Stmt.While _ _ _ _) _) _ _ _)); (first | (k_unfold; (try dsimp only)) | (k_end; wrow_close) | walk1 | (dsimp only; walk1) | (leave1; walk_say "STEP leave1"; try dsimp only) | fail "no step"))
  refine' while_const (n₀ := vs.length) (Inv := fun n news => ∃ vs cs nI, vs.length = n ∧ IntsAre vs cs ∧ (∀ c ∈ cs, 0 ≤ c ∧ c < 10 ^ 60) ∧ vs.length ≤ 24 ∧ news = [(D, W.listOf #[.ref I, .int mx tm] nD), (I, W.listOf vs.toArray nI)]) ?F ?N ⟨vs, cs, nI, rfl, hv, hc, hl, rfl⟩ ?turn ?hE
  (case F => k_asm)
  (case N => k_asm)
  (case hE => passes_own)
  (case turn =>
    clear hv hc hl N'
    rintro n news h1 tk1 F1 N1 ⟨vs, cs, nI, rfl, hv, hc, hl, rfl⟩
    cases hv with
    | nil =>
      repeat' ((fail_if_success (with_reducible show wpAny _ _ (compareOp CmpOp.NotEq (Value.ref _) (Value.ref _)) _ _ _)); (first | (k_unfold; (try dsimp only)) | (k_end; wrow_close) | walk1 | (dsimp only; walk1) | (leave1; walk_say "STEP leave1"; try dsimp only) | fail "no step"))
      refine ne_intsK (News.isList (items := [].toArray) (by k_asm) (.tail _ (.tail _ (.head _)))) IntsAre.nil (News.isList (items := [].toArray) (by k_asm) (.head _)) IntsAre.nil (by units_room) ?_
      rw [decide_eq_true rfl]
      repeat' ((fail_if_success (with_reducible show wpAny _ _ (compareOp CmpOp.NotEq (Value.ref _) (Value.ref _)) _ _ _)); (first | (k_unfold; (try dsimp only)) | (k_end; wrow_close) | walk1 | (dsimp only; walk1) | (leave1; walk_say "STEP leave1"; try dsimp only) | fail "no step"))
      refine ne_intsK (News.isList (items := [].toArray) (by k_asm) (.tail _ (.tail _ (.tail _ (.head _))))) IntsAre.nil (News.isList (items := [].toArray) (by k_asm) (.head _)) IntsAre.nil (by units_room) ?_
      rw [decide_eq_true rfl]
      k_steps
      (with_reducible rename News h₀ L _ [_, _, _, _] => kN9)
      have f1 := fm (a := mx * 48271 + 11) (b := 2147483647) (by decide)
      have f2 := fm (a := ((mx * 48271 + 11).fmod 2147483647).fdiv 64) hn
      exact h _ _ _ _ _ (by k_asm) (But.fr HG' (by k_asm)) (news_sub kN9 last2) (.mk [] [] _ _ _ _ .nil (fun c z => nomatch z) f1.1 f1.2 (Nat.zero_le _)) f2.1 f2.2
    | @cons c tc vs' cs' hv' =>
      have hc0 := hc c (.head _)
      repeat' ((fail_if_success (with_reducible show wpAny _ _ (compareOp CmpOp.NotEq (Value.ref _) (Value.ref _)) _ _ _)); (first | (k_unfold; (try dsimp only)) | (k_end; wrow_close) | walk1 | (dsimp only; walk1) | (leave1; walk_say "STEP leave1"; try dsimp only) | fail "no step"))
      refine ne_intsK (News.isList (items := (Value.int c tc :: vs').toArray) (by k_asm) (.tail _ (.tail _ (.head _)))) (IntsAre.cons c tc hv') (News.isList (items := [].toArray) (by k_asm) (.head _)) IntsAre.nil (by units_room) ?_
      rw [decide_eq_false (fun z => by cases z)]
      repeat' ((fail_if_success (with_reducible show wpAny _ _ (compareOp CmpOp.NotEq (Value.ref _) (Value.ref _)) _ _ _)); (fail_if_success (with_reducible show wpAny _ _ (call (Value.builtin "list.pop") _) _ _ _)); (first | (k_unfold; (try dsimp only)) | (k_end; wrow_close) | walk1 | (dsimp only; walk1) | (leave1; walk_say "STEP leave1"; try dsimp only) | fail "no step"))
      · refine' kl_popAt (its := (Value.int c tc :: vs').toArray) (k := 0) (p := []) (y := Value.int c tc) (q := vs') ?F ?N rfl (by simp [seqIndex?]; try omega) rfl ?U ?z ?_
        (case F => k_asm)
        (case N => k_asm)
        (case U => k_upd)
        (case z => rw [sizeLine_eq]; simp at hl ⊢; omega)
        intro h8 F8 N8
        repeat' ((fail_if_success (with_reducible show WhileStep2 _ _ _ _ _ _ _ _)); (first | (k_unfold; (try dsimp only)) | (k_end; wrow_close) | walk1 | (dsimp only; walk1) | (leave1; walk_say "STEP leave1"; try dsimp only) | fail "no step"))
        exact while_end F8 N8 (fun p hp => .tail _ hp) (Nat.lt_succ_self _) ⟨vs', cs', _, rfl, hv', fun x z => hc x (.tail _ z), by simp at hl; omega, rfl⟩
      · refine ne_intsK (News.isList (items := (Value.int c tc :: vs').toArray) (by k_asm) (.tail _ (.tail _ (.tail _ (.head _))))) (IntsAre.cons c tc hv') (News.isList (items := [].toArray) (by k_asm) (.head _)) IntsAre.nil (by units_room) ?_
        rw [decide_eq_false (fun z => by cases z)]
        k_steps
        (with_reducible rename News h₀ L _ [_, _, _, _] => kN9)
        have f2 := fm (a := c) hn
        have f3 := fd hc0 hn
        exact h _ _ _ _ _ (by k_asm) (But.fr HG' (by k_asm)) (news_sub kN9 last2) (.mk (_ :: vs') (c.fdiv many :: cs') _ _ _ _ (.cons _ _ hv') (cells_put f3 (fun x z => hc x (.tail _ z))) hm0 hm1 (by simpa using hl)) f2.1 f2.2)
end

theorem DeckO.addr {D I : Addr} {own : List (Addr × Obj)} (O : DeckO D I own) : ∀ p ∈ own, p.1 = D ∨ p.1 = I := by
  cases O
  intro p hp
  simp only [List.mem_cons, List.not_mem_nil, or_false] at hp
  rcases hp with rfl | rfl
  · exact .inl rfl
  · exact .inr rfl
theorem DeckO.has {D I : Addr} {own : List (Addr × Obj)} (O : DeckO D I own) : (∃ its n, (D, W.listOf its n) ∈ own) ∧ ∃ its n, (I, W.listOf its n) ∈ own := by
  cases O
  exact ⟨⟨_, _, .head _⟩, _, _, .tail _ (.head _)⟩
section
theorem draw_led {w : World} {mean : ExcName → Option Value} {mg mb : Str → Option Value} {A A₀ : Around} {base h₀ : Heap} {outer : List Env} {L : Addr} {env : Env} {s : Shared} {m : Str → Option Value} {Q E : Value → Shared → Prop} {D I : Addr} {own all rest : List (Addr × Obj)} {many : Int} {tn : Tok} (X : (hd.heap_39 w.params).In h₀) (S : Site 380 3800 mean mg mb A A₀ base outer h₀ L env s m) (N : News h₀ L s.heap all) (O : DeckO D I own) (hs : ∀ p ∈ own, p ∈ all) (hrest : ∀ p ∈ rest, p ∈ all) (off : ∀ p ∈ rest, p.1 ≠ D ∧ p.1 ≠ I) (hDI : @Ne Nat D I) (hn : 0 < many) (hn9 : many < 100)
    (h : ∀ h' tk' own' x tx, Fr h₀ L h' m → News h₀ L h' (own' ++ rest) → DeckO D I own' → 0 ≤ x → x < many → Q (.int x tx) { s with heap := h', toks := tk' }) :
    wpAny (model PySem.Challenge.rw_pq0276_01.row.toRowW.prog w) A (call (.ref 285) [.ref D, .int many tn]) Q E s :=
  draw_spec X S (news_sub N hs) O hDI hn hn9 fun h' tk' own' x tx F' K N' O' x0 x1 => h h' tk' own' x tx F' (news_join N' (News.but (news_sub N hrest) K fun p hp q => by
    simp only [List.mem_cons, List.not_mem_nil, or_false] at q
    rcases q with q | q
    · exact (off p hp).1 q
    · exact (off p hp).2 q)) O' x0 x1
theorem cell_off {h₀ h : Heap} {L D I c : Addr} {o : Obj} {vc : Option Value} {own rest : List (Addr × Obj)} (N : News h₀ L h ((c, o) :: (own ++ rest))) (hc : o.data = .cell vc) (O : DeckO D I own) : c ≠ D ∧ c ≠ I := by
  obtain ⟨⟨i1, n1, m1⟩, i2, n2, m2⟩ := O.has
  have a := (N _ (.head _)).1
  refine ⟨fun q => ?_, fun q => ?_⟩
  · have b := (N _ (.tail _ (List.mem_append_left _ m1))).1
    rw [← q, a] at b; cases b; cases hc
  · have b := (N _ (.tail _ (List.mem_append_left _ m2))).1
    rw [← q, a] at b; cases b; cases hc
theorem cell_swap {c : Addr × Obj} {own rest : List (Addr × Obj)} : ∀ p ∈ c :: (own ++ rest), p ∈ own ++ c :: rest := fun p hp => by
  simp only [List.mem_cons, List.mem_append] at hp ⊢
  rcases hp with hp | hp | hp <;> simp [hp]
theorem own_in4 {a b c d : Addr × Obj} {own rest : List (Addr × Obj)} : ∀ p ∈ own, p ∈ a :: b :: c :: d :: (own ++ rest) := fun p hp => by simp [hp]
theorem rest_in4 {a b c d : Addr × Obj} {own rest : List (Addr × Obj)} : ∀ p ∈ a :: b :: c :: d :: rest, p ∈ a :: b :: c :: d :: (own ++ rest) := fun p hp => by
  simp only [List.mem_cons, List.mem_append] at hp ⊢
  rcases hp with hp | hp | hp | hp | hp <;> simp [hp]
theorem comp_sub4 {a b c d : Addr × Obj} {own rest : List (Addr × Obj)} : ∀ p ∈ a :: b :: c :: d :: (own ++ rest), p ∈ own ++ a :: b :: c :: d :: rest := fun p hp => by
  simp only [List.mem_cons, List.mem_append] at hp ⊢
  rcases hp with hp | hp | hp | hp | hp | hp <;> simp [hp]
theorem comp_offs {J C Dc c D I : Addr} {oJ oC oD o : Obj} {own rest : List (Addr × Obj)} (off : LCg.Off3 J C Dc ((c, o) :: (own ++ rest))) (O : DeckO D I own) (co : c ≠ D ∧ c ≠ I) (hr : ∀ p ∈ rest, p.1 ≠ D ∧ p.1 ≠ I) : ∀ p ∈ (J, oJ) :: (C, oC) :: (Dc, oD) :: (c, o) :: rest, p.1 ≠ D ∧ p.1 ≠ I := fun p hp => by
  obtain ⟨⟨i1, n1, m1⟩, i2, n2, m2⟩ := O.has
  have a := off.mem _ (List.Mem.tail _ (List.mem_append_left rest m1))
  have b := off.mem _ (List.Mem.tail _ (List.mem_append_left rest m2))
  simp only [List.mem_cons] at hp
  rcases hp with rfl | rfl | rfl | rfl | hp
  · exact ⟨Ne.symm a.1, Ne.symm b.1⟩
  · exact ⟨Ne.symm a.2.1, Ne.symm b.2.1⟩
  · exact ⟨Ne.symm a.2.2, Ne.symm b.2.2⟩
  · exact co
  · exact hr p hp
theorem comp_off2 {J C Dc c D I : Addr} {o : Obj} {own own' rest : List (Addr × Obj)} (off : LCg.Off3 J C Dc ((c, o) :: (own ++ rest))) (O : DeckO D I own) (O' : DeckO D I own') : LCg.Off3 J C Dc ((c, o) :: (own' ++ rest)) := LCg.Off3.of fun p hp => by
  obtain ⟨⟨i1, n1, m1⟩, i2, n2, m2⟩ := O.has
  have a := off.mem _ (List.Mem.tail _ (List.mem_append_left rest m1))
  have b := off.mem _ (List.Mem.tail _ (List.mem_append_left rest m2))
  rcases List.mem_cons.mp hp with rfl | hp
  · exact off.mem _ (.head _)
  rcases List.mem_append.mp hp with hp | hp
  · rcases O'.addr p hp with q | q
    · rw [q]; exact a
    · rw [q]; exact b
  · exact off.mem _ (List.Mem.tail _ (List.mem_append_right _ hp))
theorem fin_off {A D I : Addr} {c : Addr × Obj} {own rest : List (Addr × Obj)} (off : LCg.Off1 A (c :: (own ++ rest))) (O : DeckO D I own) : A ≠ D ∧ A ≠ I := by
  have mem : ∀ {l : List (Addr × Obj)}, LCg.Off1 A l → ∀ p ∈ l, p.1 ≠ A := fun {l} => by
    induction l with
    | nil => intro _ p hp; cases hp
    | cons x l ih =>
      intro h p hp
      rcases List.mem_cons.mp hp with rfl | hp
      · exact h.1
      · exact ih h.2 p hp
  obtain ⟨⟨i1, n1, m1⟩, i2, n2, m2⟩ := O.has
  exact ⟨Ne.symm (mem off _ (.tail _ (List.mem_append_left _ m1))), Ne.symm (mem off _ (.tail _ (List.mem_append_left _ m2)))⟩
theorem own_in2 {a b : Addr × Obj} {own rest : List (Addr × Obj)} : ∀ p ∈ own, p ∈ a :: b :: (own ++ rest) := fun p hp => by simp [hp]
theorem rest_in2 {a b : Addr × Obj} {own rest : List (Addr × Obj)} : ∀ p ∈ a :: b :: rest, p ∈ a :: b :: (own ++ rest) := fun p hp => by
  simp only [List.mem_cons, List.mem_append] at hp ⊢
  rcases hp with hp | hp | hp <;> simp [hp]
theorem swap2 {a b : Addr × Obj} {own rest : List (Addr × Obj)} : ∀ p ∈ a :: b :: (own ++ rest), p ∈ own ++ a :: b :: rest := fun p hp => by
  simp only [List.mem_cons, List.mem_append] at hp ⊢
  rcases hp with hp | hp | hp | hp <;> simp [hp]
theorem lt_off {d D I : Addr} {own rest : List (Addr × Obj)} (O : DeckO D I own) (a : AllLt d (own ++ rest)) : d ≠ D ∧ d ≠ I := by
  obtain ⟨⟨i1, n1, m1⟩, i2, n2, m2⟩ := O.has
  exact ⟨Nat.ne_of_gt (allLt_mem _ a _ (List.mem_append_left _ m1)), Nat.ne_of_gt (allLt_mem _ a _ (List.mem_append_left _ m2))⟩
theorem tup_off {h₀ h : Heap} {L D I T a b : Addr} {t : Int} {tt : Tok} {own rest : List (Addr × Obj)} (N : News h₀ L h ((T, triO a b t tt) :: (own ++ rest))) (O : DeckO D I own) : T ≠ D ∧ T ≠ I := by
  obtain ⟨⟨i1, n1, m1⟩, i2, n2, m2⟩ := O.has
  exact ⟨ne_of_obj N (.head _) (.tail _ (List.mem_append_left _ m1)) (by intro e; exact absurd (Value.type.inj e) (by decide)), ne_of_obj N (.head _) (.tail _ (List.mem_append_left _ m2)) (by intro e; exact absurd (Value.type.inj e) (by decide))⟩
theorem end_sub {T x b a c : Addr × Obj} {own rest : List (Addr × Obj)} : ∀ p ∈ T :: a :: b :: (own ++ rest), p ∈ T :: (own ++ x :: b :: a :: c :: rest) := fun p hp => by
  simp only [List.mem_cons, List.mem_append] at hp ⊢
  rcases hp with hp | hp | hp | hp | hp <;> simp [hp]
theorem swap3 {a b : Addr × Obj} {own rest : List (Addr × Obj)} : ∀ p ∈ b :: (own ++ a :: rest), p ∈ own ++ a :: b :: rest := fun p hp => by
  simp only [List.mem_cons, List.mem_append] at hp ⊢
  rcases hp with hp | hp | hp | hp <;> simp [hp]
theorem own_in5 {a b c d : Addr × Obj} {own rest : List (Addr × Obj)} : ∀ p ∈ own, p ∈ a :: b :: c :: (own ++ d :: rest) := fun p hp => by simp [hp]
theorem rest_in5 {a b c d : Addr × Obj} {own rest : List (Addr × Obj)} : ∀ p ∈ a :: b :: c :: d :: rest, p ∈ a :: b :: c :: (own ++ d :: rest) := fun p hp => by
  simp only [List.mem_cons, List.mem_append] at hp ⊢
  rcases hp with hp | hp | hp | hp | hp <;> simp [hp]
theorem end_sub5 {T x b a c : Addr × Obj} {own rest : List (Addr × Obj)} : ∀ p ∈ T :: a :: b :: (own ++ rest), p ∈ T :: (own ++ x :: b :: c :: a :: rest) := fun p hp => by
  simp only [List.mem_cons, List.mem_append] at hp ⊢
  rcases hp with hp | hp | hp | hp | hp <;> simp [hp]
theorem end_sub6 {T x b a c : Addr × Obj} {own rest : List (Addr × Obj)} : ∀ p ∈ T :: a :: b :: (own ++ rest), p ∈ T :: x :: b :: c :: (own ++ a :: rest) := fun p hp => by
  simp only [List.mem_cons, List.mem_append] at hp ⊢
  rcases hp with hp | hp | hp | hp | hp <;> simp [hp]
theorem end_sub7 {T x b a c : Addr × Obj} {own rest : List (Addr × Obj)} : ∀ p ∈ T :: (own ++ rest), p ∈ T :: x :: b :: c :: (own ++ a :: rest) := fun p hp => by
  simp only [List.mem_cons, List.mem_append] at hp ⊢
  rcases hp with hp | hp | hp <;> simp [hp]
theorem own_in {c : Addr × Obj} {own rest : List (Addr × Obj)} : ∀ p ∈ own, p ∈ c :: (own ++ rest) := fun p hp => .tail _ (List.mem_append_left _ hp)
theorem cell_rest {c : Addr × Obj} {own rest : List (Addr × Obj)} : ∀ p ∈ c :: rest, p ∈ c :: (own ++ rest) := fun p hp => by
  rcases List.mem_cons.mp hp with rfl | hp
  · exact .head _
  · exact .tail _ (List.mem_append_right _ hp)
theorem cell_offs {c D I : Addr} {o : Obj} {rest : List (Addr × Obj)} (co : c ≠ D ∧ c ≠ I) (hr : ∀ p ∈ rest, p.1 ≠ D ∧ p.1 ≠ I) : ∀ p ∈ (c, o) :: rest, p.1 ≠ D ∧ p.1 ≠ I := fun p hp => by
  rcases List.mem_cons.mp hp with rfl | hp
  · exact co
  · exact hr p hp
theorem drawn_spec {w : World} {mean : ExcName → Option Value} {mg mb : Str → Option Value} {A A₀ : Around} {base h₀ : Heap} {outer : List Env} {L : Addr} {env : Env} {s : Shared} {m : Str → Option Value} {Q E : Value → Shared → Prop} {D I : Addr} {own rest : List (Addr × Obj)} {most : Int} {tn : Tok} (X : (hd.heap_39 w.params).In h₀) (S : Site 360 3600 mean mg mb A A₀ base outer h₀ L env s m) (N : News h₀ L s.heap (own ++ rest)) (O : DeckO D I own) (hDI : @Ne Nat D I) (hn : 0 < most) (hn9 : most < 6) (hr : ∀ p ∈ rest, p.1 ≠ D ∧ p.1 ≠ I)
    (h : ∀ h' tk' T a b va vb na nb ns ms t tt own', Fr h₀ L h' m → News h₀ L h' ((T, triO a b t tt) :: (a, W.listOf va.toArray na) :: (b, W.listOf vb.toArray nb) :: (own' ++ rest)) → DeckO D I own' → (T ≠ D ∧ T ≠ I) → (a ≠ D ∧ a ≠ I) → (b ≠ D ∧ b ≠ I) →
      IntsAre va ns → IntsAre vb ms → (∀ c ∈ ns, 0 ≤ c ∧ c < 6) → (∀ c ∈ ms, 0 ≤ c ∧ c < 2) → va.length ≤ 4 → vb.length ≤ 4 → 0 ≤ t → t < 3 → (ms ≠ [] → t = 0) → Q (.ref T) { s with heap := h', toks := tk' }) :
    wpAny (model PySem.Challenge.rw_pq0276_01.row.toRowW.prog w) A (call (.ref 323) [.ref D, .int most tn]) Q E s := by
  revert X; k_fill; intro X
  obtain ⟨h1, h2, h3, h4, B, F, T, he, hk⟩ := S
  refine toTop h1 h2 h3 h4 ?_
  refine wpAny_call ?_
  (k_dflt (refine' code_defC ?k1 ?k2 ?k3 ?k4 ?k5 ?kA ?kF ?kK ?k6 ?k7 ?k8 ?k9 ?kB ?kD ?_ ?c2 ?c3 ?c4; (case kA => exact rfl); (case kF => assumption); (case kK => assumption); (case k1 => k_asm); (case k2 => k_asm); (case k3 => k_asm); (case k4 => k_asm); (case k5 => k_asm); (case k6 => k_is); (case k7 => k_is); (case k8 => k_room); (case k9 => first | exact BindsTo.of_eq rfl | exact binds_K (by k_in) rfl (by k_is) rfl rfl rfl); (case kB => exact rfl); (case kD => decide +kernel); (case c2 => exact rfl); (case c3 => exact rfl); (case c4 => exact rfl); k_whole; intro g' L' h' tk' cells' FG' F' N' Y' B' X' T' l1; (try k_lt l1); k_cells Y'; (try simp only [List.cons_append, List.nil_append] at N'); (try dsimp only); (try k_fold)))
  repeat' ((fail_if_success (with_reducible show wpAny _ _ (exec (Stmt.Assign _ (Expr.ListComp _ _ _ _) _) _) _ _ _)); (first | (k_unfold; (try dsimp only)) | (k_end; wrow_close) | walk1 | (dsimp only; walk1) | (leave1; walk_say "STEP leave1"; try dsimp only) | fail "no step"))
  (k_dflt (refine LCg.Assign_ListComp_U (F₀ := by k_asm) (by rfl) (by with_unfolding_all rfl) (by rfl) (by decide) (by rfl) (by decide) (by rfl) (by rfl) (by rfl) ?_))
  repeat' ((fail_if_success (with_reducible show wpAny _ _ (call (Value.ref 285) _) _ _ _)); (first | (k_unfold; (try dsimp only)) | (k_end; wrow_close) | walk1 | (dsimp only; walk1) | (leave1; walk_say "STEP leave1"; try dsimp only) | fail "no step"))
  (with_reducible rename Obj.data _ = _ => hcell)
  have co := cell_off N' hcell O
  refine' draw_led ?X ⟨?h, ?d, ?f, ?u, ?B, ?F, ?T, ?e, ?k⟩ N' O own_in cell_rest (cell_offs co hr) hDI hn (by omega) ?_
  (case X => k_asm); (case h => exact rfl); (case d => exact Nat.le_of_ble_eq_true rfl); (case f => exact rfl); (case u => exact Nat.le_of_ble_eq_true rfl); (case B => k_asm); (case F => k_asm); (case T => k_asm); (case e => first | exact rfl | assumption); (case k => first | exact rfl | assumption);
  intro h1 tk1 own1 x1 tx1 F1 N1 O1 x10 x11
  repeat' ((fail_if_success (with_reducible show LCg.CompSrc _ _ _ _ _ _ _ _ _ _ _ _ _ _)); (first | (k_unfold; (try dsimp only)) | (k_end; wrow_close) | walk1 | (dsimp only; walk1) | (leave1; walk_say "STEP leave1"; try dsimp only) | fail "no step"))
  (with_reducible rename Obj => o9)
  (with_reducible rename News g' L' _ (own1 ++ _) => N2)
  have N3 : News g' L' _ ((L' + 1, o9) :: (own1 ++ rest)) := news_sub N2 cell_swap
  refine LCg.CompSrc.range (n := x1.toNat) (by rfl) (by k_asm) N3 (by assumption) (small_one (by omega) (by omega) (by omega) (by omega)) (by rw [rangeSize_one]; split <;> omega) (by rw [sizeLine_eq]; omega) ?_
  intro g9
  refine comp_ind (Inv := fun i ys news => ∃ own ns, ys.length = i ∧ IntsAre ys ns ∧ (∀ c ∈ ns, 0 ≤ c ∧ c < 6) ∧ DeckO D I own ∧ news = (L' + 1, o9) :: (own ++ rest)) x1.toNat ?step ?fin x1.toNat 0 [] _ (Nat.zero_add _) ⟨own1, [], rfl, .nil, fun c z => (nomatch z), O1, rfl⟩
  (case step =>
    rintro i ys news hi ⟨own, ns, rfl, hy, hc, O, rfl⟩ v J oJ C oC Dc m2 h8 tk8 E8 hv hoC hx F8 N8 off8 ⟨ne1, ne2, ne3⟩
    obtain ⟨t9, rfl⟩ := hv
    repeat' ((fail_if_success (with_reducible show wpAny _ _ (call (Value.ref 285) _) _ _ _)); (first | (k_unfold; (try dsimp only)) | (k_end; wrow_close) | walk1 | (dsimp only; walk1) | (leave1; walk_say "STEP leave1"; try dsimp only) | fail "no step"))
    refine' draw_led ?X ⟨?h, ?d, ?f, ?u, ?B, ?F, ?T, ?e, ?k⟩ N8 O own_in4 rest_in4 (comp_offs off8 O co hr) hDI (by decide) (by decide) ?_
    (case X => k_asm); (case h => exact rfl); (case d => exact Nat.le_of_ble_eq_true rfl); (case f => exact rfl); (case u => exact Nat.le_of_ble_eq_true rfl); (case B => k_asm); (case F => k_asm); (case T => k_asm); (case e => first | exact rfl | assumption); (case k => first | exact rfl | assumption);
    intro h7 tk7 own7 x7 tx7 F7 N7 O7 x70 x71
    exact LCg.CompEnd.intro F7 N7 ((L' + 1, o9) :: (own7 ++ rest)) comp_sub4 (comp_off2 off8 O O7) trivial ⟨own7, ns ++ [x7], by simp, hy.append (IntsAre.cons x7 tx7 .nil), fun c z => (List.mem_append.mp z).elim (hc c) (fun z => by rw [List.mem_singleton.mp z]; exact ⟨x70, x71⟩), O7, rfl⟩)
  (case fin =>
    rintro ys news ⟨own, ns, hlen, hy, hc, O, rfl⟩
    unfold LCg.FinA
    intro D9 h5 tk5 F5 N5 o5
    have cA := fin_off o5 O
    repeat' ((fail_if_success (with_reducible show wpAny _ _ (call (Value.ref 285) _) _ _ _)); (first | (k_unfold; (try dsimp only)) | (k_end; wrow_close) | walk1 | (dsimp only; walk1) | (leave1; walk_say "STEP leave1"; try dsimp only) | fail "no step"))
    refine' draw_led ?X ⟨?h, ?d, ?f, ?u, ?B, ?F, ?T, ?e, ?k⟩ (rest := (D9, LCg.lst ys) :: (L' + 1, o9) :: rest) N5 O own_in2 rest_in2 (cell_offs cA (cell_offs co hr)) hDI (by decide) (by decide) ?_
    (case X => k_asm); (case h => exact rfl); (case d => exact Nat.le_of_ble_eq_true rfl); (case f => exact rfl); (case u => exact Nat.le_of_ble_eq_true rfl); (case B => k_asm); (case F => k_asm); (case T => k_asm); (case e => first | exact rfl | assumption); (case k => first | exact rfl | assumption);
    intro h1 tk1 own2 x2 tx2 F2 N2 O2 x20 x21
    have N4 := news_sub N2 swap2
    clear N2 F5 N5
    repeat' ((fail_if_success (with_reducible show wpAny _ _ (call (Value.ref 285) _) _ _ _)); (first | (k_unfold; (try dsimp only)) | (k_end; wrow_close) | walk1 | (dsimp only; walk1) | (leave1; walk_say "STEP leave1"; try dsimp only) | fail "no step"))
    · refine' draw_led ?X ⟨?h, ?d, ?f, ?u, ?B, ?F, ?T, ?e, ?k⟩ (rest := (D9, LCg.lst ys) :: (L' + 1, o9) :: rest) N4 O2 own_in2 rest_in2 (cell_offs cA (cell_offs co hr)) hDI (by decide) (by decide) ?_
      (case X => k_asm); (case h => exact rfl); (case d => exact Nat.le_of_ble_eq_true rfl); (case f => exact rfl); (case u => exact Nat.le_of_ble_eq_true rfl); (case B => k_asm); (case F => k_asm); (case T => k_asm); (case e => first | exact rfl | assumption); (case k => first | exact rfl | assumption);
      intro h3 tk3 own3 x3 tx3 F3 N3 O3 x30 x31
      repeat' ((fail_if_success (with_reducible show LCg.CompSrc _ _ _ _ _ _ _ _ _ _ _ _ _ _)); (first | (k_unfold; (try dsimp only)) | (k_end; wrow_close) | walk1 | (dsimp only; walk1) | (leave1; walk_say "STEP leave1"; try dsimp only) | fail "no step"))
      (with_reducible rename News g' L' _ (own3 ++ _) => N7)
      have N8 : News g' L' _ ((L' + 1, o9) :: (own3 ++ ((D9, LCg.lst ys) :: rest))) := news_sub N7 swap3
      refine LCg.CompSrc.range (n := x3.toNat) (by rfl) (by k_asm) N8 (by assumption) (small_one (by omega) (by omega) (by omega) (by omega)) (by rw [rangeSize_one]; split <;> omega) (by rw [sizeLine_eq]; omega) ?_
      intro g8
      refine comp_ind (Inv := fun i zs news => ∃ own ms, zs.length = i ∧ IntsAre zs ms ∧ (∀ c ∈ ms, 0 ≤ c ∧ c < 2) ∧ DeckO D I own ∧ news = (L' + 1, o9) :: (own ++ ((D9, LCg.lst ys) :: rest))) x3.toNat ?step2 ?fin2 x3.toNat 0 [] _ (Nat.zero_add _) ⟨own3, [], rfl, .nil, fun c z => (nomatch z), O3, rfl⟩
      (case step2 =>
        rintro i zs news hi ⟨own, ms, rfl, hz, hc2, O, rfl⟩ v J oJ C oC Dc m2 h8 tk8 E8 hv hoC hx F8 N8 off8 ⟨ne1, ne2, ne3⟩
        obtain ⟨t9, rfl⟩ := hv
        repeat' ((fail_if_success (with_reducible show wpAny _ _ (call (Value.ref 285) _) _ _ _)); (first | (k_unfold; (try dsimp only)) | (k_end; wrow_close) | walk1 | (dsimp only; walk1) | (leave1; walk_say "STEP leave1"; try dsimp only) | fail "no step"))
        refine' draw_led ?X ⟨?h, ?d, ?f, ?u, ?B, ?F, ?T, ?e, ?k⟩ N8 O own_in4 rest_in4 (comp_offs off8 O co (cell_offs cA hr)) hDI (by decide) (by decide) ?_
        (case X => k_asm); (case h => exact rfl); (case d => exact Nat.le_of_ble_eq_true rfl); (case f => exact rfl); (case u => exact Nat.le_of_ble_eq_true rfl); (case B => k_asm); (case F => k_asm); (case T => k_asm); (case e => first | exact rfl | assumption); (case k => first | exact rfl | assumption);
        intro h7 tk7 own7 x7 tx7 F7 N7 O7 x70 x71
        exact LCg.CompEnd.intro F7 N7 ((L' + 1, o9) :: (own7 ++ ((D9, LCg.lst ys) :: rest))) comp_sub4 (comp_off2 off8 O O7) trivial ⟨own7, ms ++ [x7], by simp, hz.append (IntsAre.cons x7 tx7 .nil), fun c z => (List.mem_append.mp z).elim (hc2 c) (fun z => by rw [List.mem_singleton.mp z]; exact ⟨x70, x71⟩), O7, rfl⟩)
      (case fin2 =>
        rintro zs news ⟨own, ms, hlen2, hz, hc2, O, rfl⟩
        unfold LCg.FinE
        intro D8 h4 tk4 F4 N4 o4
        have cB := fin_off o4 O
        repeat' ((fail_if_success (with_reducible show wpAny _ _ (compareOp CmpOp.NotEq (Value.ref _) (Value.ref _)) _ _ _)); (first | (k_unfold; (try dsimp only)) | (k_end; wrow_close) | walk1 | (dsimp only; walk1) | (leave1; walk_say "STEP leave1"; try dsimp only) | fail "no step"))
        (with_reducible rename News g' L' _ (_ :: _ :: _ :: (_ ++ _)) => N6)
        (with_reducible rename (_ ∧ _ ∧ AllLt _ (own ++ _)) => lb)
        have oo := lt_off O lb.2.2
        refine ne_intsK (News.isList (items := zs.toArray) N6 (.tail _ (.head _))) hz (News.isList (items := [].toArray) N6 (.head _)) IntsAre.nil (by units_room) ?_
        by_cases hm : ms = []
        · rw [decide_eq_true hm]
          repeat' ((fail_if_success (with_reducible show wpAny _ _ (call (Value.ref 285) _) _ _ _)); (first | (k_unfold; (try dsimp only)) | (k_end; wrow_close) | walk1 | (dsimp only; walk1) | (leave1; walk_say "STEP leave1"; try dsimp only) | fail "no step"))
          refine' draw_led ?X ⟨?h, ?d, ?f, ?u, ?B, ?F, ?T, ?e, ?k⟩ (rest := _ :: (D8, LCg.lst zs) :: (L' + 1, o9) :: (D9, LCg.lst ys) :: rest) N6 O own_in5 rest_in5 (cell_offs oo (cell_offs cB (cell_offs co (cell_offs cA hr)))) hDI (by decide) (by decide) ?_
          (case X => k_asm); (case h => exact rfl); (case d => exact Nat.le_of_ble_eq_true rfl); (case f => exact rfl); (case u => exact Nat.le_of_ble_eq_true rfl); (case B => k_asm); (case F => k_asm); (case T => k_asm); (case e => first | exact rfl | assumption); (case k => first | exact rfl | assumption);
          intro h7 tk7 own7 x7 tx7 F7 N7 O7 x70 x71
          k_steps
          (with_reducible rename News h₀ L _ (_ :: (_ ++ _)) => kN9)
          exact h _ _ _ _ _ ys zs _ _ ns ms x7 tx7 own7 (by k_asm) (news_sub kN9 end_sub5) O7 (tup_off kN9 O7) cA cB hy hz hc hc2 (by omega) (by omega) x70 x71 (fun z => absurd hm z)
        · rw [decide_eq_false hm]
          k_steps
          (with_reducible rename News h₀ L _ (_ :: _ :: _ :: _ :: (_ ++ _)) => kN9)
          exact h _ _ _ _ _ ys zs _ _ ns ms 0 _ own (by k_asm) (news_sub kN9 end_sub6) O (tup_off (news_sub kN9 end_sub7) O) cA cB hy hz hc hc2 (by omega) (by omega) (Int.le_refl 0) (by decide) (fun z => rfl))
    · (with_reducible rename News g' L' _ (_ :: _ :: _ :: _ :: (_ ++ _)) => N6)
      (with_reducible rename (_ ∧ _ ∧ _ ∧ AllLt _ (own2 ++ rest)) => lb2)
      (with_reducible rename (_ ∧ _ ∧ AllLt _ (own2 ++ rest)) => lb)
      refine' draw_led ?X ⟨?h, ?d, ?f, ?u, ?B, ?F, ?T, ?e, ?k⟩ (rest := _ :: _ :: (D9, LCg.lst ys) :: (L' + 1, o9) :: rest) N6 O2 (fun p hp => by simp [hp]) ?hrest ?off hDI (by decide) (by decide) ?_
      (case X => k_asm); (case h => exact rfl); (case d => exact Nat.le_of_ble_eq_true rfl); (case f => exact rfl); (case u => exact Nat.le_of_ble_eq_true rfl); (case B => k_asm); (case F => k_asm); (case T => k_asm); (case e => first | exact rfl | assumption); (case k => first | exact rfl | assumption);
      (case hrest => exact rest_in4)
      (case off => exact cell_offs (lt_off O2 lb2.2.2.2) (cell_offs (lt_off O2 lb.2.2) (cell_offs cA (cell_offs co hr))))
      intro h3 tk3 own3 x3 tx3 F3 N3 O3 x30 x31
      k_steps
      (with_reducible rename News h₀ L _ (_ :: (_ ++ _)) => kN9)
      exact h _ _ _ _ _ ys [] _ _ ns [] x3 tx3 own3 (by k_asm) (news_sub kN9 end_sub) O3 (tup_off kN9 O3) cA (lt_off O2 lb.2.2) hy .nil hc (fun c z => nomatch z) (by omega) (Nat.zero_le _) x30 x31 (fun z => absurd rfl z))
end

section
variable {prog : Program} {w : World} {A : Around} {E : Value → Shared → Prop} {s : Shared} {env : Env} {h₀ : Heap} {x : Str} {body : List Stmt} {Q : Flow → Shared → Prop}
theorem list_ind {I : Addr} {lp : Addr × Obj} {Inv : List Value → (Str → Option Value) → List (Addr × Obj) → Prop}
    (step : ∀ v r m news, Inv (v :: r) m news → ∀ (it : Obj) h tk, it.cls = .type "list_iterator" → Fr h₀ env.locals h (fun y => if y = x then some v else m y) → News h₀ env.locals h ((I, it) :: news) →
      wpAny (model prog w) A (execs body env) (UnrPost h₀ env.locals { s with heap := h, toks := tk } I it (fun m' n' => lp ∈ n' ∧ Inv r m' n') Q) E { s with heap := h, toks := tk })
    (fin : ∀ m news, Inv [] m news → ∀ h tk, Fr h₀ env.locals h m → News h₀ env.locals h news → Q .next { s with heap := h, toks := tk }) :
    ∀ vs m news, Inv vs m news → ListRest prog w A E h₀ env x body Q s I lp vs m news := by
  intro vs
  induction vs with
  | nil => intro m news h; exact fin m news h
  | cons v r ih =>
    intro m news h it hh tk a1 a2 a3
    have up : ∀ s₂, UnrEnd h₀ env.locals { s with heap := hh, toks := tk } I it (fun m' n' => lp ∈ n' ∧ Inv r m' n') s₂ → UnrEnd h₀ env.locals { s with heap := hh, toks := tk } I it (fun m' n' => lp ∈ n' ∧ ListRest prog w A E h₀ env x body Q s I lp r m' n') s₂ := by
      rintro s₂ ⟨b1, b2, b3, b4, b5, b6, b7, b8, b9, b10⟩
      exact ⟨b1, b2, b3, b4, b5, b6, b7, b8, b9, ih _ _ b10⟩
    refine wpAny_mono (step v r m news h it hh tk a1 a2 a3) (fun f s₂ q => ?_) fun _ _ e => e
    cases f with
    | ret v => exact q
    | brk => exact q
    | next => exact up _ q
    | cont => exact up _ q
theorem comp_indT {ct elt : Expr} {x : Str} {scope : Scope} {cl : List (Str × Addr)} {S : List (Addr × Obj) → Prop} {P : Nat → Value → Prop} {Fin : List Value → List (Addr × Obj) → Prop} {L : Addr} {m : Str → Option Value} {Inv : Nat → List Value → List (Addr × Obj) → Prop} (n : Nat)
    (step : ∀ i ys news, i < n → Inv i ys news → ∀ v I oI C oC D m₂ h tk (E' : Value → Shared → Prop), P i v → LCg.NsObj oC m₂ → m₂ x = some v → Fr h₀ L h m → News h₀ L h ((I, oI) :: (C, oC) :: (D, LCg.lst ys) :: news) → LCg.Off3 I C D news → ((@Ne Nat I C) ∧ (@Ne Nat I D) ∧ (@Ne Nat C D)) →
      wpAny (model prog w) A (isTrue ct (compEnvC scope cl C env) (eval ct (compEnvC scope cl C env))) (fun ok s' => if ok = true then
        wpAny (model prog w) A (eval elt (compEnvC scope cl C env)) (LCg.CompEnd h₀ L m { s with heap := h, toks := tk } I oI C oC D (LCg.lst ys) S (fun y news' => Inv (i + 1) (ys ++ [y]) news')) E' s'
        else LCg.CompEnd h₀ L m { s with heap := h, toks := tk } I oI C oC D (LCg.lst ys) S (fun _ news' => Inv (i + 1) ys news') Value.none s') E' { s with heap := h, toks := tk })
    (fin : ∀ ys news, Inv n ys news → Fin ys news) : ∀ k i ys news, i + k = n → Inv i ys news → LCt.CompRestT prog w A h₀ L m env ct elt x scope cl s S P Fin k i ys news := by
  intro k
  induction k with
  | zero => intro i ys news hi h; obtain rfl : i = n := hi; exact fin _ _ h
  | succ k ih =>
    intro i ys news hi h v I oI C oC D m₂ hh tk E' a1 a2 a3 a4 a5 a6 a7
    refine wpAny_mono (step i ys news (by omega) h v I oI C oC D m₂ hh tk E' a1 a2 a3 a4 a5 a6 a7) (fun ok s₂ q => ?_) fun _ _ e => e
    cases ok with
    | true =>
      simp only [if_true] at q ⊢
      refine wpAny_mono q (fun y s₃ q => ?_) fun _ _ e => e
      obtain ⟨b1, b2, b3, b4, b5, b6, b7, b8, b9⟩ := q
      exact ⟨b1, b2, b3, b4, b5, b6, b7, b8, ih _ _ _ (by omega) b9⟩
    | false =>
      simp only [Bool.false_eq_true, if_false] at q ⊢
      obtain ⟨b1, b2, b3, b4, b5, b6, b7, b8, b9⟩ := q
      exact ⟨b1, b2, b3, b4, b5, b6, b7, b8, ih _ _ _ (by omega) b9⟩
end
theorem ints_of_mem : ∀ (l : List Value), (∀ v ∈ l, ∃ (n : Int) (t : Tok), v = .int n t) → ∃ ms, IntsAre l ms
  | [], _ => ⟨[], .nil⟩
  | v :: l, h => by
    obtain ⟨n, t, rfl⟩ := h v (.head _)
    obtain ⟨ms, hm⟩ := ints_of_mem l fun v hv => h v (.tail _ hv)
    exact ⟨n :: ms, .cons n t hm⟩
theorem pick_ints {va : List Value} {ns : List Int} (za : IntsAre va ns) : ∃ ms, IntsAre (slicePick va.toArray none (some 24) none).toList ms ∧ (slicePick va.toArray none (some 24) none).toList.length ≤ 24 := by
  have hlen : (slicePick va.toArray none (some 24) none).toList.length ≤ 24 := by
    unfold slicePick
    refine Nat.le_trans (List.length_filterMap_le _ _) ?_
    simp only [sliceBounds, sliceRange, List.length_map, List.length_range, Option.getD_none]
    simp
    omega
  obtain ⟨ms, hm⟩ := ints_of_mem (slicePick va.toArray none (some 24) none).toList fun v hv => by
    unfold slicePick at hv
    simp only [List.mem_filterMap] at hv
    obtain ⟨i, _, hi⟩ := hv
    obtain ⟨n, t, _, e⟩ := ints_at za i v (by simpa using hi)
    exact ⟨n, t, e⟩
  exact ⟨ms, hm, hlen⟩
theorem deck_sub {a b c d : Addr × Obj} : ∀ p ∈ [a, b], p ∈ [a, b, c, d] := fun p hp => by
  simp only [List.mem_cons, List.not_mem_nil, or_false] at hp ⊢
  rcases hp with hp | hp <;> simp [hp]
section
theorem isList_fr {g h : Heap} {L a : Addr} {m : Str → Option Value} {its : Array Value} (il : g.IsList a its) (F : Fr g L h m) : h.IsList a its := il.at fun o e => F.keep _ _ e
theorem deck_spec {w : World} {mean : ExcName → Option Value} {mg mb : Str → Option Value} {A A₀ : Around} {base h₀ : Heap} {outer : List Env} {L : Addr} {env : Env} {s : Shared} {m : Str → Option Value} {Q E : Value → Shared → Prop} {a : Addr} {va : List Value} {ns : List Int} (X : (hd.heap_39 w.params).In h₀) (S : Site 360 3600 mean mg mb A A₀ base outer h₀ L env s m) (il : s.heap.IsList a va.toArray) (za : IntsAre va ns) (la : va.length ≤ 1000000)
    (h : ∀ h' tk' D I own, s.heap.StaysIn h' → Newly s.heap own h' → DeckO D I own → @Ne Nat D I → Q (.ref D) { s with heap := h', toks := tk' }) :
    wpAny (model PySem.Challenge.rw_pq0276_01.row.toRowW.prog w) A (call (.ref 278) [.ref a]) Q E s := by
  revert X; k_fill; intro X
  obtain ⟨h1, h2, h3, h4, B, F, T, he, hk⟩ := S
  refine toTop h1 h2 h3 h4 ?_
  refine wpAny_call ?_
  (k_dflt (refine' code_own ?k1 ?k2 ?k3 ?k4 ?k5 ?kA ?kF ?kK ?k6 ?k7 ?k8 ?k9 ?kB ?_ ?c2 ?c3 ?c4 ?c5; (case kA => exact rfl); (case kF => assumption); (case kK => assumption); (case k1 => k_asm); (case k2 => k_asm); (case k3 => k_asm); (case k4 => exact News.nil); (case k5 => k_asm); (case k6 => k_is); (case k7 => k_is); (case k8 => k_room); (case k9 => first | exact BindsTo.of_eq rfl | exact binds_K (by k_in) rfl (by k_is) rfl rfl rfl); (case c5 => decide); (case kB => exact locs rfl); (case c2 => exact rfl); (case c3 => exact rfl); (case c4 => exact rfl); k_whole; intro g' L' h' HG' FG' F' N' B' X' T'; (try dsimp only); (try k_fold))); (have il9 := il.at (h' := g') fun o e => But.stays HG' _ _ e); (clear il)
  repeat' ((fail_if_success (with_reducible show wpAny _ _ (eval (Expr.ListComp _ _ _ _) _) _ _ _)); (first | (k_unfold; (try dsimp only)) | (k_end; wrow_close) | walk1 | (dsimp only; walk1) | (leave1; walk_say "STEP leave1"; try dsimp only) | fail "no step"))
  (k_dflt (refine LCg.ListComp_U (F₀ := by k_asm) (by rfl) (by decide) (by rfl) (by decide) (by rfl) ?_))
  repeat' ((fail_if_success (with_reducible show wpAny _ _ (subscriptTail _ _ _ _) _ _ _)); (first | (k_unfold; (try dsimp only)) | (k_end; wrow_close) | walk1 | (dsimp only; walk1) | (leave1; walk_say "STEP leave1"; try dsimp only) | fail "no step"))
  refine' kmk_slice (lo := none) (hi := some 24) (its := va.toArray) ?F ?N (isList_fr il9 ?F2) ?p ?q ?_ ?s ?t ?z
  (case F => k_asm)
  (case N => k_asm)
  (case F2 => k_asm)
  (case p => first | exact .none | trace_state)
  (case q => first | exact .int _ _ | trace_state)
  (case s => with_unfolding_all rfl)
  (case t => intro _; with_unfolding_all rfl)
  (case z => rw [List.size_toArray, sizeLine_eq]; omega)
  obtain ⟨ms, hms, hlen⟩ := pick_ints za
  intro D9 h9 F9 N9 l9
  refine LCg.CompSrc.ledger (by rfl) (by k_asm) N9 (.head _) ?hsz ?_
  (case hsz => rw [sizeLine_eq]; simpa using Nat.le_trans hlen (by decide))
  intro g9
  refine comp_ind (Inv := fun i ys news => ∃ cs, ys.length = i ∧ IntsAre ys cs ∧ (∀ c ∈ cs, 0 ≤ c ∧ c < 10 ^ 60) ∧ news = [(D9, W.listOf (slicePick va.toArray none (some 24) none) 0)]) (slicePick va.toArray none (some 24) none).size ?step ?fin _ 0 [] _ (Nat.zero_add _) ⟨[], rfl, .nil, fun c z => (nomatch z), rfl⟩
  (case step =>
    rintro i ys news hi ⟨cs, rfl, hy, hc, rfl⟩ v J oJ C oC Dc m2 h8 tk8 E8 hv hoC hx F8 N8 off8 ⟨ne1, ne2, ne3⟩
    obtain ⟨n9, t9, hn9, rfl⟩ := ints_at hms ys.length v (by simpa using hv)
    repeat' ((fail_if_success (with_reducible show LCg.CompEnd _ _ _ _ _ _ _ _ _ _ _ _ _ _)); (first | (k_unfold; (try dsimp only)) | (k_end; wrow_close) | walk1 | (dsimp only; walk1) | (leave1; walk_say "STEP leave1"; try dsimp only) | fail "no step"))
    exact LCg.CompEnd.intro (by k_asm) N8 [(D9, W.listOf (slicePick va.toArray none (some 24) none) 0)] (fun p hp => hp) off8 (.inr ⟨_, .head _, rfl, _, rfl⟩) ⟨cs ++ [_], by simp, hy.append (IntsAre.cons _ _ .nil), fun c z => (List.mem_append.mp z).elim (hc c) (fun z => by rw [List.mem_singleton.mp z]; exact fm (by decide)), rfl⟩)
  (case fin =>
    rintro ys news ⟨cs, hylen, hy, hc, rfl⟩
    unfold LCg.FinE
    intro D8 h5 tk5 F5 N5 o5
    repeat' ((fail_if_success (with_reducible show wpAny _ _ (pyIter _) _ _ _)); (first | (k_unfold; (try dsimp only)) | (k_end; wrow_close) | walk1 | (dsimp only; walk1) | (leave1; walk_say "STEP leave1"; try dsimp only) | fail "no step"))
    (with_reducible rename News g' L' _ (_ :: _ :: _ :: _) => N6)
    refine iter_listUnr rfl (by k_asm) (news_sub N6 (fun p hp => .tail _ hp)) (.head _) rfl rfl (fun I9 lI => ?_)
    refine list_ind (Inv := fun r m news => (∃ mx tm, 0 ≤ mx ∧ mx < 2147483647 ∧ m (Str.ofString "_law_mixed") = some (.int mx tm)) ∧ m (Str.ofString "_law_cells") = some (.ref D8) ∧ (∃ rs, IntsAre r rs) ∧ news = [(D8, LCg.lst ys), (D9, W.listOf (slicePick va.toArray none (some 24) none) 0)]) ?step3 ?fin3 ys _ _ ⟨⟨7, _, by decide, by decide, rfl⟩, rfl, ⟨cs, hy⟩, rfl⟩
    (case step3 =>
      rintro v r m9 news ⟨⟨mx, tm, hm0, hm1, e1⟩, e2, ⟨rs, hrs⟩, rfl⟩ it h4 tk4 hit F4 N4
      cases hrs with | cons n9 t9 hrs =>
      have em : m9 = fun y => if y = Str.ofString "_law_mixed" then some (.int mx tm) else if y = Str.ofString "_law_cells" then some (.ref D8) else m9 y := by
        funext y
        by_cases q : y = Str.ofString "_law_mixed"
        · rw [if_pos q, q, e1]
        · by_cases q2 : y = Str.ofString "_law_cells"
          · rw [if_neg q, if_pos q2, q2, e2]
          · rw [if_neg q, if_neg q2]
      rw [em] at F4
      dsimp only at F4
      repeat' ((fail_if_success (with_reducible show UnrPost _ _ _ _ _ _ _ _ _)); (first | (k_unfold; (try dsimp only)) | (k_end; wrow_close) | walk1 | (dsimp only; walk1) | (leave1; walk_say "STEP leave1"; try dsimp only) | fail "no step"))
      (with_reducible rename News g' _ _ ((I9, it) :: _) => N7)
      have f1 := fm (a := mx * 31 + n9 + 3) (b := 2147483647) (by decide)
      exact UnrEnd.intro (by k_asm) N7 [(D8, LCg.lst ys), (D9, W.listOf (slicePick va.toArray none (some 24) none) 0)] (fun p hp => hp) (fun p hp => Nat.ne_of_lt (lI p hp)) ⟨.head _, ⟨_, _, f1.1, f1.2, rfl⟩, rfl, ⟨_, hrs⟩, rfl⟩)
    (case fin3 =>
      rintro m9 news ⟨⟨mx, tm, hm0, hm1, e1⟩, e2, _, rfl⟩ h4 tk4 F4 N4
      have em : m9 = fun y => if y = Str.ofString "_law_mixed" then some (.int mx tm) else if y = Str.ofString "_law_cells" then some (.ref D8) else m9 y := by
        funext y
        by_cases q : y = Str.ofString "_law_mixed"
        · rw [if_pos q, q, e1]
        · by_cases q2 : y = Str.ofString "_law_cells"
          · rw [if_neg q, if_pos q2, q2, e2]
          · rw [if_neg q, if_neg q2]
      rw [em] at F4
      (try dsimp only at F4)
      clear em
      repeat' ((fail_if_success (with_reducible show wpAny _ _ (eval (Expr.ListComp _ _ _ _) _) _ _ _)); (first | (k_unfold; (try dsimp only)) | (k_end; wrow_close) | walk1 | (dsimp only; walk1) | (leave1; walk_say "STEP leave1"; try dsimp only) | fail "no step"))
      (k_dflt (refine LCt.ListComp_T (F₀ := by k_asm) (by with_unfolding_all rfl) (by decide) (by rfl) (by decide) (by rfl) ?_))
      repeat' ((fail_if_success (with_reducible show LCt.CompSrcT _ _ _ _ _ _ _ _ _ _ _ _ _ _ _)); (first | (k_unfold; (try dsimp only)) | (k_end; wrow_close) | walk1 | (dsimp only; walk1) | (leave1; walk_say "STEP leave1"; try dsimp only) | fail "no step"))
      refine LCt.CompSrcT.ledger (by rfl) (by k_asm) N4 (.head _) ?hsz2 ?_
      (case hsz2 => rw [sizeLine_eq, List.size_toArray]; simp at hlen hylen; omega)
      intro g8
      refine comp_indT (Inv := fun i zs news => ∃ ds, zs.length ≤ i ∧ IntsAre zs ds ∧ (∀ c ∈ ds, 0 ≤ c ∧ c < 10 ^ 60) ∧ news = [(D8, LCg.lst ys), (D9, W.listOf (slicePick va.toArray none (some 24) none) 0)]) ys.toArray.size ?step4 ?fin4 _ 0 [] _ (Nat.zero_add _) ⟨[], Nat.le_refl _, .nil, fun c z => (nomatch z), rfl⟩
      (case step4 =>
        rintro i zs news hi ⟨ds, hz, hzi, hd, rfl⟩ v J oJ C oC Dc m2 h8 tk8 E8 hv hoC hx F8 N8 off8 ⟨ne1, ne2, ne3⟩
        obtain ⟨n9, t9, hn9, rfl⟩ := ints_at hy i v (by simpa using hv)
        have hn90 := hc n9 (List.mem_of_getElem? hn9)
        repeat' ((fail_if_success (with_reducible show LCg.CompEnd _ _ _ _ _ _ _ _ _ _ _ _ _ _)); (first | (k_unfold; (try dsimp only)) | (k_end; wrow_close) | walk1 | (dsimp only; walk1) | (leave1; walk_say "STEP leave1"; try dsimp only) | fail "no step"))
        · exact LCg.CompEnd.intro (by k_asm) N8 [(D8, LCg.lst ys), (D9, W.listOf (slicePick va.toArray none (some 24) none) 0)] (fun p hp => hp) off8 (.inr ⟨_, .head _, rfl, _, rfl⟩) ⟨ds ++ [_], by simp; omega, hzi.append (IntsAre.cons _ _ .nil), fun c z => (List.mem_append.mp z).elim (hd c) (fun z => by rw [List.mem_singleton.mp z]; exact hn90), rfl⟩
        · exact LCg.CompEnd.intro (by k_asm) N8 [(D8, LCg.lst ys), (D9, W.listOf (slicePick va.toArray none (some 24) none) 0)] (fun p hp => hp) off8 (.inr ⟨_, .head _, rfl, _, rfl⟩) ⟨ds, by omega, hzi, hd, rfl⟩)
      (case fin4 =>
        rintro zs news ⟨ds, hz, hzi, hd, rfl⟩
        unfold LCg.FinE
        intro D7 h5 tk5 F5 N5 o5
        k_steps
        (with_reducible rename News g' _ _ [_, _, _, _] => kN9)
        (with_reducible rename (_ ∧ _ ∧ _) => lD)
        exact h _ _ _ _ _ (endStay HG' (by k_asm)) (newly_of HG' (news_sub kN9 deck_sub)) (.mk zs ds mx tm _ _ hzi hd hm0 hm1 (by rw [List.size_toArray, hylen] at hz; rw [Array.length_toList] at hlen; omega)) (Nat.ne_of_gt lD.1))))
end
/-- the objects are told once each, and NIL is none of them -/
structure RGood (R : List (Addr × Obj)) : Prop where
  fn : ∀ p ∈ R, ∀ q ∈ R, p.1 = q.1 → p.2 = q.2
  nn : ∀ p ∈ R, p.1 ≠ 64
theorem inst_inj {C D a b : Addr} (h : instObj C a = instObj D b) : C = D ∧ a = b := by
  have h1 := congrArg Obj.cls h
  have h2 := congrArg Obj.dict h
  exact ⟨Value.ref.inj h1, Option.some.inj h2⟩
section
variable {P : Params} {R : List (Addr × Obj)}
theorem consIn_nn (G : RGood R) {x : Addr} {a b : Value} (h : ConsIn P R x a b) : x ≠ 64 := by obtain ⟨_, _, _, h1, _⟩ := h; exact G.nn _ h1
theorem textIn_nn (G : RGood R) {x : Addr} (h : TextIn P R x) : x ≠ 64 := by obtain ⟨_, _, _, _, _, _, h1, _⟩ := h; exact G.nn _ h1
theorem cons_text (G : RGood R) {x y : Addr} {a b : Value} (h : ConsIn P R x a b) (h' : TextIn P R y) : x ≠ y := by
  obtain ⟨_, _, _, h1, _⟩ := h
  obtain ⟨_, _, _, _, _, _, h2, _⟩ := h'
  intro e
  have q := (inst_inj (G.fn _ h1 _ h2 e)).1
  exact absurd q (by decide)
theorem consK_nn (G : RGood R) {x : Addr} {a b : Kd} (h : ConsK P R x a b) : x ≠ 64 := by obtain ⟨_, _, h, _⟩ := h; exact consIn_nn G h
theorem isV_cons (G : RGood R) {v : Value} {x : Addr} (V : IsV P R v (.cons x)) : x ≠ 64 := by cases V with | cons _ _ _ h => exact consIn_nn G h
theorem isV_text (G : RGood R) {v : Value} {x : Addr} (V : IsV P R v (.text x)) : x ≠ 64 := by cases V with | text _ h => exact textIn_nn G h
theorem isV_ct (G : RGood R) {v v' : Value} {x y : Addr} (V : IsV P R v (.cons x)) (V' : IsV P R v' (.text y)) : x ≠ y := by
  cases V with | cons _ _ _ h => cases V' with | text _ h' => exact cons_text G h h'
theorem rnd0 {k k' s s' : Kd} {d : Int} : TR.rnd ⟨k, k', s, s', d, 0⟩ = false := rfl
theorem ok0 {k k' s s' : Kd} {d : Int} (h : 0 ≤ d) (h' : d ≤ 200) : TR.Ok ⟨k, k', s, s', d, 0⟩ := ⟨Int.le_refl _, (by decide : (0 : Int) < 10000), h', h, .inl rfl⟩
/-- the same code at both: on -/
theorem thing_same (G : RGood R) {c : Int} {k k' : Kd} {v v' : Value} {ts : List TR} {n : Nat} {r : Res} (T : ThingK P R c k) (T' : ThingK P R c k') (V : IsV P R v k) (V' : IsV P R v' k') (hl : ts.length ≤ 40) (h : Runs P R n ts r) :
    ∃ j, j ≤ 3 ∧ Runs P R (n + j) (⟨k, k', k, k', 1, 0⟩ :: ts) r := by
  have eqr : eqK k k' = true → ∃ j, j ≤ 3 ∧ Runs P R (n + j) (⟨k, k', k, k', 1, 0⟩ :: ts) r := fun e => ⟨1, by decide, .eq (ok0 (by decide) (by decide)) (by omega) rnd0 e h⟩
  cases T with
  | num c a b =>
    cases T' with
    | num _ _ _ => exact eqr (by simp [eqK, Kd.isInt])
    | text _ => omega
    | one _ _ => omega
    | nil => omega
  | text x =>
    cases T' with
    | num _ _ _ => omega
    | text y =>
      cases e : eqK (.text x) (.text y) with
      | true => exact eqr e
      | false => exact ⟨1, by decide, .text (ok0 (by decide) (by decide)) (by omega) rnd0 rfl rfl e h⟩
  | one x hx =>
    cases T' with
    | num _ _ _ => omega
    | one y hy =>
      cases e : eqK (.cons x) (.cons y) with
      | true => exact eqr e
      | false =>
        refine ⟨3, by decide, .even (ok0 (by decide) (by decide)) (by omega) rnd0 rfl rfl e hx hy rfl ?_⟩
        refine .eq (ok0 (d := 1 + 1) (by decide) (by decide)) (by simp; omega) rnd0 (by simp [eqK, Kd.isInt]) ?_
        refine .eq ⟨(by decide : (0 : Int) ≤ 0 + 1), (by decide : (0 : Int) + 1 < 10000), (by decide : (1 : Int) ≤ 200), (by decide : (0 : Int) ≤ 1), .inr ⟨(by decide : (0 : Int) < 0 + 1), rfl, rfl⟩⟩ (by omega) ?_ (by simp [eqK, Kd.isInt, Kd.addr]) h
        have := consK_nn G hx
        show (decide ((0 : Int) < 1) && ((!Kd.nil.isInt && decide (Kd.nil.addr = (Kd.cons x).addr)) && _)) = false
        have : ¬ Kd.nil.addr = (Kd.cons x).addr := fun q => this q.symm
        simp [this]
  | nil =>
    cases T' with
    | num _ _ _ => omega
    | nil => exact eqr (by simp [eqK, Kd.isInt])
/-- other codes: no -/
theorem thing_other (G : RGood R) {c c' : Int} {k k' : Kd} {v v' : Value} {ts : List TR} (T : ThingK P R c k) (T' : ThingK P R c' k') (V : IsV P R v k) (V' : IsV P R v' k') (hl : ts.length ≤ 40) (hc : c ≠ c') : Runs P R 0 (⟨k, k', k, k', 1, 0⟩ :: ts) .no := by
  refine .no (ok0 (by decide) (by decide)) (by omega) rnd0 ?_ ?_
  · cases T <;> cases T' <;> first
      | rfl
      | exact absurd rfl hc
      | (simp [eqK, Kd.isInt]; omega)
      | (simp only [eqK, Kd.isInt, Kd.addr]; first | exact decide_eq_false (isV_ct G V V') | exact decide_eq_false (Ne.symm (isV_ct G V' V)) | exact decide_eq_false (isV_cons G V) | exact decide_eq_false (isV_text G V) | exact decide_eq_false (Ne.symm (isV_cons G V')) | exact decide_eq_false (Ne.symm (isV_text G V')))
  · cases T <;> cases T' <;> first
      | rfl
      | exact absurd rfl hc
end
/-- a list as the plain law sees it: the node at each place, what stands there, where it ends -/
structure Chn (P : Params) (R : List (Addr × Obj)) (K : Nat → Kd) (a : Nat → Tag × Int) (al : Nat → Prop) : Prop where
  cons : ∀ p, al p → ∃ x car v c, K p = .cons x ∧ ConsK P R x car (K (p + 1)) ∧ a p = (.thing, c) ∧ ThingK P R c car ∧ IsV P R v car
  stop : ∀ p, (∀ q, q < p → al q) → ¬ al p → ∃ t, a p = (.stop, t) ∧ ((t = 0 ∧ K p = .nil) ∨ (t ≠ 0 ∧ K p = .int t))
  same : ∀ p q, al p → al q → (K p).addr = (K q).addr → ∀ j, a (p + j) = a (q + j)
  down : ∀ p q, q ≤ p → al p → al q
section
variable {P : Params} {R : List (Addr × Obj)} {K K' : Nat → Kd} {a a' : Nat → Tag × Int} {al al' : Nat → Prop}
/-- the task at a turn -/
abbrev taskAt (K K' : Nat → Kd) (p : Nat) : TR := ⟨K p, K' p, K (p / 2), K' (p / 2), 0, (p : Int)⟩
theorem Chn.isInt (C : Chn P R K a al) {p : Nat} (h : al p) : (K p).isInt = false := by obtain ⟨x, _, _, _, e, _⟩ := C.cons p h; rw [e]; rfl
theorem Chn.nn (C : Chn P R K a al) (G : RGood R) {p : Nat} (h : al p) : (K p).addr ≠ 64 := by obtain ⟨x, _, _, _, e, q, _⟩ := C.cons p h; rw [e]; exact consK_nn G q
theorem taskOk (C : Chn P R K a al) (C' : Chn P R K' a' al') {p : Nat} (hp : p < 10000) (h : ∀ q, q < p → al q) (h' : ∀ q, q < p → al' q) : TR.Ok (taskAt K K' p) := by
  refine ⟨by simp, by simp; omega, by simp, by simp, ?_⟩
  by_cases q : p = 0
  · left; simp [q]
  · right
    exact ⟨by simp; omega, C.isInt (h _ (by omega)), C'.isInt (h' _ (by omega))⟩
/-- a turn at which both go on with the same thing -/
theorem turn_same (G : RGood R) (C : Chn P R K a al) (C' : Chn P R K' a' al') (dis : ∀ p q, al p → al' q → (K p).addr ≠ (K' q).addr) {p n : Nat} {r : Res} (hp : p < 9000) (h : al p) (h' : al' p) (he : a p = a' p) (hr : (taskAt K K' p).rnd = false)
    (k : Runs P R n [taskAt K K' (p + 1)] r) : ∃ j, j ≤ 4 ∧ Runs P R (n + j) [taskAt K K' p] r := by
  have ok := taskOk C C' (p := p) (by omega) (fun q z => C.down p q (Nat.le_of_lt z) h) (fun q z => C'.down p q (Nat.le_of_lt z) h')
  have ne := dis p p h h'
  obtain ⟨x, car, v, c, e1, e2, e3, e4, e5⟩ := C.cons p h
  obtain ⟨x', car', v', c', e1', e2', e3', e4', e5'⟩ := C'.cons p h'
  have hc : c' = c := by rw [he, e3'] at e3; exact (Prod.mk.inj e3).2
  subst hc
  have heq : eqK (K p) (K' p) = false := by
    rw [e1, e1'] at ne ⊢
    simp only [eqK, Kd.isInt]; exact decide_eq_false ne
  obtain ⟨j, hj, kr⟩ := thing_same G e4 e4' e5 e5' (by simp) k
  refine ⟨j + 1, by omega, ?_⟩
  rcases Nat.mod_two_eq_zero_or_one p with ev | od
  · have d : (p + 1) / 2 = p / 2 := by omega
    have z : (⟨K (p + 1), K' (p + 1), K (p / 2), K' (p / 2), 0, (p : Int) + 1⟩ : TR) = taskAt K K' (p + 1) := by unfold taskAt; rw [d]; rfl
    exact .even ok (by simp) hr e1 e1' heq e2 e2' (by show (p : Int) % 2 = 0; omega) (z ▸ kr)
  · have d : (p + 1) / 2 = p / 2 + 1 := by omega
    obtain ⟨y, cy, _, _, f1, f2, _⟩ := C.cons (p / 2) (C.down p _ (by omega) h)
    obtain ⟨y', cy', _, _, f1', f2', _⟩ := C'.cons (p / 2) (C'.down p _ (by omega) h')
    have z : (⟨K (p + 1), K' (p + 1), K (p / 2 + 1), K' (p / 2 + 1), 0, (p : Int) + 1⟩ : TR) = taskAt K K' (p + 1) := by unfold taskAt; rw [d]; rfl
    exact .odd ok (by simp) hr e1 e1' heq e2 e2' f1 f1' f2 f2' (by show (p : Int) % 2 = 1; omega) (z ▸ kr)
/-- a turn at which the things differ -/
theorem turn_other (G : RGood R) (C : Chn P R K a al) (C' : Chn P R K' a' al') (dis : ∀ p q, al p → al' q → (K p).addr ≠ (K' q).addr) {p : Nat} (hp : p < 9000) (h : al p) (h' : al' p) (he : a p ≠ a' p) (hr : (taskAt K K' p).rnd = false) :
    Runs P R 1 [taskAt K K' p] .no := by
  have ok := taskOk C C' (p := p) (by omega) (fun q z => C.down p q (Nat.le_of_lt z) h) (fun q z => C'.down p q (Nat.le_of_lt z) h')
  have ne := dis p p h h'
  obtain ⟨x, car, v, c, e1, e2, e3, e4, e5⟩ := C.cons p h
  obtain ⟨x', car', v', c', e1', e2', e3', e4', e5'⟩ := C'.cons p h'
  have hc : c ≠ c' := fun q => he (by rw [e3, e3', q])
  have heq : eqK (K p) (K' p) = false := by
    rw [e1, e1'] at ne ⊢
    simp only [eqK, Kd.isInt]; exact decide_eq_false ne
  rcases Nat.mod_two_eq_zero_or_one p with ev | od
  · exact .even ok (by simp) hr e1 e1' heq e2 e2' (by show (p : Int) % 2 = 0; omega) (thing_other G e4 e4' e5 e5' (by simp) hc)
  · obtain ⟨y, cy, _, _, f1, f2, _⟩ := C.cons (p / 2) (C.down p _ (by omega) h)
    obtain ⟨y', cy', _, _, f1', f2', _⟩ := C'.cons (p / 2) (C'.down p _ (by omega) h')
    exact .odd ok (by simp) hr e1 e1' heq e2 e2' f1 f1' f2 f2' (by show (p : Int) % 2 = 1; omega) (thing_other G e4 e4' e5 e5' (by simp) hc)
/-- no round at an end -/
theorem rnd_end (G : RGood R) (C : Chn P R K a al) {p : Nat} (h : ∀ q, q < p → al q) (hn : ¬ al p) : (taskAt K K' p).rnd = false := by
  by_cases q : p = 0
  · subst q; rfl
  · obtain ⟨t, _, hk⟩ := C.stop p h hn
    have nn := C.nn G (h (p / 2) (by omega))
    show (decide ((0 : Int) < p) && (isK (K p) (K (p / 2)) && isK (K' p) (K' (p / 2)))) = false
    have : isK (K p) (K (p / 2)) = false := by
      rcases hk with ⟨_, e⟩ | ⟨_, e⟩
      · rw [e]; simp only [isK, Kd.isInt, Bool.not_false, Bool.true_and]; exact decide_eq_false (Ne.symm nn)
      · rw [e]; rfl
    rw [this]; simp
theorem rnd_end' (G : RGood R) (C' : Chn P R K' a' al') {p : Nat} (h : ∀ q, q < p → al' q) (hn : ¬ al' p) : (taskAt K K' p).rnd = false := by
  have := rnd_end (K' := K) G C' h hn
  show (decide ((0 : Int) < p) && (isK (K p) (K (p / 2)) && isK (K' p) (K' (p / 2)))) = false
  rw [Bool.and_comm (isK (K p) _)]
  exact this
/-- a turn at which one ends: yes or no -/
theorem turn_end (G : RGood R) (C : Chn P R K a al) (C' : Chn P R K' a' al') {p : Nat} (hp : p < 9000) (h : ∀ q, q < p → al q) (h' : ∀ q, q < p → al' q) (hn : ¬ (al p ∧ al' p)) :
    (a p = a' p → Runs P R 1 [taskAt K K' p] .yes) ∧ (a p ≠ a' p → Runs P R 1 [taskAt K K' p] .no) := by
  have ok := taskOk C C' (p := p) (by omega) h h'
  by_cases q : al p
  · have q' : ¬ al' p := fun z => hn ⟨q, z⟩
    have hr := rnd_end' (K := K) G C' h' q'
    obtain ⟨t, e, hk⟩ := C'.stop p h' q'
    obtain ⟨x, car, v, c, e1, e2, e3, _⟩ := C.cons p q
    have nn := consK_nn G e2
    refine ⟨fun z => ?_, fun _ => .no ok (by simp) hr ?_ ?_⟩
    · rw [e3, e] at z; cases z
    · show eqK (K p) (K' p) = false
      rcases hk with ⟨_, k⟩ | ⟨_, k⟩
      · rw [e1, k]; simp only [eqK, Kd.isInt, Kd.addr]; exact decide_eq_false nn
      · rw [e1, k]; rfl
    · show clsK (K p) (K' p) = false
      rcases hk with ⟨_, k⟩ | ⟨_, k⟩ <;> (rw [e1, k]; rfl)
  · have hr := rnd_end (K' := K') G C h q
    obtain ⟨t, e, hk⟩ := C.stop p h q
    by_cases q' : al' p
    · obtain ⟨x, car, v, c, e1, e2, e3, _⟩ := C'.cons p q'
      have nn := consK_nn G e2
      refine ⟨fun z => ?_, fun _ => .no ok (by simp) hr ?_ ?_⟩
      · rw [e3, e] at z; cases z
      · show eqK (K p) (K' p) = false
        rcases hk with ⟨_, k⟩ | ⟨_, k⟩
        · rw [e1, k]; simp only [eqK, Kd.isInt, Kd.addr]; exact decide_eq_false (Ne.symm nn)
        · rw [e1, k]; rfl
      · show clsK (K p) (K' p) = false
        rcases hk with ⟨_, k⟩ | ⟨_, k⟩ <;> (rw [e1, k]; rfl)
    · obtain ⟨t', e', hk'⟩ := C'.stop p h' q'
      constructor
      · intro z
        rw [e, e'] at z
        have z : t = t' := (Prod.mk.inj z).2
        subst z
        refine .eq (n := 0) ok (by simp) hr ?_ .done
        show eqK (K p) (K' p) = true
        rcases hk with ⟨u, k⟩ | ⟨u, k⟩ <;> rcases hk' with ⟨u', k'⟩ | ⟨u', k'⟩
        · rw [k, k']; rfl
        · exact absurd u u'
        · exact absurd u' u
        · rw [k, k']; simp [eqK, Kd.isInt]
      · intro z
        have z : t ≠ t' := fun y => z (by rw [e, e', y])
        refine .no ok (by simp) hr ?_ ?_
        · show eqK (K p) (K' p) = false
          rcases hk with ⟨u, k⟩ | ⟨u, k⟩ <;> rcases hk' with ⟨u', k'⟩ | ⟨u', k'⟩
          · exact absurd (u.trans u'.symm) z
          · rw [k, k']; rfl
          · rw [k, k']; rfl
          · rw [k, k']; simp only [eqK, Kd.isInt]; exact decide_eq_false z
        · show clsK (K p) (K' p) = false
          rcases hk with ⟨u, k⟩ | ⟨u, k⟩ <;> rcases hk' with ⟨u', k'⟩ | ⟨u', k'⟩ <;> (rw [k, k']; rfl)
/-- from a turn back to the first -/
theorem back (G : RGood R) (C : Chn P R K a al) (C' : Chn P R K' a' al') (dis : ∀ p q, al p → al' q → (K p).addr ≠ (K' q).addr) {n T : Nat} {r : Res} (hT : T ≤ 9000) (hs : ∀ q, q < T → al q ∧ al' q ∧ a q = a' q ∧ (taskAt K K' q).rnd = false)
    (k : Runs P R n [taskAt K K' T] r) : ∃ m, m ≤ n + 4 * T ∧ Runs P R m [taskAt K K' 0] r := by
  induction T generalizing n with
  | zero => exact ⟨n, by omega, k⟩
  | succ T ih =>
    obtain ⟨h, h', he, hr⟩ := hs T (Nat.lt_succ_self T)
    obtain ⟨j, hj, k'⟩ := turn_same G C C' dis (by omega) h h' he hr k
    obtain ⟨m, hm, kk⟩ := ih (by omega) (fun q z => hs q (by omega)) k'
    exact ⟨m, by omega, kk⟩
/-- what a round tells of what comes behind it -/
theorem period {f : Nat → Tag × Int} {q d : Nat} (hd : 0 < d) (h : ∀ j, f (q + d + j) = f (q + j)) : ∀ p, q ≤ p → ∃ m, q ≤ m ∧ m < q + d ∧ f p = f m ∧ (p - m) % d = 0 ∧ m ≤ p := by
  intro p
  induction p using Nat.strongRecOn with
  | ind p ih =>
    intro hq
    by_cases z : p < q + d
    · exact ⟨p, hq, z, rfl, by simp, Nat.le_refl p⟩
    · obtain ⟨m, m1, m2, m3, m4, m5⟩ := ih (p - d) (by omega) (by omega)
      refine ⟨m, m1, m2, ?_, ?_, by omega⟩
      · rw [← m3]
        have := h (p - (q + d))
        rw [show q + d + (p - (q + d)) = p by omega, show q + (p - (q + d)) = p - d by omega] at this
        exact this
      · have : p - m = (p - d - m) + d := by omega
        rw [this, Nat.add_mod_right]; exact m4
theorem rnd_same (C : Chn P R K a al) {q : Nat} (hq : 0 < q) (h : al q) (hr : (taskAt K K' q).rnd = true) : ∀ j, a (q + j) = a (q / 2 + j) := by
  have hr : (decide ((0 : Int) < q) && (isK (K q) (K (q / 2)) && isK (K' q) (K' (q / 2)))) = true := hr
  simp only [Bool.and_eq_true] at hr
  have := hr.2.1
  simp only [isK, Bool.and_eq_true, decide_eq_true_eq] at this
  exact C.same q (q / 2) h (C.down q _ (by omega) h) this.2
theorem rnd_same' (C' : Chn P R K' a' al') {q : Nat} (hq : 0 < q) (h : al' q) (hr : (taskAt K K' q).rnd = true) : ∀ j, a' (q + j) = a' (q / 2 + j) := by
  have hr : (decide ((0 : Int) < q) && (isK (K q) (K (q / 2)) && isK (K' q) (K' (q / 2)))) = true := hr
  simp only [Bool.and_eq_true] at hr
  have := hr.2.2
  simp only [isK, Bool.and_eq_true, decide_eq_true_eq] at this
  exact C'.same q (q / 2) h (C'.down q _ (by omega) h) this.2
/-- ahead of the first place that differs or ends there is no round -/
theorem no_rnd (C : Chn P R K a al) (C' : Chn P R K' a' al') {p : Nat} (hs : ∀ q, q < p → al q ∧ al' q ∧ a q = a' q) (hd : ¬ (al p ∧ al' p ∧ a p = a' p)) (G : RGood R) : ∀ q, q ≤ p → (taskAt K K' q).rnd = false := by
  intro q hq
  by_cases q0 : q = 0
  · subst q0; rfl
  by_cases h : al q ∧ al' q
  · cases hr : (taskAt K K' q).rnd with
    | false => rfl
    | true =>
      exfalso
      have s := rnd_same C (by omega) h.1 hr
      have s' := rnd_same' C' (by omega) h.2 hr
      have hl : q / 2 < q := by omega
      by_cases hqp : q = p
      · subst hqp
        have e := s 0
        have e' := s' 0
        simp only [Nat.add_zero] at e e'
        exact hd ⟨h.1, h.2, by rw [e, e']; exact (hs _ hl).2.2⟩
      · obtain ⟨m, m1, m2, m3, m4, m5⟩ := period (f := a) (q := q / 2) (d := q - q / 2) (by omega) (fun j => by rw [show q / 2 + (q - q / 2) + j = q + j by omega]; exact s j) p (by omega)
        obtain ⟨m', m1', m2', m3', m4', m5'⟩ := period (f := a') (q := q / 2) (d := q - q / 2) (by omega) (fun j => by rw [show q / 2 + (q - q / 2) + j = q + j by omega]; exact s' j) p (by omega)
        have mm : m = m' := by
          have hdd : 0 < q - q / 2 := by omega
          have k1 : (p - q / 2) = (p - m) + (m - q / 2) := by omega
          have k2 : (p - q / 2) = (p - m') + (m' - q / 2) := by omega
          have r1 : (p - q / 2) % (q - q / 2) = m - q / 2 := by rw [k1, Nat.add_mod, m4, Nat.zero_add, Nat.mod_mod]; exact Nat.mod_eq_of_lt (by omega)
          have r2 : (p - q / 2) % (q - q / 2) = m' - q / 2 := by rw [k2, Nat.add_mod, m4', Nat.zero_add, Nat.mod_mod]; exact Nat.mod_eq_of_lt (by omega)
          omega
        subst mm
        have hm := hs m (by omega)
        -- what stands at p stands at m: a thing
        obtain ⟨_, _, _, c, _, _, em, _⟩ := C.cons m hm.1
        obtain ⟨_, _, _, c', _, _, em', _⟩ := C'.cons m hm.2.1
        by_cases w : al p
        · by_cases w' : al' p
          · exact hd ⟨w, w', by rw [m3, m3']; exact hm.2.2⟩
          · obtain ⟨t, e, _⟩ := C'.stop p (fun q z => (hs q z).2.1) w'
            rw [m3', em'] at e; cases e
        · obtain ⟨t, e, _⟩ := C.stop p (fun q z => (hs q z).1) w
          rw [m3, em] at e; cases e
  · have hs1 : ∀ z, z < q → al z := fun z y => (hs z (by omega)).1
    have hs2 : ∀ z, z < q → al' z := fun z y => (hs z (by omega)).2.1
    by_cases w : al q
    · exact rnd_end' G C' hs2 fun z => h ⟨w, z⟩
    · exact rnd_end G C hs1 w
/-- it ends or differs at p -/
theorem runs_at (G : RGood R) (C : Chn P R K a al) (C' : Chn P R K' a' al') (dis : ∀ p q, al p → al' q → (K p).addr ≠ (K' q).addr) {p : Nat} (hp : p < 9000) (hs : ∀ q, q < p → al q ∧ al' q ∧ a q = a' q) (hd : ¬ (al p ∧ al' p ∧ a p = a' p)) :
    ∃ m, m ≤ 1 + 4 * p ∧ Runs P R m [taskAt K K' 0] (if a p = a' p then .yes else .no) := by
  have nr := no_rnd C C' hs hd G
  have key : Runs P R 1 [taskAt K K' p] (if a p = a' p then .yes else .no) := by
    by_cases h : al p ∧ al' p
    · have ne : a p ≠ a' p := fun z => hd ⟨h.1, h.2, z⟩
      rw [if_neg ne]
      exact turn_other G C C' dis hp h.1 h.2 ne (nr p (Nat.le_refl p))
    · have e := turn_end G C C' hp (fun q z => (hs q z).1) (fun q z => (hs q z).2.1) h
      by_cases z : a p = a' p
      · rw [if_pos z]; exact e.1 z
      · rw [if_neg z]; exact e.2 z
  exact back G C C' dis (by omega) (fun q z => ⟨(hs q z).1, (hs q z).2.1, (hs q z).2.2, nr q (by omega)⟩) key
theorem least {p : Nat → Bool} : ∀ n, p n = true → ∃ m, m ≤ n ∧ p m = true ∧ ∀ q, q < m → p q = false
  | n, h => by
    induction n using Nat.strongRecOn with
    | ind n ih =>
      by_cases z : ∃ m, m < n ∧ p m = true
      · obtain ⟨m, m1, m2⟩ := z
        obtain ⟨k, k1, k2, k3⟩ := ih m m1 m2
        exact ⟨k, by omega, k2, k3⟩
      · refine ⟨n, Nat.le_refl n, h, fun q hq => ?_⟩
        cases e : p q with
        | false => rfl
        | true => exact absurd ⟨q, hq, e⟩ z
/-- it goes on for ever alike, and a round is met -/
theorem runs_round (G : RGood R) (C : Chn P R K a al) (C' : Chn P R K' a' al') (dis : ∀ p q, al p → al' q → (K p).addr ≠ (K' q).addr) (hs : ∀ q, al q ∧ al' q ∧ a q = a' q) {T : Nat} (hT : T < 9000) (hr : (taskAt K K' T).rnd = true) :
    ∃ m, m ≤ 4 * 9000 ∧ Runs P R m [taskAt K K' 0] .round := by
  obtain ⟨m, m1, m2, m3⟩ := least (p := fun T => (taskAt K K' T).rnd) T hr
  obtain ⟨j, hj, k⟩ := back G C C' dis (by omega) (fun q z => ⟨(hs q).1, (hs q).2.1, (hs q).2.2, m3 q z⟩) (.round (n := 0) (taskOk C C' (by omega) (fun q _ => (hs q).1) (fun q _ => (hs q).2.1)) (by simp) m2)
  exact ⟨j, by omega, k⟩
end
/-- which cell is met at a place -/
def ix (n r p : Nat) : Nat := if p < n then p else if r = 0 then p else n + (p - n) % r
def alive (n r p : Nat) : Prop := r ≠ 0 ∨ p < n
theorem ix_lt {n r p : Nat} (h : alive n r p) : ix n r p < n + r := by
  unfold ix
  split
  · omega
  · rename_i q
    have hr : r ≠ 0 := by rcases h with h | h <;> omega
    rw [if_neg hr]
    have := Nat.mod_lt (p - n) (Nat.pos_of_ne_zero hr)
    omega
theorem ix_succ {n r p q : Nat} (h : r ≠ 0) (e : ix n r p = ix n r q) : ix n r (p + 1) = ix n r (q + 1) := by
  have hr := Nat.pos_of_ne_zero h
  unfold ix at e ⊢
  simp only [if_neg h] at e ⊢
  have m1 := Nat.mod_lt (p - n) hr
  have m2 := Nat.mod_lt (q - n) hr
  have key : ∀ x : Nat, n ≤ x → (x + 1 - n) % r = ((x - n) % r + 1) % r := fun x hx => by rw [show x + 1 - n = (x - n) + 1 by omega, Nat.add_mod]; simp [Nat.add_mod]
  by_cases a : p < n <;> by_cases b : q < n
  · rw [if_pos a, if_pos b] at e; subst e; rfl
  · rw [if_pos a, if_neg b] at e; omega
  · rw [if_neg a, if_pos b] at e; omega
  · rw [if_neg a, if_neg b] at e
    rw [if_neg (by omega), if_neg (by omega), key p (by omega), key q (by omega), show (p - n) % r = (q - n) % r by omega]
theorem ix_add {n r p q : Nat} (h : r ≠ 0) (e : ix n r p = ix n r q) : ∀ j, ix n r (p + j) = ix n r (q + j)
  | 0 => e
  | j + 1 => ix_succ h (ix_add h e j)
theorem ix_per {n r m k : Nat} (hm : n ≤ m) : ix n r (m + r * k) = ix n r m ∨ r = 0 := by
  by_cases h : r = 0
  · exact .inr h
  · left
    unfold ix
    simp only [if_neg h]
    rw [if_neg (by omega), if_neg (by omega), show m + r * k - n = (m - n) + r * k by omega, Nat.add_mul_mod_self_left]
/-- the next cell, or the end -/
theorem ix_next {n r p : Nat} (h : alive n r p) : (ix n r p + 1 < n + r ∧ ix n r (p + 1) = ix n r p + 1 ∧ alive n r (p + 1)) ∨ (ix n r p + 1 = n + r ∧ r ≠ 0 ∧ ix n r (p + 1) = n ∧ alive n r (p + 1)) ∨ (ix n r p + 1 = n + r ∧ r = 0 ∧ p + 1 = n ∧ ¬ alive n r (p + 1)) := by
  by_cases hr : r = 0
  · subst hr
    have hp : p < n := by rcases h with h | h <;> omega
    have e : ix n 0 p = p := by unfold ix; rw [if_pos hp]
    rw [e]
    by_cases q : p + 1 < n
    · left; exact ⟨by omega, by unfold ix; rw [if_pos q], .inr q⟩
    · right; right
      refine ⟨by omega, rfl, by omega, fun z => ?_⟩
      rcases z with z | z <;> omega
  · have hp := Nat.pos_of_ne_zero hr
    by_cases a : p < n
    · have e : ix n r p = p := by unfold ix; rw [if_pos a]
      rw [e]
      left
      refine ⟨by omega, ?_, .inl hr⟩
      by_cases b : p + 1 < n
      · unfold ix; rw [if_pos b]
      · unfold ix; rw [if_neg b, if_neg hr, show p + 1 - n = 0 by omega, Nat.zero_mod]; omega
    · have e : ix n r p = n + (p - n) % r := by unfold ix; rw [if_neg a, if_neg hr]
      have e1 : ix n r (p + 1) = n + (p + 1 - n) % r := by unfold ix; rw [if_neg (by omega), if_neg hr]
      have m := Nat.mod_lt (p - n) hp
      have key : (p + 1 - n) % r = ((p - n) % r + 1) % r := by rw [show p + 1 - n = (p - n) + 1 by omega, Nat.add_mod]; simp [Nat.add_mod]
      by_cases b : (p - n) % r + 1 < r
      · left; exact ⟨by omega, by rw [e, e1, key, Nat.mod_eq_of_lt b]; omega, .inl hr⟩
      · right; left
        refine ⟨by omega, hr, ?_, .inl hr⟩
        rw [e1, key, show (p - n) % r + 1 = r by omega, Nat.mod_self]; rfl
def endK (t : Int) : Kd := if t = 0 then .nil else .int t
/-- a list's parts in the ledger R -/
structure LiIn (P : Params) (R : List (Addr × Obj)) (ns ms : List Int) (t : Int) (cells : List Cell) (RT : List (Addr × Obj)) (f : Nat → Value) (ev : Value) : Prop where
  sub : ∀ p ∈ led P cells f ++ RT, p ∈ R
  made : Made P RT (ns ++ ms) cells
  dist : Dist cells RT
  len : cells.length = ns.length + ms.length
  fin : ListEnd cells ns ms t ev
  nxt : ∀ j, j < cells.length → f j = if j + 1 < cells.length then .ref ((cells.map (·.x)).getD (j + 1) 0) else ev
open Classical in
noncomputable def nodeAt (ns ms : List Int) (t : Int) (cells : List Cell) (p : Nat) : Kd := if alive ns.length ms.length p then .cons ((cells.map (·.x)).getD (ix ns.length ms.length p) 0) else endK t
section
variable {P : Params} {R : List (Addr × Obj)} {ns ms : List Int} {t : Int} {cells : List Cell} {RT : List (Addr × Obj)} {f : Nat → Value} {ev : Value}
theorem LiIn.consAt (I : LiIn P R ns ms t cells RT f ev) {i : Nat} {c : Cell} (h : cells[i]? = some c) : ConsIn P R c.x c.v (f i) :=
  ⟨c.dx, c.t1, c.t2, I.sub _ (List.mem_append_left _ (mem_led.mpr ⟨i, c, h, .inl rfl⟩)), I.sub _ (List.mem_append_left _ (mem_led.mpr ⟨i, c, h, .inr rfl⟩))⟩
theorem LiIn.cell (I : LiIn P R ns ms t cells RT f ev) {p : Nat} (h : alive ns.length ms.length p) : ∃ c, cells[ix ns.length ms.length p]? = some c := ⟨_, List.getElem?_eq_getElem (by rw [I.len]; exact ix_lt h)⟩
theorem node_cons {p : Nat} {c : Cell} (h : alive ns.length ms.length p) (hc : cells[ix ns.length ms.length p]? = some c) : nodeAt ns ms t cells p = .cons c.x := by
  unfold nodeAt; rw [if_pos h, cell_get hc]
theorem LiIn.inj (I : LiIn P R ns ms t cells RT f ev) (G : RGood R) {i j : Nat} {c d : Cell} (hi : cells[i]? = some c) (hj : cells[j]? = some d) (e : c.x = d.x) : i = j := by
  by_cases q : i = j
  · exact q
  · exfalso
    have a1 := I.sub _ (List.mem_append_left _ (mem_led.mpr ⟨i, c, hi, .inl rfl⟩))
    have a2 := I.sub _ (List.mem_append_left _ (mem_led.mpr ⟨j, d, hj, .inl rfl⟩))
    exact I.dist.1 i j c d hi hj q (inst_inj (G.fn _ a1 _ a2 e)).2
theorem at_alive {p : Nat} (h : alive ns.length ms.length p) : ∃ c, (ns ++ ms)[ix ns.length ms.length p]? = some c ∧ atL ns ms t p = (.thing, c) := by
  unfold atL ix
  by_cases a : p < ns.length
  · rw [if_pos a, if_pos a]
    exact ⟨ns[p], by rw [List.getElem?_append_left a, List.getElem?_eq_getElem a], by simp [a]⟩
  · have hr : ms.length ≠ 0 := by rcases h with h | h <;> omega
    have hm : ms ≠ [] := fun z => hr (by rw [z]; rfl)
    have m := Nat.mod_lt (p - ns.length) (Nat.pos_of_ne_zero hr)
    rw [if_neg a, if_neg a, if_neg hr, if_pos hm]
    refine ⟨ms[(p - ns.length) % ms.length], ?_, by simp [m]⟩
    rw [List.getElem?_append_right (by omega), show ns.length + (p - ns.length) % ms.length - ns.length = (p - ns.length) % ms.length by omega, List.getElem?_eq_getElem m]
theorem LiIn.chn (I : LiIn P R ns ms t cells RT f ev) (G : RGood R) : Chn P R (nodeAt ns ms t cells) (atL ns ms t) (alive ns.length ms.length) where
  cons p h := by
    obtain ⟨c, hc⟩ := I.cell h
    obtain ⟨n, hn, ha⟩ := at_alive (ns := ns) (ms := ms) (t := t) h
    obtain ⟨V, T⟩ := I.made _ c n hc hn
    have V := V.mono fun p hp => I.sub p (List.mem_append_right _ hp)
    have T := T.mono fun p hp => I.sub p (List.mem_append_right _ hp)
    refine ⟨c.x, c.k, c.v, n, node_cons h hc, ⟨c.v, f (ix ns.length ms.length p), I.consAt hc, V, ?_⟩, ha, T, V⟩
    have hx := I.nxt (ix ns.length ms.length p) (by rw [I.len]; exact ix_lt h)
    rw [hx]
    rcases ix_next h with ⟨b1, b2, b3⟩ | ⟨b1, b2, b3, b4⟩ | ⟨b1, b2, b3, b4⟩
    · obtain ⟨d, hd⟩ := I.cell b3
      rw [node_cons b3 hd, if_pos (by rw [I.len]; exact b1)]
      rw [b2] at hd
      rw [cell_get hd]
      exact .cons _ _ _ (I.consAt hd)
    · obtain ⟨d, hd⟩ := I.cell b4
      rw [node_cons b4 hd, if_neg (by rw [I.len]; omega)]
      rw [b3] at hd
      cases I.fin with
      | ring c' hm hc' => rw [hd] at hc'; cases hc'; exact .cons _ _ _ (I.consAt hd)
      | nil hm _ => exact absurd (by rw [hm]; rfl) b2
      | num _ hm _ => exact absurd (by rw [hm]; rfl) b2
    · rw [if_neg (by rw [I.len]; omega)]
      unfold nodeAt endK
      rw [if_neg b4]
      cases I.fin with
      | ring c' hm hc' => exact absurd (List.length_eq_zero_iff.mp b2) hm
      | nil hm h0 => rw [if_pos h0]; exact .nil
      | num tt hm h0 => rw [if_neg h0]; exact .int _ _
  stop p h hn := by
    have hr : ms.length = 0 := by
      by_cases z : ms.length = 0
      · exact z
      · exact absurd (.inl z) hn
    have hm := List.length_eq_zero_iff.mp hr
    have hp : p = ns.length := by
      have a : ¬ p < ns.length := fun z => hn (.inr z)
      by_cases z : p = ns.length
      · exact z
      · have := h ns.length (by omega)
        rcases this with q | q <;> omega
    refine ⟨t, ?_, ?_⟩
    · unfold atL; rw [if_neg (by omega), if_neg (by simp [hm]), if_pos hp]
    · unfold nodeAt endK
      rw [if_neg hn]
      by_cases z : t = 0
      · left; exact ⟨z, by rw [if_pos z]⟩
      · right; exact ⟨z, by rw [if_neg z]⟩
  same p q hp hq e j := by
    obtain ⟨c, hc⟩ := I.cell hp
    obtain ⟨d, hd⟩ := I.cell hq
    rw [node_cons hp hc, node_cons hq hd] at e
    have e := I.inj G hc hd e
    by_cases hr : ms.length = 0
    · have hp' : p < ns.length := by rcases hp with h | h <;> omega
      have hq' : q < ns.length := by rcases hq with h | h <;> omega
      unfold ix at e
      rw [if_pos hp', if_pos hq'] at e
      rw [e]
    · have e := ix_add hr e j
      obtain ⟨n, hn, ha⟩ := at_alive (ns := ns) (ms := ms) (t := t) (p := p + j) (.inl hr)
      obtain ⟨n', hn', ha'⟩ := at_alive (ns := ns) (ms := ms) (t := t) (p := q + j) (.inl hr)
      rw [e, hn'] at hn
      cases hn
      rw [ha, ha']
  down p q hq h := by
    rcases h with h | h
    · exact .inl h
    · exact .inr (by omega)
theorem LiIn.head (I : LiIn P R ns ms t cells RT f ev) : IsV P R (headOf cells ev) (nodeAt ns ms t cells 0) := by
  by_cases h : alive ns.length ms.length 0
  · obtain ⟨c, hc⟩ := I.cell h
    rw [node_cons h hc]
    have e : ix ns.length ms.length 0 = 0 := by
      unfold ix
      split
      · rfl
      · rename_i q
        split
        · rfl
        · rw [show 0 - ns.length = 0 by omega, Nat.zero_mod]; omega
    rw [e] at hc
    rw [head_of hc]
    exact .cons _ _ _ (I.consAt hc)
  · have h1 : ms.length = 0 := by
      by_cases z : ms.length = 0
      · exact z
      · exact absurd (.inl z) h
    have h2 : ns.length = 0 := by
      by_cases z : ns.length = 0
      · exact z
      · exact absurd (.inr (by omega)) h
    have hc : cells = [] := List.length_eq_zero_iff.mp (by rw [I.len]; omega)
    unfold nodeAt endK
    rw [if_neg h, hc]
    show IsV P R ev _
    cases I.fin with
    | ring c' hm hc' => rw [hc] at hc'; simp at hc'
    | nil hm h0 => rw [if_pos h0]; exact .nil
    | num tt hm h0 => rw [if_neg h0]; exact .int _ _
theorem node_per {m k : Nat} (hm : ns.length ≤ m) (hr : ms.length ≠ 0) : nodeAt ns ms t cells (m + ms.length * k) = nodeAt ns ms t cells m ∧ atL ns ms t (m + ms.length * k) = atL ns ms t m := by
  have e := (ix_per (n := ns.length) (r := ms.length) (k := k) hm).resolve_right hr
  constructor
  · unfold nodeAt; rw [if_pos (.inl hr), if_pos (.inl hr), e]
  · obtain ⟨n, hn, ha⟩ := at_alive (ns := ns) (ms := ms) (t := t) (p := m + ms.length * k) (.inl hr)
    obtain ⟨n', hn', ha'⟩ := at_alive (ns := ns) (ms := ms) (t := t) (p := m) (.inl hr)
    rw [e, hn'] at hn
    cases hn
    rw [ha, ha']
end
/-- what is due, told by the first place that differs or ends -/
theorem due_cases {a r : List Int} {t : Int} {a' r' : List Int} {t' : Int} : ∀ k p, (∀ q, q < p → atL a r t q = atL a' r' t' q ∧ (atL a r t q).1 ≠ .stop) →
    (∃ q, q < p + k ∧ (∀ z, z < q → atL a r t z = atL a' r' t' z ∧ (atL a r t z).1 ≠ .stop) ∧ ((atL a r t q = atL a' r' t' q ∧ (atL a r t q).1 = .stop ∧ dueFrom a r t a' r' t' k p = .yes) ∨ (atL a r t q ≠ atL a' r' t' q ∧ dueFrom a r t a' r' t' k p = .no))) ∨
    ((∀ z, z < p + k → atL a r t z = atL a' r' t' z ∧ (atL a r t z).1 ≠ .stop) ∧ dueFrom a r t a' r' t' k p = .round)
  | 0, p, h => .inr ⟨h, rfl⟩
  | k + 1, p, h => by
    rw [dueFrom_succ]
    by_cases e : atL a r t p = atL a' r' t' p
    · rw [if_pos e]
      by_cases s : (atL a r t p).1 = .stop
      · rw [if_pos s]
        exact .inl ⟨p, by omega, h, .inl ⟨e, s, rfl⟩⟩
      · rw [if_neg s]
        have h' : ∀ q, q < p + 1 → atL a r t q = atL a' r' t' q ∧ (atL a r t q).1 ≠ .stop := fun q hq => by
          by_cases z : q < p
          · exact h q z
          · rw [show q = p by omega]; exact ⟨e, s⟩
        rcases due_cases k (p + 1) h' with ⟨q, q1, q2, q3⟩ | ⟨q1, q2⟩
        · exact .inl ⟨q, by omega, q2, q3⟩
        · exact .inr ⟨fun z hz => q1 z (by omega), q2⟩
    · rw [if_neg e]
      exact .inl ⟨p, by omega, h, .inr ⟨e, rfl⟩⟩
section
variable {P : Params} {R : List (Addr × Obj)} {ns ms ns' ms' : List Int} {t t' : Int} {cells cells' : List Cell} {RT RT' : List (Addr × Obj)} {f f' : Nat → Value} {ev ev' : Value}
theorem going {p : Nat} (h : ∀ q, q < p → atL ns ms t q = atL ns' ms' t' q ∧ (atL ns ms t q).1 ≠ .stop) : ∀ q, q < p → alive ns.length ms.length q := fun q hq => by
  by_cases z : alive ns.length ms.length q
  · exact z
  · exfalso
    have hr : ms.length = 0 := by
      by_cases y : ms.length = 0
      · exact y
      · exact absurd (.inl y) z
    have hn : ¬ q < ns.length := fun y => z (.inr y)
    refine (h ns.length (by omega)).2 ?_
    unfold atL
    rw [if_neg (by omega), if_neg (by simp [List.length_eq_zero_iff.mp hr]), if_pos rfl]
theorem going' {p : Nat} (h : ∀ q, q < p → atL ns ms t q = atL ns' ms' t' q ∧ (atL ns ms t q).1 ≠ .stop) : ∀ q, q < p → alive ns'.length ms'.length q :=
  going (ns := ns') (ms := ms') (t := t') (ns' := ns) (ms' := ms) (t' := t) fun q hq => ⟨(h q hq).1.symm, by rw [← (h q hq).1]; exact (h q hq).2⟩
/-- THE PLAIN LAW: equal's run over two such lists ends in what is due -/
theorem runs_due (G : RGood R) (I : LiIn P R ns ms t cells RT f ev) (I' : LiIn P R ns' ms' t' cells' RT' f' ev') (dis : ∀ p ∈ led P cells f, ∀ q ∈ led P cells' f', p.1 ≠ q.1)
    (l1 : ns.length ≤ 5) (l2 : ns'.length ≤ 5) (l3 : ms.length * ms'.length ≤ 32) :
    ∃ n, n ≤ 7000000 ∧ Runs P R n [⟨nodeAt ns ms t cells 0, nodeAt ns' ms' t' cells' 0, nodeAt ns ms t cells 0, nodeAt ns' ms' t' cells' 0, 0, 0⟩] (dueFrom ns ms t ns' ms' t' 60 0) := by
  have C := I.chn G
  have C' := I'.chn G
  have dd : ∀ p q, alive ns.length ms.length p → alive ns'.length ms'.length q → (nodeAt ns ms t cells p).addr ≠ (nodeAt ns' ms' t' cells' q).addr := fun p q hp hq => by
    obtain ⟨c, hc⟩ := I.cell hp
    obtain ⟨d, hd⟩ := I'.cell hq
    rw [node_cons hp hc, node_cons hq hd]
    exact dis _ (mem_led.mpr ⟨_, c, hc, .inl rfl⟩) _ (mem_led.mpr ⟨_, d, hd, .inl rfl⟩)
  rcases due_cases (a := ns) (r := ms) (t := t) (a' := ns') (r' := ms') (t' := t') 60 0 (fun q hq => absurd hq (Nat.not_lt_zero q)) with ⟨q, q1, q2, q3⟩ | ⟨q1, q2⟩
  · have g1 := going q2
    have g2 := going' q2
    have hd : ¬ (alive ns.length ms.length q ∧ alive ns'.length ms'.length q ∧ atL ns ms t q = atL ns' ms' t' q) := by
      rintro ⟨a1, a2, a3⟩
      rcases q3 with ⟨_, s, _⟩ | ⟨e, _⟩
      · obtain ⟨_, _, _, c, _, _, em, _⟩ := C.cons q a1
        rw [em] at s; cases s
      · exact e a3
    obtain ⟨m, hm, k⟩ := runs_at G C C' dd (p := q) (by omega) (fun z hz => ⟨g1 z hz, g2 z hz, (q2 z hz).1⟩) hd
    refine ⟨m, by omega, ?_⟩
    rcases q3 with ⟨e, s, d⟩ | ⟨e, d⟩
    · rw [if_pos e] at k; rw [d]; exact k
    · rw [if_neg e] at k; rw [d]; exact k
  · have g1 := going q1
    have g2 := going' q1
    have r1 : ms.length ≠ 0 := by rcases g1 50 (by omega) with h | h <;> omega
    have r2 : ms'.length ≠ 0 := by rcases g2 50 (by omega) with h | h <;> omega
    have p1 := Nat.pos_of_ne_zero r1
    have p2 := Nat.pos_of_ne_zero r2
    generalize hN : ms.length * ms'.length = N at l3
    have hN0 : 0 < N := by rw [← hN]; exact Nat.mul_pos p1 p2
    have per1 : ∀ m k, 5 ≤ m → nodeAt ns ms t cells (m + N * k) = nodeAt ns ms t cells m ∧ atL ns ms t (m + N * k) = atL ns ms t m := fun m k hm => by
      rw [← hN, Nat.mul_assoc]; exact node_per (by omega) r1
    have per2 : ∀ m k, 5 ≤ m → nodeAt ns' ms' t' cells' (m + N * k) = nodeAt ns' ms' t' cells' m ∧ atL ns' ms' t' (m + N * k) = atL ns' ms' t' m := fun m k hm => by
      rw [← hN, Nat.mul_comm ms.length, Nat.mul_assoc]; exact node_per (by omega) r2
    have all : ∀ q, atL ns ms t q = atL ns' ms' t' q := fun q => by
      by_cases z : q < 60
      · exact (q1 q (by omega)).1
      · have hq : q = (5 + (q - 5) % N) + N * ((q - 5) / N) := by
          have := Nat.mod_add_div (q - 5) N
          omega
        have hm := Nat.mod_lt (q - 5) hN0
        rw [hq, (per1 _ _ (by omega)).2, (per2 _ _ (by omega)).2]
        exact (q1 _ (by omega)).1
    rw [q2]
    obtain ⟨m, hm, k⟩ := runs_round G C C' dd (fun q => ⟨.inl r1, .inl r2, all q⟩) (T := 10 * N) (by omega) (by
      have d : 10 * N / 2 = 5 * N := by omega
      have e1 := (per1 (5 * N) 5 (by omega)).1
      have e2 := (per2 (5 * N) 5 (by omega)).1
      rw [show 5 * N + N * 5 = 10 * N by omega] at e1 e2
      have i1 := C.isInt (p := 5 * N) (.inl r1)
      have i2 := C'.isInt (p := 5 * N) (.inl r2)
      show (decide ((0 : Int) < ((10 * N : Nat) : Int)) && (isK (nodeAt ns ms t cells (10 * N)) (nodeAt ns ms t cells (10 * N / 2)) && isK (nodeAt ns' ms' t' cells' (10 * N)) (nodeAt ns' ms' t' cells' (10 * N / 2)))) = true
      rw [d, e1, e2]
      simp only [isK, i1, i2, Bool.not_false, Bool.true_and, decide_true, Bool.and_true, decide_eq_true_eq]
      omega)
    exact ⟨m, by omega, k⟩
end
section
open Builtin Builtin.ObjectAttr
variable {prog : Program} {w : World} {A : Around} {E : Value → Shared → Prop} {h : Heap} {g : Array GenState} {d : Drawn} {t : Nat} {os : OsState}
variable {nm q : Str} {C N x dx : Addr} {bs : List Value} {sn : List Str} {sub : List Value} {ab : Bool} {col : Option Bool} {dd : Option Addr} {k0 k1 k2 k3 k5 : Option Value} {B newId : String} {bm : List Value} {mN m1 : Str → Option Value} {name : Str} {v : Value} {o : Obj}
theorem exc_load {tk : Tok} {Q : Fin → Shared → Prop} (FB : ExcAttrBase B bm) (hC : h.get? C = some (excClassObj nm q C N bs bm true sn sub ab col dd k0 k1 k2 k3 k5 newId)) (hn : h.Ns N mN) (hna : mN name = none)
    (hB : typeLookup (.type B) name = pure none) (hx : h.get? x = some o) (hc : o.cls = .ref C) (hdx : o.dict = some dx) (hnc : ∀ c, o.data ≠ .cls c) (hns : h.Ns dx m1) (hv : m1 name = some v) (hq : Q (.done (.ret v)) ⟨h, g, d, t, os⟩) :
    wpAny (model prog w) A (Builtin.«object.__getattribute__» ⟨[.ref x, .str name tk], []⟩) Q E ⟨h, g, d, t, os⟩ := by
  unfold Builtin.«object.__getattribute__»
  repeat (first | (with_reducible refine wpAny_loadPart_at hx ?_; rw [hc]) | (with_reducible refine wpAny_typeLookup_exc hC hn FB.mro hB ?_; rw [hna]) | wp_step)
  split
  · rename_i c hcd
    exact absurd hcd (hnc c)
  unfold instanceDict
  repeat (first | (with_reducible refine wpAny_loadPart_at hx ?_; rw [hc]) | with_reducible refine wpAny_loadPart_at hC ?_ | wp_step)
  rw [hdx]
  repeat (first | (with_reducible refine wpAny_nsGet hns ?_; rw [hv]) | wp_step)
  exact hq
theorem exc_by {tk : Tok} {fill expr : Bool} {Q : Value → Shared → Prop} (FB : ExcAttrBase B bm) (hC : h.get? C = some (excClassObj nm q C N bs bm true sn sub ab col dd k0 k1 k2 k3 k5 newId)) (hn : h.Ns N mN) (hna : mN name = none)
    (hg1 : mN "__getattribute__" = none) (hg2 : mN "__getattr__" = none)
    (hB : typeLookup (.type B) name = pure none) (hx : h.get? x = some o) (hc : o.cls = .ref C) (hdx : o.dict = some dx) (hnc : ∀ c, o.data ≠ .cls c) (hns : h.Ns dx m1) (hv : m1 name = some v) (hh : handedOut v = pure v) (hq : Q v ⟨h, g, d, t, os⟩) :
    wpAny (model prog w) A (getAttrBy (.ref x) (.str name tk) fill expr) Q E ⟨h, g, d, t, os⟩ := by
  have f3 := FB.ga.bind (.ref x)
  have hx0 : (expr && onTheHeap (Value.builtin "BaseException.__getattribute__")) = false := by cases expr <;> rfl
  have hx2 : (Value.builtin "BaseException.__getattribute__" == Value.builtin "object.__getattribute__") = false := by decide +kernel
  have hx1 : (onTheHeap (Value.ref C) && Value.builtin "BaseException.__getattribute__" == Value.builtin "object.__getattribute__") = false := by rw [hx2]; rfl
  repeat (any_goals (first | assumption | (with_reducible refine wpAny_loadPart_at hx ?_; rw [hc]) | (with_reducible refine wpAny_typeLookup_exc hC hn FB.mro FB.ga.lookup ?_; rw [hg1]) | (with_reducible refine wpAny_typeLookup_exc hC hn FB.mro FB.noGetattr ?_; rw [hg2]) | wp_step))
  refine codeAny_call_builtin FB.ga.plain F.entry_bexc_ga (wpAny_check_ga_own FB hC .base hx hc (exc_load FB hC hn hna hB hx hc hdx hnc hns hv ?_))
  repeat (any_goals (first | assumption | wp_step))
theorem exc_attr {expr : Bool} {Q : Value → Shared → Prop} (FB : ExcAttrBase B bm) (hC : h.get? C = some (excClassObj nm q C N bs bm true sn sub ab col dd k0 k1 k2 k3 k5 newId)) (hn : h.Ns N mN) (hna : mN name = none)
    (hg1 : mN "__getattribute__" = none) (hg2 : mN "__getattr__" = none)
    (hB : typeLookup (.type B) name = pure none) (hx : h.get? x = some o) (hc : o.cls = .ref C) (hdx : o.dict = some dx) (hnc : ∀ c, o.data ≠ .cls c) (hns : h.Ns dx m1) (hv : m1 name = some v) (hh : handedOut v = pure v) (hq : Q v ⟨h, g, d, t + 1, os⟩) :
    wpAny (model prog w) A (getAttr (.ref x) name expr) Q E ⟨h, g, d, t, os⟩ := by
  unfold getAttr
  repeat (any_goals (first | assumption | with_reducible apply exc_by FB hC hn hna hg1 hg2 hB hx hc hdx hnc hns hv hh | wp_step))
end
theorem sym_get {w : World} {A : Around} {E : Value → Shared → Prop} {s : Shared} {e dx : Addr} {oe : Obj} {m1 : Str → Option Value} {v : Value} {expr : Bool} {Q : Value → Shared → Prop} (X : (hd.heap_39 w.params).In s.heap) (he : s.heap.get? e = some oe) (hc : oe.cls = .ref 38) (hdx : oe.dict = some dx) (hnc : ∀ c, oe.data ≠ .cls c)
    (hns : s.heap.Ns dx m1) (hv : m1 (Str.ofString "symbol") = some v) (hh : handedOut v = pure v) (hq : Q v { s with toks := s.toks + 1 }) :
    wpAny (model PySem.Challenge.rw_pq0276_01.row.toRowW.prog w) A (getAttr (.ref e) (Str.ofString "symbol") expr) Q E s := by
  obtain ⟨h, g, d, t, os⟩ := s
  obtain ⟨nm, q, bs, sn, sub, ab, col, dd, k0, k1, k2, k3, k5, mN, hC, hn, h1, h2, h3, h4, h5, h6⟩ := exc_cls X rfl
  exact exc_attr F.attrBase_Exception hC hn h5 h3 h4 sym_miss he hc hdx hnc hns hv hh hq
theorem lisp_in (P : Params) : nsIn (hd.heap_39 P) mainGlobals (Str.ofString "LispSignal") = some (some (.ref 38)) := by kernel_rfl
theorem ns_two {h : Heap} {d L : Addr} {m m1 : Str → Option Value} {n : Str} {v : Value} (a : h.Ns d m1) (b : h.Ns L m) (h1 : m1 n = some v) (h2 : m n = none) : d ≠ L := by
  rintro rfl
  obtain ⟨o, es, ep, e1, e2, _, e3⟩ := a
  obtain ⟨o', es', ep', f1, f2, _, f3⟩ := b
  rw [e1] at f1; cases f1
  rw [e2] at f2; cases f2
  rw [← e3] at h1
  rw [← f3] at h2
  rw [h1] at h2; cases h2
section
variable {w : World} {A₀ : Around} {E : Value → Shared → Prop} {s' : Shared} {h₀ h : Heap} {L a e : Addr} {m : Str → Option Value} {name : Str} {scope : Scope} {cd v : Value}
  {n : Str} {b₀ : Stmt} {suite : List Stmt} {pos np : Pos} {rest : List ExceptHandler} {Q : Flow → Shared → Prop} {news : List (Addr × Obj)} {p : Program} {loose : List Str} {mg mb : Str → Option Value}
/-- the law's own clause takes the LispSignal -/
theorem caught_sig (K : Below A₀ h₀ [] h₀) (F : Fr h₀ L h m) (N : News h₀ L h news) (FL : Fly h [envOf name scope L a cd] e v s'.heap) (X : (hd.heap_39 w.params).In h₀) (T : TopRead p loose mg mb h₀) (hm : m (Str.ofString "symbol") = none)
    (k : ∀ h' tk oe dx m1, Fr h₀ L h' (fun y => if y = n then some (.ref e) else m y) → News h₀ L h' news → h'.get? e = some oe → oe.cls = .ref 38 → oe.dict = some dx → (∀ c, oe.data ≠ .cls c) → h'.Ns dx m1 → m1 (Str.ofString "symbol") = some v →
      wpAny (model PySem.Challenge.rw_pq0276_01.row.toRowW.prog w) ((A₀.deeper (envOf name scope L a cd)).mark (some (.ref e))) (execs (b₀ :: suite) (envOf name scope L a cd))
        (fun f s₄ => wpAny (model PySem.Challenge.rw_pq0276_01.row.toRowW.prog w) (A₀.deeper (envOf name scope L a cd)) (do bindName (envOf name scope L a cd) n .none; unbindBehindTheSuite (envOf name scope L a cd) n pos) (fun _ s₅ => Q f s₅) E s₄)
        (AsSuiteRaised (model PySem.Challenge.rw_pq0276_01.row.toRowW.prog w) ((A₀.deeper (envOf name scope L a cd)).mark (some (.ref e))) (envOf name scope L a cd) n pos (notedBy (model PySem.Challenge.rw_pq0276_01.row.toRowW.prog w) ((A₀.deeper (envOf name scope L a cd)).mark (some (.ref e))) (envOf name scope L a cd) (cameBackBy (model PySem.Challenge.rw_pq0276_01.row.toRowW.prog w) (A₀.deeper (envOf name scope L a cd)) (envOf name scope L a cd) E)))
        { s' with heap := h', toks := tk })
    (hk : scope.kind = .function := by rfl) (hlo : (envOf name scope L a cd).kindOf n = some .local := by rfl) (hx : (envOf name scope L a cd).kindOf (Str.ofString "LispSignal") = some .globalImplicit := by rfl) :
    wpAny (model PySem.Challenge.rw_pq0276_01.row.toRowW.prog w) (A₀.deeper (envOf name scope L a cd)) (noteFrame (.ref e) (envOf name scope L a cd))
      (fun _ s₂ => wpAny (model PySem.Challenge.rw_pq0276_01.row.toRowW.prog w) (A₀.deeper (envOf name scope L a cd)) (setFlight (.ref e) none) (fun _ s₃ =>
        wpAny (model PySem.Challenge.rw_pq0276_01.row.toRowW.prog w) (A₀.deeper (envOf name scope L a cd)) (handleBy (.ref e) (envOf name scope L a cd) (.ExceptHandler (some (.Name (Str.ofString "LispSignal") np)) (some n) (b₀ :: suite) pos :: rest)) Q E s₃) E s₂) E s' := by
  obtain ⟨B, d, m1, b1, b2, b3, b4, b5, b6, b7, b8, b9⟩ := FL
  have hLn : h₀.get? L = none := Heap.get?_none_of_le F.above
  have toB : ∀ b o, h.get? b = some o → b ≠ L → B.get? b = some o := fun b o q nb => b1 b o q (by
    intro z
    obtain ⟨x, hx, hxa⟩ := List.mem_filterMap.mp z
    rw [List.mem_singleton.mp hx] at hxa
    exact nb (Option.some.inj hxa).symm)
  have ground : h₀.StaysIn B := fun b o q => toB b o (F.keep b o q) (by rintro rfl; rw [hLn] at q; cases q)
  refine note_exc (Around.frames_deeper K.stack) b4 rfl b3 b2 b5 (.inr rfl) (fun h4 a1 a2 a3 a4 => ?_)
  refine flight_exc (s := { s' with heap := h4 }) a2 a1 a4 (fun h5 c1 c2 c3 c4 => ?_)
  have u5 := b6.trans (a3.trans c3)
  have F5 := F.of_stays (fun b o q => c1 b o (ground b o q)) u5
  refine wpAny_handleBy_cons (codeAny_handlers_test (name_K (F5 : Fr h₀ L _ m) X T (lisp_in w.params) ?_ hk hx (by decide))) (by intro q; cases q)
  obtain ⟨nm, q, bs, sn, sub, ab, col, dd, k0, k1, k2, k3, k5, mN, hC, _⟩ := exc_cls (X.keeps F5.keep) rfl
  have c4' := c4
  obtain ⟨oe, vs, he, hc, hdi, hd, hsz, hT⟩ := c4'
  refine wpAny_excMatches_sub_self hC he hc (by rfl) (codeAny_handlers_suite_as ?_)
  refine flight_exc (s := { s' with heap := h5 }) c2 c1 c4 (fun h6 d1 d2 d3 d4 => ?_)
  have u6 := u5.trans d3
  have F6 : Fr h₀ L h6 m := F.of_stays (fun b o q => d1 b o (ground b o q)) u6
  have N6 : News h₀ L h6 news := fun p hp => ⟨d1 _ _ (toB _ _ (N p hp).1 (N p hp).2.1), (N p hp).2⟩
  have ns6 : h6.Ns d m1 := (a3.trans (c3.trans d3)).ns b7
  obtain ⟨oe, vs, he, hc, hdi, hd, hsz, hT⟩ := d4
  have eL : e ≠ L := by
    rintro rfl
    obtain ⟨o, _, _, z, _⟩ := F.ns
    rw [z] at b9; cases b9
  have dL : d ≠ L := ns_two ns6 F6.ns b8 hm
  refine wpAny_storeName_local hlo F6.ns (fun h7 hn hs => ?_) (by show (scope.kind == .class || (scope.kind == .module && L != mainGlobals)) = false; rw [hk]; rfl)
  exact k h7 _ oe d m1 (F6.set hn hs) (N6.set hs) (hs.extBut _ _ eL he) hc hdi (fun c z => by rw [hd] at z; cases z) (ns6.sameBut hs dL) b8
end

def forBody : Stmt → List Stmt
  | .For _ _ body .. => body
  | _ => []
theorem has_newly {h h' : Heap} {l : List (Addr × Obj)} (Y : Newly h l h') : Has h' l := fun p hp => (Y p hp).1
theorem has_app {h : Heap} {l l' : List (Addr × Obj)} (a : Has h l) (b : Has h l') : Has h (l ++ l') := fun p hp => (List.mem_append.mp hp).elim (a p) (b p)
theorem rgood_of {h : Heap} {R : List (Addr × Obj)} (H : Has h R) (nn : ∀ p ∈ R, p.1 ≠ 64) : RGood R := ⟨fun p hp q hq e => by
  have a := H p hp
  have b := H q hq
  rw [e, b] at a
  exact (Option.some.inj a).symm, nn⟩
theorem newly_ne {h h' : Heap} {R : List (Addr × Obj)} {a : Addr} {o : Obj} (Y : Newly h R h') (e : h.get? a = some o) : ∀ p ∈ R, p.1 ≠ a := fun p hp z => by
  have := (Y p hp).2
  rw [z, e] at this; cases this
theorem nil_in {P : Params} {h : Heap} (X : (hd.heap_39 P).In h) (mark : PySem.Challenge.rw_pq0276_01 = PySem.Challenge.rw_pq0276_01) : ∃ o, h.get? 64 = some o := by
  revert X mark; k_fill; intro X _
  exact ⟨_, X 64 _ (by k_is)⟩
section
theorem turn_spec {w : World} {mean : ExcName → Option Value} {mg mb : Str → Option Value} {h₀ : Heap} {L f : Addr} {cdv : Value} {body : List Stmt} {scope : Scope} {s : Shared} {m₀ : Str → Option Value} {T1 T2 : Addr} {base : List (Addr × Obj)} {ns ms ns' ms' : List Int} {t t' : Int} {Q : Flow → Shared → Prop} {E : Value → Shared → Prop}
    (hb : body = forBody (stAt (fdB (stAt PW 32)) 5)) (hs : scope = fdS (stAt PW 32)) (X : (hd.heap_39 w.params).In h₀) (B : Below callerA h₀ [] h₀) (T : Top hd.view_39 LL mean mg mb h₀)
    (F : Fr h₀ L s.heap (fun y => if y = Str.ofString "_law_second" then some (.ref T2) else if y = Str.ofString "_law_first" then some (.ref T1) else m₀ y)) (N : News h₀ L s.heap base) (hm : m₀ (Str.ofString "symbol") = none)
    (i1 : TriIn base T1 ns ms t) (i2 : TriIn base T2 ns' ms' t') (cs : ∀ c ∈ ns ++ ms, 0 ≤ c ∧ c < 6) (cs' : ∀ c ∈ ns' ++ ms', 0 ≤ c ∧ c < 6) (l1 : ns.length ≤ 5) (l2 : ns'.length ≤ 5) (l3 : ms.length * ms'.length ≤ 32)
    (hQ : ∀ h' tk' m', Fr h₀ L h' m' → News h₀ L h' base → m' (Str.ofString "symbol") = none → Q .next { s with heap := h', toks := tk' }) :
    wpAny (model PySem.Challenge.rw_pq0276_01.row.toRowW.prog w) (callerA.deeper (envOf (Str.ofString "law") scope L f cdv)) (execs body (envOf (Str.ofString "law") scope L f cdv)) Q E s := by
  have i1' := i1
  have i2' := i2
  obtain ⟨a, b, va, vb, na, nb, tt, j1, j2, j3, j4, j5, j6, j7⟩ := i1
  obtain ⟨a', b', va', vb', na', nb', tt', k1, k2, k3, k4, k5, k6, k7⟩ := i2
  obtain ⟨o64, e64⟩ := nil_in X rfl
  (conv at hb => rhs; whnf)
  (conv at hs => rhs; whnf)
  subst hb hs
  revert X; k_fill; intro X
  repeat' ((fail_if_success (with_reducible show wpAny _ _ (subscriptTail _ _ _ _) _ _ _)); (first | (k_unfold; (try dsimp only)) | (k_end; wrow_close) | walk1 | (dsimp only; walk1) | (leave1; walk_say "STEP leave1"; try dsimp only) | fail "no step"))
  (with_reducible rename News h₀ L _ base => N9)
  refine item_tuple ⟨_, (N9 _ j1).1, rfl, _, rfl⟩ (by decide) (by decide) (j := 0) rfl rfl ?_
  repeat' ((fail_if_success (with_reducible show wpAny _ _ (subscriptTail _ _ _ _) _ _ _)); (first | (k_unfold; (try dsimp only)) | (k_end; wrow_close) | walk1 | (dsimp only; walk1) | (leave1; walk_say "STEP leave1"; try dsimp only) | fail "no step"))
  (with_reducible rename News h₀ L _ base => N9)
  refine item_tuple ⟨_, (N9 _ j1).1, rfl, _, rfl⟩ (by decide) (by decide) (j := 1) rfl rfl ?_
  repeat' ((fail_if_success (with_reducible show wpAny _ _ (subscriptTail _ _ _ _) _ _ _)); (first | (k_unfold; (try dsimp only)) | (k_end; wrow_close) | walk1 | (dsimp only; walk1) | (leave1; walk_say "STEP leave1"; try dsimp only) | fail "no step"))
  (with_reducible rename News h₀ L _ base => N9)
  refine item_tuple ⟨_, (N9 _ j1).1, rfl, _, rfl⟩ (by decide) (by decide) (j := 2) rfl rfl ?_
  repeat' ((fail_if_success (with_reducible show wpAny _ _ (call (Value.ref 304) _) _ _ _)); (first | (k_unfold; (try dsimp only)) | (k_end; wrow_close) | walk1 | (dsimp only; walk1) | (leave1; walk_say "STEP leave1"; try dsimp only) | fail "no step"))
  (with_reducible rename News h₀ L _ base => N9)
  refine' list_spec ?X ⟨?h, ?d, ?f, ?u, ?B, ?F, ?T, ?e, ?k⟩ (has_news N9) j2 j3 j4 j5 j6 j7 cs ?_
  (case X => k_asm); (case h => exact rfl); (case d => exact Nat.le_of_ble_eq_true rfl); (case f => exact rfl); (case u => exact Nat.le_of_ble_eq_true rfl); (case B => k_asm); (case F => k_asm); (case T => k_asm); (case e => first | exact rfl | assumption); (case k => first | exact rfl | assumption);
  intro h1 tk1 cells RT f1 ev K1 Y1 M1 D1 Z1 E1 X1
  have F1 := Fr.stay (by k_asm) K1
  have N1 := News.stay N9 K1
  clear N9
  repeat' ((fail_if_success (with_reducible show wpAny _ _ (subscriptTail _ _ _ _) _ _ _)); (first | (k_unfold; (try dsimp only)) | (k_end; wrow_close) | walk1 | (dsimp only; walk1) | (leave1; walk_say "STEP leave1"; try dsimp only) | fail "no step"))
  (with_reducible rename News h₀ L _ base => N9)
  refine item_tuple ⟨_, (N9 _ k1).1, rfl, _, rfl⟩ (by decide) (by decide) (j := 0) rfl rfl ?_
  repeat' ((fail_if_success (with_reducible show wpAny _ _ (subscriptTail _ _ _ _) _ _ _)); (first | (k_unfold; (try dsimp only)) | (k_end; wrow_close) | walk1 | (dsimp only; walk1) | (leave1; walk_say "STEP leave1"; try dsimp only) | fail "no step"))
  (with_reducible rename News h₀ L _ base => N9)
  refine item_tuple ⟨_, (N9 _ k1).1, rfl, _, rfl⟩ (by decide) (by decide) (j := 1) rfl rfl ?_
  repeat' ((fail_if_success (with_reducible show wpAny _ _ (subscriptTail _ _ _ _) _ _ _)); (first | (k_unfold; (try dsimp only)) | (k_end; wrow_close) | walk1 | (dsimp only; walk1) | (leave1; walk_say "STEP leave1"; try dsimp only) | fail "no step"))
  (with_reducible rename News h₀ L _ base => N9)
  refine item_tuple ⟨_, (N9 _ k1).1, rfl, _, rfl⟩ (by decide) (by decide) (j := 2) rfl rfl ?_
  repeat' ((fail_if_success (with_reducible show wpAny _ _ (call (Value.ref 304) _) _ _ _)); (first | (k_unfold; (try dsimp only)) | (k_end; wrow_close) | walk1 | (dsimp only; walk1) | (leave1; walk_say "STEP leave1"; try dsimp only) | fail "no step"))
  (with_reducible rename News h₀ L _ base => N9)
  refine' list_spec ?X ⟨?h, ?d, ?f, ?u, ?B, ?F, ?T, ?e, ?k⟩ (has_news N9) k2 k3 k4 k5 k6 k7 cs' ?_
  (case X => k_asm); (case h => exact rfl); (case d => exact Nat.le_of_ble_eq_true rfl); (case f => exact rfl); (case u => exact Nat.le_of_ble_eq_true rfl); (case B => k_asm); (case F => k_asm); (case T => k_asm); (case e => first | exact rfl | assumption); (case k => first | exact rfl | assumption);
  intro h2 tk2 cells' RT' f2 ev' K2 Y2 M2 D2 Z2 E2 X2
  have F2 := Fr.stay (by k_asm) K2
  have N2 := News.stay N9 K2
  clear N9
  -- the plain law
  have H1 : Has h2 (led w.params cells f1 ++ RT) := Has.stays (has_newly Y1) K2
  have H2 : Has h2 (led w.params cells' f2 ++ RT') := has_newly Y2
  have G : RGood ((led w.params cells f1 ++ RT) ++ (led w.params cells' f2 ++ RT')) := rgood_of (has_app H1 H2) fun p hp => by
    rcases List.mem_append.mp hp with hp | hp
    · exact newly_ne Y1 (Fr.keep (by k_asm) _ _ e64) p hp
    · exact newly_ne Y2 (Fr.keep F1 _ _ e64) p hp
  have I1 : LiIn w.params ((led w.params cells f1 ++ RT) ++ (led w.params cells' f2 ++ RT')) ns ms t cells RT f1 ev := ⟨fun p hp => List.mem_append_left _ hp, M1, D1, Z1, E1, X1⟩
  have I2 : LiIn w.params ((led w.params cells f1 ++ RT) ++ (led w.params cells' f2 ++ RT')) ns' ms' t' cells' RT' f2 ev' := ⟨fun p hp => List.mem_append_right _ hp, M2, D2, Z2, E2, X2⟩
  have dis : ∀ p ∈ led w.params cells f1, ∀ q ∈ led w.params cells' f2, p.1 ≠ q.1 := fun p hp q hq e => newly_ne Y2 (has_newly Y1 p (List.mem_append_left _ hp)) q (List.mem_append_left _ hq) e.symm
  obtain ⟨n, hn, hr⟩ := runs_due G I1 I2 dis l1 l2 l3
  have V1 := I1.head
  have V2 := I2.head
  clear G I1 I2 dis M1 M2 D1 D2 Z1 Z2 E1 E2 X1 X2 Y1 Y2 K1 K2
  (try clear F1)
  (try clear N1)
  repeat' ((fail_if_success (with_reducible show wpAny _ _ (call (Value.ref 273) _) _ _ _)); (first | (k_unfold; (try dsimp only)) | (k_end; wrow_close) | walk1 | (dsimp only; walk1) | (leave1; walk_say "STEP leave1"; try dsimp only) | fail "no step"))
  refine' equal_spec ?X ⟨?h, ?d, ?f, ?u, ?B, ?F, ?T, ?e, ?k⟩ (has_app H1 H2) V1 V2 hn hr ?yes ?no ?round
  (case X => k_asm); (case h => exact rfl); (case d => exact Nat.le_of_ble_eq_true rfl); (case f => exact rfl); (case u => exact Nat.le_of_ble_eq_true rfl); (case B => k_asm); (case F => k_asm); (case T => k_asm); (case e => first | exact rfl | assumption); (case k => first | exact rfl | assumption);
  (case yes =>
    intro hD h3 tk3 K3
    have F3 := Fr.stay (by k_asm) K3
    have N3 := News.stay N2 K3
    clear H1 H2 hr
    (try clear F2)
    (try clear N2)
    repeat' ((fail_if_success (with_reducible show wpAny _ _ (call (Value.ref 318) _) _ _ _)); (first | (k_unfold; (try dsimp only)) | (k_end; wrow_close) | walk1 | (dsimp only; walk1) | (leave1; walk_say "STEP leave1"; try dsimp only) | fail "no step"))
    (with_reducible rename News h₀ L _ base => N9)
    refine' due_spec ?X ⟨?h, ?d, ?f, ?u, ?B, ?F, ?T, ?e, ?k⟩ hD (has_news N9) i1' i2' ?_
    (case X => k_asm); (case h => exact rfl); (case d => exact Nat.le_of_ble_eq_true rfl); (case f => exact rfl); (case u => exact Nat.le_of_ble_eq_true rfl); (case B => k_asm); (case F => k_asm); (case T => k_asm); (case e => first | exact rfl | assumption); (case k => first | exact rfl | assumption);
    intro h4 tk4 v K4 RV
    cases RV
    have F4 := Fr.stay (by k_asm) K4
    have N4 := News.stay N9 K4
    clear N9
    repeat' ((fail_if_success (with_reducible show Q Flow.next _)); (first | (k_unfold; (try dsimp only)) | (k_end; wrow_close) | walk1 | (dsimp only; walk1) | (leave1; walk_say "STEP leave1"; try dsimp only) | fail "no step"))
    (with_reducible rename Fr h₀ L _ _ => F9)
    refine hQ _ _ _ F9 (by k_asm) ?_
    repeat (first | exact hm | refine (if_neg (by decide +kernel)).trans ?_))
  (case no =>
    intro hD h3 tk3 K3
    have F3 := Fr.stay (by k_asm) K3
    have N3 := News.stay N2 K3
    clear H1 H2 hr
    (try clear F2)
    (try clear N2)
    repeat' ((fail_if_success (with_reducible show wpAny _ _ (call (Value.ref 318) _) _ _ _)); (first | (k_unfold; (try dsimp only)) | (k_end; wrow_close) | walk1 | (dsimp only; walk1) | (leave1; walk_say "STEP leave1"; try dsimp only) | fail "no step"))
    (with_reducible rename News h₀ L _ base => N9)
    refine' due_spec ?X ⟨?h, ?d, ?f, ?u, ?B, ?F, ?T, ?e, ?k⟩ hD (has_news N9) i1' i2' ?_
    (case X => k_asm); (case h => exact rfl); (case d => exact Nat.le_of_ble_eq_true rfl); (case f => exact rfl); (case u => exact Nat.le_of_ble_eq_true rfl); (case B => k_asm); (case F => k_asm); (case T => k_asm); (case e => first | exact rfl | assumption); (case k => first | exact rfl | assumption);
    intro h4 tk4 v K4 RV
    cases RV
    have F4 := Fr.stay (by k_asm) K4
    have N4 := News.stay N9 K4
    clear N9
    repeat' ((fail_if_success (with_reducible show Q Flow.next _)); (first | (k_unfold; (try dsimp only)) | (k_end; wrow_close) | walk1 | (dsimp only; walk1) | (leave1; walk_say "STEP leave1"; try dsimp only) | fail "no step"))
    (with_reducible rename Fr h₀ L _ _ => F9)
    refine hQ _ _ _ F9 (by k_asm) ?_
    repeat (first | exact hm | refine (if_neg (by decide +kernel)).trans ?_))
  (case round =>
    intro hD h3 tk3 e te FL
    refine caught_sig B F2 N2 FL X (topRead_of T) ?sy (fun h5 tk5 oe dx m1 F5 N5 he hce hdx hnc hns hv => ?_)
    (case sy => repeat (first | exact hm | refine (if_neg (by decide +kernel)).trans ?_))
    clear FL hr H1 H2
    repeat' ((fail_if_success (with_reducible show wpAny _ _ (getAttr (Value.ref _) _ _) _ _ _)); (first | (k_unfold; (try dsimp only)) | (k_end; wrow_close) | walk1 | (dsimp only; walk1) | (leave1; walk_say "STEP leave1"; try dsimp only) | fail "no step"))
    refine sym_get (Frag.In.keeps X (Fr.keep F5)) he hce hdx hnc hns hv rfl ?_
    repeat' ((fail_if_success (with_reducible show wpAny _ _ (call (Value.ref 318) _) _ _ _)); (first | (k_unfold; (try dsimp only)) | (k_end; wrow_close) | walk1 | (dsimp only; walk1) | (leave1; walk_say "STEP leave1"; try dsimp only) | fail "no step"))
    (with_reducible rename News h₀ L _ base => N9)
    refine' due_spec ?X ⟨?h, ?d, ?f, ?u, ?B, ?F, ?T, ?e, ?k⟩ hD (has_news N9) i1' i2' ?_
    (case X => k_asm); (case h => exact rfl); (case d => exact Nat.le_of_ble_eq_true rfl); (case f => exact rfl); (case u => exact Nat.le_of_ble_eq_true rfl); (case B => k_asm); (case F => k_asm); (case T => k_asm); (case e => first | exact rfl | assumption); (case k => first | exact rfl | assumption);
    intro h4 tk4 v K4 RV
    cases RV
    have F4 := Fr.stay (by k_asm) K4
    have N4 := News.stay N9 K4
    clear N9
    repeat' ((fail_if_success (with_reducible show Q Flow.next _)); (first | (k_unfold; (try dsimp only)) | (k_end; wrow_close) | walk1 | (dsimp only; walk1) | (leave1; walk_say "STEP leave1"; try dsimp only) | fail "no step"))
    (with_reducible rename Fr h₀ L _ _ => F9)
    refine hQ _ _ _ F9 (by k_asm) ?_
    repeat (first | exact hm | refine (if_neg (by decide +kernel)).trans ?_))
end


section
variable {prog : Program} {w : World} {A : Around} {E : Value → Shared → Prop} {s : Shared} {env : Env} {h₀ : Heap} {target : Expr} {body : List Stmt} {Q : Flow → Shared → Prop}
theorem items_ind {I : Addr} {cl : String} {keep : List (Addr × Obj)} {Inv : List Value → (Str → Option Value) → List (Addr × Obj) → Prop}
    (step : ∀ v r m news, Inv (v :: r) m news → ∀ (it : Obj) h tk, it.cls = .type cl → Fr h₀ env.locals h m → News h₀ env.locals h ((I, it) :: news) →
      wpAny (model prog w) A (assign target env v) (fun _ s₂ => wpAny (model prog w) A (execs body env) (UnrPostW h₀ env.locals { s with heap := h, toks := tk } [(I, it)] (fun m' n' => SubL keep n' ∧ Inv r m' n') Q) E s₂) E { s with heap := h, toks := tk })
    (fin : ∀ m news, Inv [] m news → ∀ h tk, Fr h₀ env.locals h m → News h₀ env.locals h news → Q .next { s with heap := h, toks := tk }) :
    ∀ vs m news, Inv vs m news → ItemsRest prog w A E h₀ env target body Q s [(I, cl)] keep (vs.map .val) m news := by
  intro vs
  induction vs with
  | nil => intro m news h; exact fin m news h
  | cons v r ih =>
    intro m news h
    refine ItemsRest.val ?_
    intro hh tk a1 it hit N
    have up : ∀ s₂, UnrEndW h₀ env.locals { s with heap := hh, toks := tk } [(I, it)] (fun m' n' => SubL keep n' ∧ Inv r m' n') s₂ → UnrEndW h₀ env.locals { s with heap := hh, toks := tk } [(I, it)] (fun m' n' => SubL keep n' ∧ ItemsRest prog w A E h₀ env target body Q s [(I, cl)] keep (r.map .val) m' n') s₂ := by
      rintro s₂ ⟨b1, b2, b3, b4, b5, b6, b7, b8, b9, b10⟩
      exact ⟨b1, b2, b3, b4, b5, b6, b7, b8, b9, ih _ _ b10⟩
    refine wpAny_mono (step v r m news h it hh tk hit a1 N) (fun _ s₂ q => wpAny_mono q (fun f s₃ q => ?_) fun _ _ e => e) fun _ _ e => e
    cases f with
    | ret v => exact q
    | brk => exact q
    | next => exact up _ q
    | cont => exact up _ q
theorem items3 {I : Addr} {cl : String} {keep news : List (Addr × Obj)} {n : Str} {m : Str → Option Value} {a b c : Addr} (hm : m n = none)
    (step : ∀ v m, (v = Value.ref a ∨ v = .ref b ∨ v = .ref c) → m n = none → ∀ (it : Obj) h tk, it.cls = .type cl → Fr h₀ env.locals h m → News h₀ env.locals h ((I, it) :: news) →
      wpAny (model prog w) A (assign target env v) (fun _ s₂ => wpAny (model prog w) A (execs body env) (UnrPostW h₀ env.locals { s with heap := h, toks := tk } [(I, it)] (fun m' n' => SubL keep n' ∧ n' = news ∧ m' n = none) Q) E s₂) E { s with heap := h, toks := tk })
    (fin : ∀ m, m n = none → ∀ h tk, Fr h₀ env.locals h m → News h₀ env.locals h news → Q .next { s with heap := h, toks := tk }) :
    ItemsRest prog w A E h₀ env target body Q s [(I, cl)] keep ([Value.ref a, .ref b, .ref c].map .val) m news := by
  refine items_ind (Inv := fun r m' news' => news' = news ∧ m' n = none ∧ ∀ v ∈ r, v = Value.ref a ∨ v = .ref b ∨ v = .ref c) ?_ ?_ _ _ _ ⟨rfl, hm, fun v hv => by simpa using hv⟩
  · rintro v r m' news' ⟨rfl, hm', hv⟩ it h tk hit F N
    refine wpAny_mono (step v m' (hv v (.head _)) hm' it h tk hit F N) (fun _ s₂ q => wpAny_mono q (fun f s₃ q => ?_) fun _ _ e => e) fun _ _ e => e
    have up : ∀ s₂, UnrEndW h₀ env.locals { s with heap := h, toks := tk } [(I, it)] (fun m' n' => SubL keep n' ∧ n' = news' ∧ m' n = none) s₂ → UnrEndW h₀ env.locals { s with heap := h, toks := tk } [(I, it)] (fun m' n' => SubL keep n' ∧ n' = news' ∧ m' n = none ∧ ∀ v ∈ r, v = Value.ref a ∨ v = .ref b ∨ v = .ref c) s₂ := by
      rintro s₂ ⟨b1, b2, b3, b4, b5, b6, b7, b8, b9, b10, b11⟩
      exact ⟨b1, b2, b3, b4, b5, b6, b7, b8, b9, b10, b11, fun v z => hv v (.tail _ z)⟩
    cases f with
    | ret v => exact q
    | brk => exact q
    | next => exact up _ q
    | cont => exact up _ q
  · rintro m' news' ⟨rfl, hm', _⟩ h tk F N
    exact fin m' hm' h tk F N
end
theorem TriIn.mono {R R' : List (Addr × Obj)} {T : Addr} {ns ms : List Int} {t : Int} (h : TriIn R T ns ms t) (k : ∀ p ∈ R, p ∈ R') : TriIn R' T ns ms t := by
  obtain ⟨a, b, va, vb, na, nb, tt, j1, j2, j3, j4, j5, j6, j7⟩ := h
  exact ⟨a, b, va, vb, na, nb, tt, k _ j1, k _ j2, k _ j3, j4, j5, j6, j7⟩
theorem tail5 {a b c d e : Addr × Obj} {base : List (Addr × Obj)} : ∀ p ∈ base, p ∈ a :: b :: c :: d :: e :: base := fun p hp => .tail _ (.tail _ (.tail _ (.tail _ (.tail _ hp))))
/-- a list's tuple with what the law knows of it -/
structure Good (base : List (Addr × Obj)) (T : Addr) (ns ms : List Int) (t : Int) : Prop where
  tri : TriIn base T ns ms t
  cs : ∀ c ∈ ns ++ ms, 0 ≤ c ∧ c < 6
  l : ns.length ≤ 5
section
theorem loop_spec {w : World} {mean : ExcName → Option Value} {mg mb : Str → Option Value} {h₀ : Heap} {L f : Addr} {cdv : Value} {body : List Stmt} {scope : Scope} {s : Shared} {m₀ : Str → Option Value} {T1 T2 : Addr} {base : List (Addr × Obj)} {ns ms ns' ms' : List Int} {t t' : Int} {Q : Flow → Shared → Prop} {E : Value → Shared → Prop}
    (hb : body = (fdB (stAt PW 32)).drop 5) (hs : scope = fdS (stAt PW 32)) (X : (hd.heap_39 w.params).In h₀) (B : Below callerA h₀ [] h₀) (T : Top hd.view_39 LL mean mg mb h₀)
    (F : Fr h₀ L s.heap (fun y => if y = Str.ofString "_law_one_here" then some (.ref T1) else if y = Str.ofString "_law_other" then some (.ref T2) else m₀ y)) (N : News h₀ L s.heap base) (hm : m₀ (Str.ofString "symbol") = none)
    (g1 : Good base T1 ns ms t) (g2 : Good base T2 ns' ms' t') (l3 : ms.length * ms'.length ≤ 32) (l4 : ms.length ≤ 5)
    (hE : PassesOwn (model PySem.Challenge.rw_pq0276_01.row.toRowW.prog w) (callerA.deeper (envOf (Str.ofString "law") scope L f cdv)) (envOf (Str.ofString "law") scope L f cdv) E)
    (hQ : ∀ h' tk' m', Fr h₀ L h' m' → Q (.ret (.bool true)) { s with heap := h', toks := tk' }) :
    wpAny (model PySem.Challenge.rw_pq0276_01.row.toRowW.prog w) (callerA.deeper (envOf (Str.ofString "law") scope L f cdv)) (execs body (envOf (Str.ofString "law") scope L f cdv)) Q E s := by
  (conv at hb => rhs; whnf)
  (conv at hs => rhs; whnf)
  subst hb hs
  revert X; k_fill; intro X
  repeat' ((fail_if_success (with_reducible show wpAny _ _ (exec (Stmt.For _ _ _ _ _) _) _ _ _)); (first | (k_unfold; (try dsimp only)) | (k_end; wrow_close) | walk1 | (dsimp only; walk1) | (leave1; walk_say "STEP leave1"; try dsimp only) | fail "no step"))
  refine For_turns (by k_asm) ?_ (by intro _; rfl) hE
  repeat' ((fail_if_success (with_reducible show wpAny _ _ (pyIter _) _ _ _)); (first | (k_unfold; (try dsimp only)) | (k_end; wrow_close) | walk1 | (dsimp only; walk1) | (leave1; walk_say "STEP leave1"; try dsimp only) | fail "no step"))
  (with_reducible rename News h₀ L _ _ => N9)
  (with_reducible rename Fr h₀ L _ _ => F9)
  refine iter_tupTurns (vs := [.ref _, .ref _, .ref _]) rfl F9 N9 (.head _) rfl rfl (fun I lI => ?_)
  refine items3 (n := Str.ofString "symbol") ?sy ?step ?fin
  (case sy => repeat (first | exact hm | refine (if_neg (by decide +kernel)).trans ?_))
  (case fin =>
    intro m9 hm9 h4 tk4 F4 N4
    k_steps
    exact hQ _ _ _ F4)
  (case step =>
    intro v m9 hv hm9 it h4 tk4 hit F4 N4
    rcases hv with rfl | rfl | rfl
    case inl =>
      repeat' ((fail_if_success (with_reducible show wpAny _ _ (execs (_ :: _) _) _ _ _)); (first | (k_unfold; (try dsimp only)) | (k_end; wrow_close) | walk1 | (dsimp only; walk1) | (leave1; walk_say "STEP leave1"; try dsimp only) | fail "no step"))
      (with_reducible rename News h₀ L _ _ => N8)
      (with_reducible rename Fr h₀ L _ _ => F8)
      refine turn_spec rfl rfl X B T F8 N8 hm9 (g1.tri.mono tail5) (g2.tri.mono tail5) g1.cs g2.cs g1.l g2.l l3 (fun h5 tk5 m5 F5 N5 hm5 => ?_)
      exact ⟨h5, tk5, m5, _, rfl, F5, N5, fun p hp q hq => by rw [List.mem_singleton.mp hq]; exact Nat.ne_of_lt (lI p hp), ⟨.head _, trivial⟩, rfl, hm5⟩
    case inr.inl =>
      repeat' ((fail_if_success (with_reducible show wpAny _ _ (execs (_ :: _) _) _ _ _)); (first | (k_unfold; (try dsimp only)) | (k_end; wrow_close) | walk1 | (dsimp only; walk1) | (leave1; walk_say "STEP leave1"; try dsimp only) | fail "no step"))
      (with_reducible rename News h₀ L _ _ => N8)
      (with_reducible rename Fr h₀ L _ _ => F8)
      refine turn_spec rfl rfl X B T F8 N8 hm9 (g2.tri.mono tail5) (g1.tri.mono tail5) g2.cs g1.cs g2.l g1.l (by rw [Nat.mul_comm]; exact l3) (fun h5 tk5 m5 F5 N5 hm5 => ?_)
      exact ⟨h5, tk5, m5, _, rfl, F5, N5, fun p hp q hq => by rw [List.mem_singleton.mp hq]; exact Nat.ne_of_lt (lI p hp), ⟨.head _, trivial⟩, rfl, hm5⟩
    case inr.inr =>
      repeat' ((fail_if_success (with_reducible show wpAny _ _ (execs (_ :: _) _) _ _ _)); (first | (k_unfold; (try dsimp only)) | (k_end; wrow_close) | walk1 | (dsimp only; walk1) | (leave1; walk_say "STEP leave1"; try dsimp only) | fail "no step"))
      (with_reducible rename News h₀ L _ _ => N8)
      (with_reducible rename Fr h₀ L _ _ => F8)
      refine turn_spec rfl rfl X B T F8 N8 hm9 (g1.tri.mono tail5) (g1.tri.mono tail5) g1.cs g1.cs g1.l g1.l (Nat.le_trans (Nat.mul_le_mul l4 l4) (by decide)) (fun h5 tk5 m5 F5 N5 hm5 => ?_)
      exact ⟨h5, tk5, m5, _, rfl, F5, N5, fun p hp q hq => by rw [List.mem_singleton.mp hq]; exact Nat.ne_of_lt (lI p hp), ⟨.head _, trivial⟩, rfl, hm5⟩)
end

section
theorem loop_at {w : World} {mean : ExcName → Option Value} {mg mb : Str → Option Value} {h₀ : Heap} {L f : Addr} {cdv : Value} {body : List Stmt} {scope : Scope} {s : Shared} {m : Str → Option Value} {T1 T2 : Addr} {base : List (Addr × Obj)} {ns ms ns' ms' : List Int} {t t' : Int} {Q : Flow → Shared → Prop} {E : Value → Shared → Prop}
    (hb : body = (fdB (stAt PW 32)).drop 5) (hs : scope = fdS (stAt PW 32)) (X : (hd.heap_39 w.params).In h₀) (B : Below callerA h₀ [] h₀) (T : Top hd.view_39 LL mean mg mb h₀)
    (F : Fr h₀ L s.heap m) (N : News h₀ L s.heap base) (h1 : m (Str.ofString "_law_one_here") = some (.ref T1)) (h2 : m (Str.ofString "_law_other") = some (.ref T2)) (hm : m (Str.ofString "symbol") = none)
    (g1 : Good base T1 ns ms t) (g2 : Good base T2 ns' ms' t') (l3 : ms.length * ms'.length ≤ 32) (l4 : ms.length ≤ 5)
    (hE : PassesOwn (model PySem.Challenge.rw_pq0276_01.row.toRowW.prog w) (callerA.deeper (envOf (Str.ofString "law") scope L f cdv)) (envOf (Str.ofString "law") scope L f cdv) E)
    (hQ : ∀ h' tk' m', Fr h₀ L h' m' → Q (.ret (.bool true)) { s with heap := h', toks := tk' }) :
    wpAny (model PySem.Challenge.rw_pq0276_01.row.toRowW.prog w) (callerA.deeper (envOf (Str.ofString "law") scope L f cdv)) (execs body (envOf (Str.ofString "law") scope L f cdv)) Q E s := by
  have em : m = fun y => if y = Str.ofString "_law_one_here" then some (.ref T1) else if y = Str.ofString "_law_other" then some (.ref T2) else m y := by
    funext y
    by_cases q : y = Str.ofString "_law_one_here"
    · rw [if_pos q, q, h1]
    · by_cases q2 : y = Str.ofString "_law_other"
      · rw [if_neg q, if_pos q2, q2, h2]
      · rw [if_neg q, if_neg q2]
  rw [em] at F
  exact loop_spec hb hs X B T F N hm g1 g2 l3 l4 hE hQ
theorem draw_more {w : World} {mean : ExcName → Option Value} {mg mb : Str → Option Value} {A A₀ : Around} {base h₀ : Heap} {outer : List Env} {L : Addr} {env : Env} {s : Shared} {m : Str → Option Value} {Q E : Value → Shared → Prop} {D I : Addr} {own rest : List (Addr × Obj)} {e0 : Addr × Obj} {T a b d5 : Addr} {t : Int} {tt : Tok} {o5 : Obj} {many : Int} {tn : Tok} (X : (hd.heap_39 w.params).In h₀) (S : Site 380 3800 mean mg mb A A₀ base outer h₀ L env s m) (N : News h₀ L s.heap (e0 :: (T, triO a b t tt) :: (d5, o5) :: (own ++ rest))) (O : DeckO D I own) (off : ∀ p ∈ rest, p.1 ≠ D ∧ p.1 ≠ I) (f5 : d5 ≠ D ∧ d5 ≠ I) (hDI : @Ne Nat D I) (hn : 0 < many) (hn9 : many < 100)
    (h : ∀ h' tk' own' x tx, Fr h₀ L h' m → News h₀ L h' (own' ++ ((T, triO a b t tt) :: (d5, o5) :: rest)) → DeckO D I own' → 0 ≤ x → x < many → Q (.int x tx) { s with heap := h', toks := tk' }) :
    wpAny (model PySem.Challenge.rw_pq0276_01.row.toRowW.prog w) A (call (.ref 285) [.ref D, .int many tn]) Q E s :=
  draw_led (rest := (T, triO a b t tt) :: (d5, o5) :: rest) X S N O (fun p hp => .tail _ (.tail _ (.tail _ (List.mem_append_left _ hp)))) (fun p hp => by
    rcases List.mem_cons.mp hp with rfl | hp
    · exact .tail _ (.head _)
    rcases List.mem_cons.mp hp with rfl | hp
    · exact .tail _ (.tail _ (.head _))
    · exact .tail _ (.tail _ (.tail _ (List.mem_append_right _ hp)))) (cell_offs (tup_off (news_sub N (fun p hp => by
      rcases List.mem_cons.mp hp with rfl | hp
      · exact .tail _ (.head _)
      · exact .tail _ (.tail _ (.tail _ hp)))) O) (cell_offs f5 off)) hDI hn hn9 h
theorem deck_lt {D I d : Addr} {own rest : List (Addr × Obj)} (O : DeckO D I own) (l : ∀ p ∈ own ++ rest, p.1 < d) : d ≠ D ∧ d ≠ I := by
  obtain ⟨⟨i1, n1, m1⟩, i2, n2, m2⟩ := O.has
  exact ⟨Nat.ne_of_gt (l _ (List.mem_append_left _ m1)), Nat.ne_of_gt (l _ (List.mem_append_left _ m2))⟩
theorem good_of {T a b : Addr} {va vb : List Value} {na nb : Nat} {ns ms : List Int} {t : Int} {tt : Tok} {base : List (Addr × Obj)} (i1 : (T, triO a b t tt) ∈ base) (i2 : (a, W.listOf va.toArray na) ∈ base) (i3 : (b, W.listOf vb.toArray nb) ∈ base) (z1 : IntsAre va ns) (z2 : IntsAre vb ms)
    (c1 : ∀ c ∈ ns, 0 ≤ c ∧ c < 6) (c2 : ∀ c ∈ ms, 0 ≤ c ∧ c < 6) (l1 : ns.length ≤ 5) (l2 : ms.length ≤ 20) : Good base T ns ms t :=
  ⟨⟨a, b, va, vb, na, nb, tt, i1, i2, i3, z1, z2, by rw [z1.length]; omega, by rw [z2.length]; omega⟩, fun c hc => (List.mem_append.mp hc).elim (c1 c) (c2 c), l1⟩
end

section
theorem law_body {w : World} {mean : ExcName → Option Value} {mg mb : Str → Option Value} {h₀ : Heap} {L f a : Addr} {cdv : Value} {body : List Stmt} {scope : Scope} {s : Shared} {va : List Value} {ns : List Int} {Q : Flow → Shared → Prop} {E : Value → Shared → Prop}
    (hb : body = fdB (stAt PW 32)) (hs : scope = fdS (stAt PW 32)) (X : (hd.heap_39 w.params).In h₀) (B : Below callerA h₀ [] h₀) (T : Top hd.view_39 LL mean mg mb h₀)
    (F : Fr h₀ L s.heap (fun x => List.lookup x [(Str.ofString "script", Value.ref a)].reverse)) (il : h₀.IsList a va.toArray) (za : IntsAre va ns) (la : va.length ≤ 1000000)
    (hE : PassesOwn (model PySem.Challenge.rw_pq0276_01.row.toRowW.prog w) (callerA.deeper (envOf (Str.ofString "law") scope L f cdv)) (envOf (Str.ofString "law") scope L f cdv) E)
    (hQ : ∀ h' tk' m', Fr h₀ L h' m' → Q (.ret (.bool true)) { s with heap := h', toks := tk' }) :
    wpAny (model PySem.Challenge.rw_pq0276_01.row.toRowW.prog w) (callerA.deeper (envOf (Str.ofString "law") scope L f cdv)) (execs body (envOf (Str.ofString "law") scope L f cdv)) Q E s := by
  (conv at hb => rhs; whnf)
  (conv at hs => rhs; whnf)
  subst hb hs
  revert X; k_fill; intro X
  have N0 : News h₀ L s.heap [] := News.nil
  repeat' ((fail_if_success (with_reducible show wpAny _ _ (call (Value.ref 278) _) _ _ _)); (first | (k_unfold; (try dsimp only)) | (k_end; wrow_close) | walk1 | (dsimp only; walk1) | (leave1; walk_say "STEP leave1"; try dsimp only) | fail "no step"))
  refine' deck_spec ?X ⟨?h, ?d, ?f, ?u, ?B, ?F, ?T, ?e, ?k⟩ (isList_fr il (by k_asm)) za la ?_
  (case X => k_asm); (case h => exact rfl); (case d => exact Nat.le_of_ble_eq_true rfl); (case f => exact rfl); (case u => exact Nat.le_of_ble_eq_true rfl); (case B => k_asm); (case F => k_asm); (case T => k_asm); (case e => first | exact rfl | assumption); (case k => first | exact rfl | assumption);
  intro h1 tk1 D I own1 K1 Y1 O1 hDI
  have F1 := Fr.stay (by k_asm) K1
  have N1 : News h₀ L h1 (own1 ++ []) := by rw [List.append_nil]; exact Newly.news Y1 (by k_asm)
  clear K1 Y1
  (try clear N0)
  repeat' ((fail_if_success (with_reducible show wpAny _ _ (call (Value.ref 323) _) _ _ _)); (first | (k_unfold; (try dsimp only)) | (k_end; wrow_close) | walk1 | (dsimp only; walk1) | (leave1; walk_say "STEP leave1"; try dsimp only) | fail "no step"))
  (with_reducible rename News h₀ L _ _ => N9)
  refine' drawn_spec ?X ⟨?h, ?d, ?f, ?u, ?B, ?F, ?T, ?e, ?k⟩ N9 O1 hDI (by decide) (by decide) (fun p hp => nomatch hp) ?_
  (case X => k_asm); (case h => exact rfl); (case d => exact Nat.le_of_ble_eq_true rfl); (case f => exact rfl); (case u => exact Nat.le_of_ble_eq_true rfl); (case B => k_asm); (case F => k_asm); (case T => k_asm); (case e => first | exact rfl | assumption); (case k => first | exact rfl | assumption);
  intro h2 tk2 T1 a1 b1 va1 vb1 na1 nb1 ns1 ms1 t1 tt1 own2 F2 N2 O2 oT oa ob z1 z2 c1 c2 l1 l2 t0 t3 tz
  clear N9
  repeat' ((fail_if_success (with_reducible show wpAny _ _ (call (Value.ref 285) _) _ _ _)); (first | (k_unfold; (try dsimp only)) | (k_end; wrow_close) | walk1 | (dsimp only; walk1) | (leave1; walk_say "STEP leave1"; try dsimp only) | fail "no step"))
  (with_reducible rename News h₀ L _ _ => N9)
  refine' draw_led ?X ⟨?h, ?d, ?f, ?u, ?B, ?F, ?T, ?e, ?k⟩ (rest := [(T1, triO a1 b1 t1 tt1), (a1, W.listOf va1.toArray na1), (b1, W.listOf vb1.toArray nb1)]) N9 O2 (fun p hp => by simp [hp]) (fun p hp => by simp at hp ⊢; rcases hp with h | h | h <;> simp [h]) (cell_offs oT (cell_offs oa (cell_offs ob (fun p hp => nomatch hp)))) hDI (by decide) (by decide) ?_
  (case X => k_asm); (case h => exact rfl); (case d => exact Nat.le_of_ble_eq_true rfl); (case f => exact rfl); (case u => exact Nat.le_of_ble_eq_true rfl); (case B => k_asm); (case F => k_asm); (case T => k_asm); (case e => first | exact rfl | assumption); (case k => first | exact rfl | assumption);
  intro h3 tk3 own3 x3 tx3 F3 N3 O3 x30 x31
  clear N9
  have q1 := z1.length
  have q2 := z2.length
  have c6 : ∀ c ∈ ms1, 0 ≤ c ∧ c < 6 := fun c hc => ⟨(c2 c hc).1, by have := (c2 c hc).2; omega⟩
  repeat' ((fail_if_success (with_reducible show wpAny _ _ (call (Value.ref 323) _) _ _ _)); (fail_if_success (with_reducible show wpAny _ _ (subscriptTail _ _ _ _) _ _ _)); (first | (k_unfold; (try dsimp only)) | (k_end; wrow_close) | walk1 | (dsimp only; walk1) | (leave1; walk_say "STEP leave1"; try dsimp only) | fail "no step"))
  · obtain rfl : x3 = 0 := by assumption
    (with_reducible rename News h₀ L _ _ => N9)
    refine' drawn_spec ?X ⟨?h, ?d, ?f, ?u, ?B, ?F, ?T, ?e, ?k⟩ (rest := [(T1, triO a1 b1 t1 tt1), (a1, W.listOf va1.toArray na1), (b1, W.listOf vb1.toArray nb1)]) N9 O3 hDI (by decide) (by decide) (cell_offs oT (cell_offs oa (cell_offs ob (fun p hp => nomatch hp)))) ?_
    (case X => k_asm); (case h => exact rfl); (case d => exact Nat.le_of_ble_eq_true rfl); (case f => exact rfl); (case u => exact Nat.le_of_ble_eq_true rfl); (case B => k_asm); (case F => k_asm); (case T => k_asm); (case e => first | exact rfl | assumption); (case k => first | exact rfl | assumption);
    intro h4 tk4 T2 a2 b2 va2 vb2 na2 nb2 ns2 ms2 t2 tt2 own4 F4 N4 O4 pT pa pb y1 y2 d1 d2 k1 k2 u0 u3 uz
    clear N9
    have r1 := y1.length
    have r2 := y2.length
    have d6 : ∀ c ∈ ms2, 0 ≤ c ∧ c < 6 := fun c hc => ⟨(d2 c hc).1, by have := (d2 c hc).2; omega⟩
    repeat' ((fail_if_success (with_reducible show wpAny _ _ (execs (Stmt.For _ _ _ _ _ :: _) _) _ _ _)); (first | (k_unfold; (try dsimp only)) | (k_end; wrow_close) | walk1 | (dsimp only; walk1) | (leave1; walk_say "STEP leave1"; try dsimp only) | fail "no step"))
    (with_reducible rename News h₀ L _ _ => N9)
    (with_reducible rename Fr h₀ L _ _ => F9)
    refine' loop_at (T1 := T1) ?hb ?hs X B T ?F ?N ?h1 ?h2 ?sy (good_of (a := a1) (b := b1) (na := na1) (nb := nb1) (t := t1) (tt := tt1) ?m1 ?m2 ?m3 z1 z2 c1 c6 (by omega) (by omega)) (good_of (a := a2) (b := b2) (na := na2) (nb := nb2) (t := t2) (tt := tt2) ?n1 ?n2 ?n3 y1 y2 d1 d6 (by omega) (by omega)) (Nat.le_trans (Nat.mul_le_mul (show ms1.length ≤ 4 by omega) (show ms2.length ≤ 4 by omega)) (by decide)) (by omega) hE (fun h' tk' m' F' => hQ h' tk' m' F')
    (case hb => rfl)
    (case hs => rfl)
    (case F => exact F9)
    (case N => exact N9)
    (case h1 => repeat (first | exact if_pos rfl | refine (if_neg (by decide +kernel)).trans ?_))
    (case h2 => repeat (first | exact if_pos rfl | refine (if_neg (by decide +kernel)).trans ?_))
    (case sy => repeat (first | exact rfl | refine (if_neg (by decide +kernel)).trans ?_))
    (case m1 => repeat (first | exact List.Mem.head _ | refine List.Mem.tail _ ?_ | refine List.mem_append_right _ ?_))
    (case m2 => repeat (first | exact List.Mem.head _ | refine List.Mem.tail _ ?_ | refine List.mem_append_right _ ?_))
    (case m3 => repeat (first | exact List.Mem.head _ | refine List.Mem.tail _ ?_ | refine List.mem_append_right _ ?_))
    (case n1 => repeat (first | exact List.Mem.head _ | refine List.Mem.tail _ ?_ | refine List.mem_append_right _ ?_))
    (case n2 => repeat (first | exact List.Mem.head _ | refine List.Mem.tail _ ?_ | refine List.mem_append_right _ ?_))
    (case n3 => repeat (first | exact List.Mem.head _ | refine List.Mem.tail _ ?_ | refine List.mem_append_right _ ?_))
  · have hx : x3 = 1 ∨ x3 = 2 := by omega
    rcases hx with rfl | rfl
    · repeat' ((fail_if_success (with_reducible show wpAny _ _ (subscriptTail _ _ _ _) _ _ _)); (first | (k_unfold; (try dsimp only)) | (k_end; wrow_close) | walk1 | (dsimp only; walk1) | (leave1; walk_say "STEP leave1"; try dsimp only) | fail "no step"))
      (with_reducible rename News h₀ L _ _ => N9)
      refine item_tuple ⟨_, (N9 (T1, triO a1 b1 t1 tt1) (by repeat (first | exact List.Mem.head _ | refine List.Mem.tail _ ?_ | refine List.mem_append_right _ ?_))).1, rfl, _, rfl⟩ (by decide) (by decide) (j := 0) rfl rfl ?_
      repeat' ((fail_if_success (with_reducible show wpAny _ _ (subscriptTail _ _ _ _) _ _ _)); (first | (k_unfold; (try dsimp only)) | (k_end; wrow_close) | walk1 | (dsimp only; walk1) | (leave1; walk_say "STEP leave1"; try dsimp only) | fail "no step"))
      (with_reducible rename News h₀ L _ _ => N9)
      refine item_tuple ⟨_, (N9 (T1, triO a1 b1 t1 tt1) (by repeat (first | exact List.Mem.head _ | refine List.Mem.tail _ ?_ | refine List.mem_append_right _ ?_))).1, rfl, _, rfl⟩ (by decide) (by decide) (j := 1) rfl rfl ?_
      repeat' ((fail_if_success (with_reducible show wpAny _ _ (binaryOp Operator.Mult _ _) _ _ _)); (first | (k_unfold; (try dsimp only)) | (k_end; wrow_close) | walk1 | (dsimp only; walk1) | (leave1; walk_say "STEP leave1"; try dsimp only) | fail "no step"))
      (with_reducible rename News h₀ L _ _ => N9)
      (with_reducible rename Fr h₀ L _ _ => F9)
      refine KMa.mul (ws := vb1) F9 N9 (News.isList N9 (show (b1, W.listOf vb1.toArray nb1) ∈ _ by repeat (first | exact List.Mem.head _ | refine List.Mem.tail _ ?_ | refine List.mem_append_right _ ?_))) (by decide) (by decide) (show vb1.length * 1 ≤ 256 by omega) (show (List.replicate 1 vb1).flatten = vb1 by simp) ?_
      intro D5 h5 F5 N5 l5
      clear N9 F9
      repeat' ((fail_if_success (with_reducible show wpAny _ _ (subscriptTail _ _ _ _) _ _ _)); (first | (k_unfold; (try dsimp only)) | (k_end; wrow_close) | walk1 | (dsimp only; walk1) | (leave1; walk_say "STEP leave1"; try dsimp only) | fail "no step"))
      (with_reducible rename News h₀ L _ _ => N9)
      refine item_tuple ⟨_, (N9 (T1, triO a1 b1 t1 tt1) (by repeat (first | exact List.Mem.head _ | refine List.Mem.tail _ ?_ | refine List.mem_append_right _ ?_))).1, rfl, _, rfl⟩ (by decide) (by decide) (j := 2) rfl rfl ?_
      repeat' ((fail_if_success (with_reducible show wpAny _ _ (execs (Stmt.For _ _ _ _ _ :: _) _) _ _ _)); (first | (k_unfold; (try dsimp only)) | (k_end; wrow_close) | walk1 | (dsimp only; walk1) | (leave1; walk_say "STEP leave1"; try dsimp only) | fail "no step"))
      (with_reducible rename News h₀ L _ _ => N9)
      (with_reducible rename Fr h₀ L _ _ => F9)
      refine' loop_at (T1 := T1) ?hb ?hs X B T ?F ?N ?h1 ?h2 ?sy (good_of (a := a1) (b := b1) (na := na1) (nb := nb1) (t := t1) (tt := tt1) ?m1 ?m2 ?m3 z1 z2 c1 c6 (by omega) (by omega)) (good_of (a := a1) (b := D5) (na := na1) (nb := 0) (t := t1) (tt := tt1) ?n1 ?n2 ?n3 z1 z2 c1 c6 (by omega) (by omega)) (Nat.le_trans (Nat.mul_le_mul (show ms1.length ≤ 4 by omega) (show ms1.length ≤ 4 by omega)) (by decide)) (by omega) hE (fun h' tk' m' F' => hQ h' tk' m' F')
      (case hb => rfl)
      (case hs => rfl)
      (case F => exact F9)
      (case N => exact N9)
      (case h1 => repeat (first | exact if_pos rfl | refine (if_neg (by decide +kernel)).trans ?_))
      (case h2 => repeat (first | exact if_pos rfl | refine (if_neg (by decide +kernel)).trans ?_))
      (case sy => repeat (first | exact rfl | refine (if_neg (by decide +kernel)).trans ?_))
      (case m1 => repeat (first | exact List.Mem.head _ | refine List.Mem.tail _ ?_ | refine List.mem_append_right _ ?_))
      (case m2 => repeat (first | exact List.Mem.head _ | refine List.Mem.tail _ ?_ | refine List.mem_append_right _ ?_))
      (case m3 => repeat (first | exact List.Mem.head _ | refine List.Mem.tail _ ?_ | refine List.mem_append_right _ ?_))
      (case n1 => repeat (first | exact List.Mem.head _ | refine List.Mem.tail _ ?_ | refine List.mem_append_right _ ?_))
      (case n2 => repeat (first | exact List.Mem.head _ | refine List.Mem.tail _ ?_ | refine List.mem_append_right _ ?_))
      (case n3 => repeat (first | exact List.Mem.head _ | refine List.Mem.tail _ ?_ | refine List.mem_append_right _ ?_))
    · repeat' ((fail_if_success (with_reducible show wpAny _ _ (subscriptTail _ _ _ _) _ _ _)); (first | (k_unfold; (try dsimp only)) | (k_end; wrow_close) | walk1 | (dsimp only; walk1) | (leave1; walk_say "STEP leave1"; try dsimp only) | fail "no step"))
      (with_reducible rename News h₀ L _ _ => N9)
      refine item_tuple ⟨_, (N9 (T1, triO a1 b1 t1 tt1) (by repeat (first | exact List.Mem.head _ | refine List.Mem.tail _ ?_ | refine List.mem_append_right _ ?_))).1, rfl, _, rfl⟩ (by decide) (by decide) (j := 0) rfl rfl ?_
      repeat' ((fail_if_success (with_reducible show wpAny _ _ (subscriptTail _ _ _ _) _ _ _)); (first | (k_unfold; (try dsimp only)) | (k_end; wrow_close) | walk1 | (dsimp only; walk1) | (leave1; walk_say "STEP leave1"; try dsimp only) | fail "no step"))
      (with_reducible rename News h₀ L _ _ => N9)
      refine item_tuple ⟨_, (N9 (T1, triO a1 b1 t1 tt1) (by repeat (first | exact List.Mem.head _ | refine List.Mem.tail _ ?_ | refine List.mem_append_right _ ?_))).1, rfl, _, rfl⟩ (by decide) (by decide) (j := 1) rfl rfl ?_
      repeat' ((fail_if_success (with_reducible show wpAny _ _ (binaryOp Operator.Mult _ _) _ _ _)); (first | (k_unfold; (try dsimp only)) | (k_end; wrow_close) | walk1 | (dsimp only; walk1) | (leave1; walk_say "STEP leave1"; try dsimp only) | fail "no step"))
      (with_reducible rename News h₀ L _ _ => N9)
      (with_reducible rename Fr h₀ L _ _ => F9)
      refine KMa.mul (ws := vb1 ++ vb1) F9 N9 (News.isList N9 (show (b1, W.listOf vb1.toArray nb1) ∈ _ by repeat (first | exact List.Mem.head _ | refine List.Mem.tail _ ?_ | refine List.mem_append_right _ ?_))) (by decide) (by decide) (show vb1.length * 2 ≤ 256 by omega) (show (List.replicate 2 vb1).flatten = vb1 ++ vb1 by simp [List.replicate_succ]) ?_
      intro D5 h5 F5 N5 l5
      clear N9 F9
      repeat' ((fail_if_success (with_reducible show wpAny _ _ (subscriptTail _ _ _ _) _ _ _)); (first | (k_unfold; (try dsimp only)) | (k_end; wrow_close) | walk1 | (dsimp only; walk1) | (leave1; walk_say "STEP leave1"; try dsimp only) | fail "no step"))
      (with_reducible rename News h₀ L _ _ => N9)
      refine item_tuple ⟨_, (N9 (T1, triO a1 b1 t1 tt1) (by repeat (first | exact List.Mem.head _ | refine List.Mem.tail _ ?_ | refine List.mem_append_right _ ?_))).1, rfl, _, rfl⟩ (by decide) (by decide) (j := 2) rfl rfl ?_
      have zz := z2.append z2
      have oD := deck_lt O3 l5
      have cc : ∀ c ∈ ms1 ++ ms1, 0 ≤ c ∧ c < 6 := fun c hc => (List.mem_append.mp hc).elim (c6 c) (c6 c)
      have lz : (ms1 ++ ms1).length ≤ 8 := by rw [List.length_append]; omega
      repeat' ((fail_if_success (with_reducible show wpAny _ _ (subscriptTail _ _ _ _) _ _ _)); (first | (k_unfold; (try dsimp only)) | (k_end; wrow_close) | walk1 | (dsimp only; walk1) | (leave1; walk_say "STEP leave1"; try dsimp only) | fail "no step"))
      (with_reducible rename News h₀ L _ _ => N9)
      refine item_tuple ⟨_, (N9 (T1, triO a1 b1 t1 tt1) (by repeat (first | exact List.Mem.head _ | refine List.Mem.tail _ ?_ | refine List.mem_append_right _ ?_))).1, rfl, _, rfl⟩ (by decide) (by decide) (j := 1) rfl rfl ?_
      repeat' ((fail_if_success (with_reducible show wpAny _ _ (compareOp CmpOp.NotEq (Value.ref _) (Value.ref _)) _ _ _)); (first | (k_unfold; (try dsimp only)) | (k_end; wrow_close) | walk1 | (dsimp only; walk1) | (leave1; walk_say "STEP leave1"; try dsimp only) | fail "no step"))
      (with_reducible rename News h₀ L _ _ => N9)
      refine ne_intsK (News.isList N9 (show (b1, W.listOf vb1.toArray nb1) ∈ _ by repeat (first | exact List.Mem.head _ | refine List.Mem.tail _ ?_ | refine List.mem_append_right _ ?_))) z2 (News.isList (items := [].toArray) N9 (.head _)) IntsAre.nil (by units_room) ?_
      by_cases hm : ms1 = []
      · rw [decide_eq_true hm]
        repeat' ((fail_if_success (with_reducible show wpAny _ _ (execs (Stmt.For _ _ _ _ _ :: _) _) _ _ _)); (first | (k_unfold; (try dsimp only)) | (k_end; wrow_close) | walk1 | (dsimp only; walk1) | (leave1; walk_say "STEP leave1"; try dsimp only) | fail "no step"))
        (with_reducible rename News h₀ L _ _ => N9)
        (with_reducible rename Fr h₀ L _ _ => F9)
        refine' loop_at (T1 := T1) ?hb ?hs X B T ?F ?N ?h1 ?h2 ?sy (good_of (a := a1) (b := b1) (na := na1) (nb := nb1) (t := t1) (tt := tt1) ?m1 ?m2 ?m3 z1 z2 c1 c6 (by omega) (by omega)) (good_of (a := a1) (b := D5) (na := na1) (nb := 0) (t := t1) (tt := tt1) ?n1 ?n2 ?n3 z1 zz c1 cc (by omega) (by omega)) (Nat.le_trans (Nat.mul_le_mul (show ms1.length ≤ 4 by omega) lz) (by decide)) (by omega) hE (fun h' tk' m' F' => hQ h' tk' m' F')
        (case hb => rfl)
        (case hs => rfl)
        (case F => exact F9)
        (case N => exact N9)
        (case h1 => repeat (first | exact if_pos rfl | refine (if_neg (by decide +kernel)).trans ?_))
        (case h2 => repeat (first | exact if_pos rfl | refine (if_neg (by decide +kernel)).trans ?_))
        (case sy => repeat (first | exact rfl | refine (if_neg (by decide +kernel)).trans ?_))
        (case m1 => repeat (first | exact List.Mem.head _ | refine List.Mem.tail _ ?_ | refine List.mem_append_right _ ?_))
        (case m2 => repeat (first | exact List.Mem.head _ | refine List.Mem.tail _ ?_ | refine List.mem_append_right _ ?_))
        (case m3 => repeat (first | exact List.Mem.head _ | refine List.Mem.tail _ ?_ | refine List.mem_append_right _ ?_))
        (case n1 => repeat (first | exact List.Mem.head _ | refine List.Mem.tail _ ?_ | refine List.mem_append_right _ ?_))
        (case n2 => repeat (first | exact List.Mem.head _ | refine List.Mem.tail _ ?_ | refine List.mem_append_right _ ?_))
        (case n3 => repeat (first | exact List.Mem.head _ | refine List.Mem.tail _ ?_ | refine List.mem_append_right _ ?_))
      · rw [decide_eq_false hm]
        repeat' ((fail_if_success (with_reducible show wpAny _ _ (call (Value.ref 285) _) _ _ _)); (first | (k_unfold; (try dsimp only)) | (k_end; wrow_close) | walk1 | (dsimp only; walk1) | (leave1; walk_say "STEP leave1"; try dsimp only) | fail "no step"))
        (with_reducible rename News h₀ L _ _ => N9)
        refine' draw_more ?X ⟨?h, ?d, ?f, ?u, ?B, ?F, ?T, ?e, ?k⟩ N9 O3 (cell_offs oT (cell_offs oa (cell_offs ob (fun p hp => nomatch hp)))) oD hDI (by decide) (by decide) ?_
        (case X => k_asm); (case h => exact rfl); (case d => exact Nat.le_of_ble_eq_true rfl); (case f => exact rfl); (case u => exact Nat.le_of_ble_eq_true rfl); (case B => k_asm); (case F => k_asm); (case T => k_asm); (case e => first | exact rfl | assumption); (case k => first | exact rfl | assumption);
        intro h6 tk6 own6 x6 tx6 F6 N6 O6 x60 x61
        clear N9
        have hp := List.length_pos_iff.mpr hm
        repeat' ((fail_if_success (with_reducible show wpAny _ _ (execs (Stmt.For _ _ _ _ _ :: _) _) _ _ _)); (fail_if_success (with_reducible show wpAny _ _ (subscriptTail _ _ _ _) _ _ _)); (first | (k_unfold; (try dsimp only)) | (k_end; wrow_close) | walk1 | (dsimp only; walk1) | (leave1; walk_say "STEP leave1"; try dsimp only) | fail "no step"))
        · repeat' ((fail_if_success (with_reducible show wpAny _ _ (subscriptTail _ _ _ _) _ _ _)); (first | (k_unfold; (try dsimp only)) | (k_end; wrow_close) | walk1 | (dsimp only; walk1) | (leave1; walk_say "STEP leave1"; try dsimp only) | fail "no step"))
          (with_reducible rename News h₀ L _ _ => N9)
          refine item_tuple ⟨_, (N9 (T1, triO a1 b1 t1 tt1) (by repeat (first | exact List.Mem.head _ | refine List.Mem.tail _ ?_ | refine List.mem_append_right _ ?_))).1, rfl, _, rfl⟩ (by decide) (by decide) (j := 0) rfl rfl ?_
          repeat' ((fail_if_success (with_reducible show wpAny _ _ (subscriptTail _ _ _ _) _ _ _)); (first | (k_unfold; (try dsimp only)) | (k_end; wrow_close) | walk1 | (dsimp only; walk1) | (leave1; walk_say "STEP leave1"; try dsimp only) | fail "no step"))
          (with_reducible rename News h₀ L _ _ => N9)
          refine item_tuple ⟨_, (N9 (T1, triO a1 b1 t1 tt1) (by repeat (first | exact List.Mem.head _ | refine List.Mem.tail _ ?_ | refine List.mem_append_right _ ?_))).1, rfl, _, rfl⟩ (by decide) (by decide) (j := 1) rfl rfl ?_
          repeat' ((fail_if_success (with_reducible show wpAny _ _ (subscriptTail _ _ _ _) _ _ _)); (first | (k_unfold; (try dsimp only)) | (k_end; wrow_close) | walk1 | (dsimp only; walk1) | (leave1; walk_say "STEP leave1"; try dsimp only) | fail "no step"))
          (with_reducible rename News h₀ L _ _ => N9)
          (with_reducible rename Fr h₀ L _ _ => F9)
          refine kba_turn (value' := PySem.Expr.Name (PySem.Str.ofString "_") ⟨0, 0, 0, 0⟩) (fun _ => rfl) ?_
          refine' kmk_slice_ints (lo := none) (hi := some 1) F9 N9 (News.isList N9 (show (b1, W.listOf vb1.toArray nb1) ∈ _ by repeat (first | exact List.Mem.head _ | refine List.Mem.tail _ ?_ | refine List.mem_append_right _ ?_))) ?sp ?sq z2 (kmk_upto z2 (by decide)) rfl ?_ ?ss ?st ?sz
          (case sp => first | exact .none | exact .int _ _)
          (case sq => first | exact .none | exact .int _ _)
          (case ss => with_unfolding_all rfl)
          (case st => intro _; with_unfolding_all rfl)
          (case sz => rw [List.size_toArray, sizeLine_eq]; omega)
          intro D11 ws11 h11 F11 N11 l11 hI11 _ _
          clear N9 F9
          repeat' ((fail_if_success (with_reducible show wpAny _ _ (binaryOp Operator.Add _ _) _ _ _)); (first | (k_unfold; (try dsimp only)) | (k_end; wrow_close) | walk1 | (dsimp only; walk1) | (leave1; walk_say "STEP leave1"; try dsimp only) | fail "no step"))
          (with_reducible rename News h₀ L _ _ => N9)
          (with_reducible rename Fr h₀ L _ _ => F9)
          refine' kmk_add_ints F9 N9 (News.isList N9 (show (a1, W.listOf va1.toArray na1) ∈ _ by repeat (first | exact List.Mem.head _ | refine List.Mem.tail _ ?_ | refine List.mem_append_right _ ?_))) (News.isList N9 (show (D11, W.listOf ws11.toArray 0) ∈ _ by repeat (first | exact List.Mem.head _ | refine List.Mem.tail _ ?_ | refine List.mem_append_right _ ?_))) z1 hI11 ?_ ?z
          (case z => rw [sizeLine_eq]; simp only [List.length_take, List.length_drop]; omega)
          intro D12 ws12 h12 F12 N12 l12 hI12
          clear N9 F9
          repeat' ((fail_if_success (with_reducible show wpAny _ _ (subscriptTail _ _ _ _) _ _ _)); (first | (k_unfold; (try dsimp only)) | (k_end; wrow_close) | walk1 | (dsimp only; walk1) | (leave1; walk_say "STEP leave1"; try dsimp only) | fail "no step"))
          (with_reducible rename News h₀ L _ _ => N9)
          refine item_tuple ⟨_, (N9 (T1, triO a1 b1 t1 tt1) (by repeat (first | exact List.Mem.head _ | refine List.Mem.tail _ ?_ | refine List.mem_append_right _ ?_))).1, rfl, _, rfl⟩ (by decide) (by decide) (j := 1) rfl rfl ?_
          repeat' ((fail_if_success (with_reducible show wpAny _ _ (subscriptTail _ _ _ _) _ _ _)); (first | (k_unfold; (try dsimp only)) | (k_end; wrow_close) | walk1 | (dsimp only; walk1) | (leave1; walk_say "STEP leave1"; try dsimp only) | fail "no step"))
          (with_reducible rename News h₀ L _ _ => N9)
          (with_reducible rename Fr h₀ L _ _ => F9)
          refine kba_turn (value' := PySem.Expr.Name (PySem.Str.ofString "_") ⟨0, 0, 0, 0⟩) (fun _ => rfl) ?_
          refine' kmk_slice_ints (lo := some 1) (hi := none) F9 N9 (News.isList N9 (show (b1, W.listOf vb1.toArray nb1) ∈ _ by repeat (first | exact List.Mem.head _ | refine List.Mem.tail _ ?_ | refine List.mem_append_right _ ?_))) ?sp ?sq z2 (kmk_from z2 (by decide)) rfl ?_ ?ss ?st ?sz
          (case sp => first | exact .none | exact .int _ _)
          (case sq => first | exact .none | exact .int _ _)
          (case ss => with_unfolding_all rfl)
          (case st => intro _; with_unfolding_all rfl)
          (case sz => rw [List.size_toArray, sizeLine_eq]; omega)
          intro D13 ws13 h13 F13 N13 l13 hI13 _ _
          clear N9 F9
          repeat' ((fail_if_success (with_reducible show wpAny _ _ (subscriptTail _ _ _ _) _ _ _)); (first | (k_unfold; (try dsimp only)) | (k_end; wrow_close) | walk1 | (dsimp only; walk1) | (leave1; walk_say "STEP leave1"; try dsimp only) | fail "no step"))
          (with_reducible rename News h₀ L _ _ => N9)
          refine item_tuple ⟨_, (N9 (T1, triO a1 b1 t1 tt1) (by repeat (first | exact List.Mem.head _ | refine List.Mem.tail _ ?_ | refine List.mem_append_right _ ?_))).1, rfl, _, rfl⟩ (by decide) (by decide) (j := 1) rfl rfl ?_
          repeat' ((fail_if_success (with_reducible show wpAny _ _ (subscriptTail _ _ _ _) _ _ _)); (first | (k_unfold; (try dsimp only)) | (k_end; wrow_close) | walk1 | (dsimp only; walk1) | (leave1; walk_say "STEP leave1"; try dsimp only) | fail "no step"))
          (with_reducible rename News h₀ L _ _ => N9)
          (with_reducible rename Fr h₀ L _ _ => F9)
          refine kba_turn (value' := PySem.Expr.Name (PySem.Str.ofString "_") ⟨0, 0, 0, 0⟩) (fun _ => rfl) ?_
          refine' kmk_slice_ints (lo := none) (hi := some 1) F9 N9 (News.isList N9 (show (b1, W.listOf vb1.toArray nb1) ∈ _ by repeat (first | exact List.Mem.head _ | refine List.Mem.tail _ ?_ | refine List.mem_append_right _ ?_))) ?sp ?sq z2 (kmk_upto z2 (by decide)) rfl ?_ ?ss ?st ?sz
          (case sp => first | exact .none | exact .int _ _)
          (case sq => first | exact .none | exact .int _ _)
          (case ss => with_unfolding_all rfl)
          (case st => intro _; with_unfolding_all rfl)
          (case sz => rw [List.size_toArray, sizeLine_eq]; omega)
          intro D14 ws14 h14 F14 N14 l14 hI14 _ _
          clear N9 F9
          repeat' ((fail_if_success (with_reducible show wpAny _ _ (binaryOp Operator.Add _ _) _ _ _)); (first | (k_unfold; (try dsimp only)) | (k_end; wrow_close) | walk1 | (dsimp only; walk1) | (leave1; walk_say "STEP leave1"; try dsimp only) | fail "no step"))
          (with_reducible rename News h₀ L _ _ => N9)
          (with_reducible rename Fr h₀ L _ _ => F9)
          refine' kmk_add_ints F9 N9 (News.isList N9 (show (D13, W.listOf ws13.toArray 0) ∈ _ by repeat (first | exact List.Mem.head _ | refine List.Mem.tail _ ?_ | refine List.mem_append_right _ ?_))) (News.isList N9 (show (D14, W.listOf ws14.toArray 0) ∈ _ by repeat (first | exact List.Mem.head _ | refine List.Mem.tail _ ?_ | refine List.mem_append_right _ ?_))) hI13 hI14 ?_ ?z
          (case z => rw [sizeLine_eq]; simp only [List.length_take, List.length_drop]; omega)
          intro D15 ws15 h15 F15 N15 l15 hI15
          clear N9 F9
          have ct : ∀ c ∈ ms1.take (1 : Int).toNat, 0 ≤ c ∧ c < 6 := fun c hc => c6 c (List.mem_of_mem_take hc)
          have cd : ∀ c ∈ ms1.drop (1 : Int).toNat, 0 ≤ c ∧ c < 6 := fun c hc => c6 c (List.mem_of_mem_drop hc)
          have e1 : (ms1.take (1 : Int).toNat).length = 1 := by rw [List.length_take]; show min 1 ms1.length = 1; omega
          have e2 : (ms1.drop (1 : Int).toNat).length = ms1.length - 1 := by rw [List.length_drop]; rfl
          have e3 : (ns1 ++ ms1.take (1 : Int).toNat).length ≤ 5 := by rw [List.length_append, e1]; omega
          have e4 : (ms1.drop (1 : Int).toNat ++ ms1.take (1 : Int).toNat).length ≤ 4 := by rw [List.length_append, e1, e2]; omega
          have cc1 : ∀ c ∈ ns1 ++ ms1.take (1 : Int).toNat, 0 ≤ c ∧ c < 6 := fun c hc => (List.mem_append.mp hc).elim (c1 c) (ct c)
          have cc2 : ∀ c ∈ ms1.drop (1 : Int).toNat ++ ms1.take (1 : Int).toNat, 0 ≤ c ∧ c < 6 := fun c hc => (List.mem_append.mp hc).elim (cd c) (ct c)
          repeat' ((fail_if_success (with_reducible show wpAny _ _ (execs (Stmt.For _ _ _ _ _ :: _) _) _ _ _)); (first | (k_unfold; (try dsimp only)) | (k_end; wrow_close) | walk1 | (dsimp only; walk1) | (leave1; walk_say "STEP leave1"; try dsimp only) | fail "no step"))
          (with_reducible rename News h₀ L _ _ => N9)
          (with_reducible rename Fr h₀ L _ _ => F9)
          refine' loop_at (T1 := T1) ?hb ?hs X B T ?F ?N ?h1 ?h2 ?sy (good_of (a := a1) (b := b1) (na := na1) (nb := nb1) (t := t1) (tt := tt1) ?m1 ?m2 ?m3 z1 z2 c1 c6 (by omega) (by omega)) (good_of (a := D12) (b := D15) (na := 0) (nb := 0) (t := 0) (tt := _) ?n1 ?n2 ?n3 hI12 hI15 cc1 cc2 e3 (by omega)) (Nat.le_trans (Nat.mul_le_mul (show ms1.length ≤ 4 by omega) e4) (by decide)) (by omega) hE (fun h' tk' m' F' => hQ h' tk' m' F')
          (case hb => rfl)
          (case hs => rfl)
          (case F => exact F9)
          (case N => exact N9)
          (case h1 => repeat (first | exact if_pos rfl | refine (if_neg (by decide +kernel)).trans ?_))
          (case h2 => repeat (first | exact if_pos rfl | refine (if_neg (by decide +kernel)).trans ?_))
          (case sy => repeat (first | exact rfl | refine (if_neg (by decide +kernel)).trans ?_))
          (case m1 => repeat (first | exact List.Mem.head _ | refine List.Mem.tail _ ?_ | refine List.mem_append_right _ ?_))
          (case m2 => repeat (first | exact List.Mem.head _ | refine List.Mem.tail _ ?_ | refine List.mem_append_right _ ?_))
          (case m3 => repeat (first | exact List.Mem.head _ | refine List.Mem.tail _ ?_ | refine List.mem_append_right _ ?_))
          (case n1 => repeat (first | exact List.Mem.head _ | refine List.Mem.tail _ ?_ | refine List.mem_append_right _ ?_))
          (case n2 => repeat (first | exact List.Mem.head _ | refine List.Mem.tail _ ?_ | refine List.mem_append_right _ ?_))
          (case n3 => repeat (first | exact List.Mem.head _ | refine List.Mem.tail _ ?_ | refine List.mem_append_right _ ?_))
        · repeat' ((fail_if_success (with_reducible show wpAny _ _ (execs (Stmt.For _ _ _ _ _ :: _) _) _ _ _)); (first | (k_unfold; (try dsimp only)) | (k_end; wrow_close) | walk1 | (dsimp only; walk1) | (leave1; walk_say "STEP leave1"; try dsimp only) | fail "no step"))
          (with_reducible rename News h₀ L _ _ => N9)
          (with_reducible rename Fr h₀ L _ _ => F9)
          refine' loop_at (T1 := T1) ?hb ?hs X B T ?F ?N ?h1 ?h2 ?sy (good_of (a := a1) (b := b1) (na := na1) (nb := nb1) (t := t1) (tt := tt1) ?m1 ?m2 ?m3 z1 z2 c1 c6 (by omega) (by omega)) (good_of (a := a1) (b := D5) (na := na1) (nb := 0) (t := t1) (tt := tt1) ?n1 ?n2 ?n3 z1 zz c1 cc (by omega) (by omega)) (Nat.le_trans (Nat.mul_le_mul (show ms1.length ≤ 4 by omega) lz) (by decide)) (by omega) hE (fun h' tk' m' F' => hQ h' tk' m' F')
          (case hb => rfl)
          (case hs => rfl)
          (case F => exact F9)
          (case N => exact N9)
          (case h1 => repeat (first | exact if_pos rfl | refine (if_neg (by decide +kernel)).trans ?_))
          (case h2 => repeat (first | exact if_pos rfl | refine (if_neg (by decide +kernel)).trans ?_))
          (case sy => repeat (first | exact rfl | refine (if_neg (by decide +kernel)).trans ?_))
          (case m1 => repeat (first | exact List.Mem.head _ | refine List.Mem.tail _ ?_ | refine List.mem_append_right _ ?_))
          (case m2 => repeat (first | exact List.Mem.head _ | refine List.Mem.tail _ ?_ | refine List.mem_append_right _ ?_))
          (case m3 => repeat (first | exact List.Mem.head _ | refine List.Mem.tail _ ?_ | refine List.mem_append_right _ ?_))
          (case n1 => repeat (first | exact List.Mem.head _ | refine List.Mem.tail _ ?_ | refine List.mem_append_right _ ?_))
          (case n2 => repeat (first | exact List.Mem.head _ | refine List.Mem.tail _ ?_ | refine List.mem_append_right _ ?_))
          (case n3 => repeat (first | exact List.Mem.head _ | refine List.Mem.tail _ ?_ | refine List.mem_append_right _ ?_))
end
theorem holds0 : PySem.Challenge.rw_pq0276_01.Holds := by
  w_on; o_law
  refine holds_open (q := hd.view_39) (loose := looseK) (Xt := XtK) (XP := XL hd.view_39 valsK) (Yf := Hook.obs hookK) (Ya := Hook.val hookK) (YP := Hook.says hookK) (N := 5490) leftK (Hook.of hookK) (Hook.keeps hookK) (fun s e => xl_of s (Bool.and_eq_true_iff.mp e).1) XL.keeps (by rfl) (by rfl) (by rfl) (fun s e => recFacts_of (Bool.and_eq_true_iff.mp e).2) (by rfl) (by first | assumption | decide +kernel) (by decide +kernel) ⟨rfl, rfl, rfl, rfl, rfl, by decide +kernel⟩ ?hw ?hc
  case hw => w_witness2
  case hc =>
    w_strict (
      k_go0
      (all_goals try k_fold)
      (rename Below callerA _ _ _ => B9)
      (rename Top _ _ _ _ _ _ => T9)
      (rename Frag.In _ _ => X9)
      (rename Heap.IsList _ _ _ => il9)
      (rename IntsAre _ _ => hI9)
      (rename Fr _ _ _ _ => F9)
      have hl9 := hI9.length
      refine' law_body ?hb ?hs X9 B9 T9 F9 il9 hI9 ?la ?hE ?hQ
      (case hb => rfl)
      (case hs => rfl)
      (case la => omega)
      (case hE => passes_own)
      (case hQ =>
        intro h9 tk9 m9 FF9
        (try dsimp only)
        k_end
        wrow_close))
end Mine
theorem PySem.Challenge.cw_pq0276_01_holds : PySem.Challenge.rw_pq0276_01.Holds :=
  Mine.holds0
