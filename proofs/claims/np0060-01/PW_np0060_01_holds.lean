import PyProof.Rows.All
import Wide.All
import OpenK.AllK
import Wide.FinOn
import Lean
import PySem.Challenge.RW_np0060_01
open PySem PySem.W PyProof.Rows PySem.Calls PySem.Spec
set_option rowWalk.seconds 0
set_option Elab.async false
set_option maxRecDepth 100000
set_option maxHeartbeats 8000000
set_option linter.unusedVariables false
namespace Mine
/-- a statement of the program's top, and one of a class's body -/
noncomputable def hd.stA (i : Nat) : Stmt := PySem.Challenge.pw_np0060_01.main.body[i]?.getD (.Pass default)
noncomputable def hd.stB (i j : Nat) : Stmt := match hd.stA i with
  | .ClassDef _ _ _ b _ _ _ _ _ _ _ => b[j]?.getD (.Pass default)
  | s => s
noncomputable def hd.fName (s : Stmt) : Str := match s with
  | .FunctionDef n _ _ _ _ _ _ _ _ _ => n
  | _ => default
noncomputable def hd.fPar (s : Stmt) : Arguments := match s with
  | .FunctionDef _ a _ _ _ _ _ _ _ _ => a
  | _ => default
noncomputable def hd.fBody (s : Stmt) : List Stmt := match s with
  | .FunctionDef _ _ b _ _ _ _ _ _ _ => b
  | _ => []
noncomputable def hd.fScope (s : Stmt) : Scope := match s with
  | .FunctionDef _ _ _ _ _ _ c _ _ _ => c
  | _ => default
noncomputable def hd.cBody (s : Stmt) : List Stmt := match s with
  | .ClassDef _ _ _ b _ _ _ _ _ _ _ => b
  | _ => []
noncomputable def hd.cScope (s : Stmt) : Scope := match s with
  | .ClassDef _ _ _ _ _ _ c _ _ _ _ => c
  | _ => default
noncomputable def hd.o_43 (P : Params) : Obj := { cls := Value.type "tuple", data := Data.seq #[] }
noncomputable def hd.o_44 (P : Params) : Obj := { cls := Value.none, data := Data.fields #[] }
noncomputable def hd.o_45 (P : Params) : Obj := { cls := Value.type "code", data := Data.fields #[Value.str (Str.ofString "<module>") 182, Value.str (Str.ofString "<module>") 183, Value.str (Str.ofString "/claim/cut.py") 184, Value.int 1 0, Value.int 0 0, Value.int 0 0, Value.int 0 0, Value.int 0 0, Value.ref 11, Value.bool false, Value.int 181 0, Value.ref 12, Value.none, Value.none, Value.none, Value.none, Value.int 185 0, Value.int 1 0, Value.str (Str.ofString "/claim/cut.py") 186] }
noncomputable def hd.o_46 (P : Params) : Obj := { cls := Value.type "frame", slots := #[some (Value.ref 13), some (Value.ref 3), some (Value.ref 3), none, some (Value.str (Str.ofString "__main__") 164), none, some (Value.ref 0)] }
noncomputable def hd.heap_46 (P : Params) : Heap := { objs := { toList := [boot_o_0 P, boot_o_1 P, boot_o_2 P, boot_o_3 P, boot_o_4 P, boot_o_5 P, boot_o_6 P, boot_o_7 P, boot_o_8 P, boot_o_9 P, boot_o_10 P, hd.o_43 P, hd.o_44 P, hd.o_45 P, hd.o_46 P] } }
noncomputable def hd.tree_47 (P : Params) : BT := BT.node (boot_o_0 P) (BT.node (boot_o_1 P) (BT.node (boot_o_3 P) (BT.node (boot_o_7 P) BT.nil BT.nil) (BT.node (hd.o_43 P) BT.nil BT.nil)) (BT.node (boot_o_5 P) (BT.node (boot_o_9 P) BT.nil BT.nil) (BT.node (hd.o_45 P) BT.nil BT.nil))) (BT.node (boot_o_2 P) (BT.node (boot_o_4 P) (BT.node (boot_o_8 P) BT.nil BT.nil) (BT.node (hd.o_44 P) BT.nil BT.nil)) (BT.node (boot_o_6 P) (BT.node (boot_o_10 P) BT.nil BT.nil) (BT.node (hd.o_46 P) BT.nil BT.nil)))
noncomputable def hd.o_510 (P : Params) : Obj := { cls := Value.type "dict", data := Data.dict #[{ hash := PyData.keyHash P (Str.ofString "__name__"), key := Value.str (Str.ofString "__name__") 165, val := Value.str (Str.ofString "law_np0060_01") 753 }, { hash := PyData.keyHash P (Str.ofString "__doc__"), key := Value.str (Str.ofString "__doc__") 166, val := Value.none }, { hash := PyData.keyHash P (Str.ofString "__package__"), key := Value.str (Str.ofString "__package__") 167, val := Value.none }, { hash := PyData.keyHash P (Str.ofString "__loader__"), key := Value.str (Str.ofString "__loader__") 168, val := Value.builtin "__main__.__loader__#opaque" }, { hash := PyData.keyHash P (Str.ofString "__spec__"), key := Value.str (Str.ofString "__spec__") 169, val := Value.none }, { hash := PyData.keyHash P (Str.ofString "__annotations__"), key := Value.str (Str.ofString "__annotations__") 170, val := Value.ref 6 }, { hash := PyData.keyHash P (Str.ofString "__builtins__"), key := Value.str (Str.ofString "__builtins__") 171, val := Value.ref 4 }, { hash := PyData.keyHash P (Str.ofString "__file__"), key := Value.str (Str.ofString "__file__") 173, val := Value.str (Str.ofString "/claim/cut.py") 172 }, { hash := PyData.keyHash P (Str.ofString "__cached__"), key := Value.str (Str.ofString "__cached__") 174, val := Value.none }, { hash := PyData.keyHash P (Str.ofString "_wall"), key := Value.str (Str.ofString "_wall") 193, val := Value.ref 21 }, { hash := PyData.keyHash P (Str.ofString "LispSignal"), key := Value.str (Str.ofString "LispSignal") 226, val := Value.ref 38 }, { hash := PyData.keyHash P (Str.ofString "Symbol"), key := Value.str (Str.ofString "Symbol") 259, val := Value.ref 58 }, { hash := PyData.keyHash P (Str.ofString "NIL"), key := Value.str (Str.ofString "NIL") 269, val := Value.ref 64 }, { hash := PyData.keyHash P (Str.ofString "Cons"), key := Value.str (Str.ofString "Cons") 300, val := Value.ref 82 }, { hash := PyData.keyHash P (Str.ofString "Text"), key := Value.str (Str.ofString "Text") 331, val := Value.ref 104 }, { hash := PyData.keyHash P (Str.ofString "Vector"), key := Value.str (Str.ofString "Vector") 360, val := Value.ref 125 }, { hash := PyData.keyHash P (Str.ofString "ByteCode"), key := Value.str (Str.ofString "ByteCode") 389, val := Value.ref 146 }, { hash := PyData.keyHash P (Str.ofString "Opaque"), key := Value.str (Str.ofString "Opaque") 431, val := Value.ref 181 }, { hash := PyData.keyHash P (Str.ofString "list_of"), key := Value.str (Str.ofString "list_of") 441, val := Value.ref 193 }, { hash := PyData.keyHash P (Str.ofString "split_list"), key := Value.str (Str.ofString "split_list") 451, val := Value.ref 200 }, { hash := PyData.keyHash P (Str.ofString "is_whole"), key := Value.str (Str.ofString "is_whole") 458, val := Value.ref 207 }, { hash := PyData.keyHash P (Str.ofString "is_list"), key := Value.str (Str.ofString "is_list") 465, val := Value.ref 214 }, { hash := PyData.keyHash P (Str.ofString "LONGEST"), key := Value.str (Str.ofString "LONGEST") 469, val := Value.int 100000 468 }, { hash := PyData.keyHash P (Str.ofString "wrong"), key := Value.str (Str.ofString "wrong") 477, val := Value.ref 221 }, { hash := PyData.keyHash P (Str.ofString "need_list"), key := Value.str (Str.ofString "need_list") 484, val := Value.ref 228 }, { hash := PyData.keyHash P (Str.ofString "need_whole"), key := Value.str (Str.ofString "need_whole") 491, val := Value.ref 235 }, { hash := PyData.keyHash P (Str.ofString "things_of"), key := Value.str (Str.ofString "things_of") 500, val := Value.ref 242 }, { hash := PyData.keyHash P (Str.ofString "cdr_of"), key := Value.str (Str.ofString "cdr_of") 507, val := Value.ref 249 }, { hash := PyData.keyHash P (Str.ofString "MOST_STEPS"), key := Value.str (Str.ofString "MOST_STEPS") 511, val := Value.int 100000 510 }, { hash := PyData.keyHash P (Str.ofString "eq"), key := Value.str (Str.ofString "eq") 519, val := Value.ref 256 }, { hash := PyData.keyHash P (Str.ofString "parts_of"), key := Value.str (Str.ofString "parts_of") 525, val := Value.ref 261 }, { hash := PyData.keyHash P (Str.ofString "are_of_one_class"), key := Value.str (Str.ofString "are_of_one_class") 534, val := Value.ref 268 }, { hash := PyData.keyHash P (Str.ofString "equal_by"), key := Value.str (Str.ofString "equal_by") 548, val := Value.ref 275 }, { hash := PyData.keyHash P (Str.ofString "are_any"), key := Value.str (Str.ofString "are_any") 556, val := Value.ref 282 }, { hash := PyData.keyHash P (Str.ofString "equal"), key := Value.str (Str.ofString "equal") 564, val := Value.ref 289 }, { hash := PyData.keyHash P (Str.ofString "ring_of"), key := Value.str (Str.ofString "ring_of") 578, val := Value.ref 296 }, { hash := PyData.keyHash P (Str.ofString "rest_at"), key := Value.str (Str.ofString "rest_at") 589, val := Value.ref 303 }, { hash := PyData.keyHash P (Str.ofString "LAST_CODE"), key := Value.str (Str.ofString "LAST_CODE") 593, val := Value.int 4194303 592 }, { hash := PyData.keyHash P (Str.ofString "is_code"), key := Value.str (Str.ofString "is_code") 600, val := Value.ref 310 }, { hash := PyData.keyHash P (Str.ofString "need_code"), key := Value.str (Str.ofString "need_code") 607, val := Value.ref 317 }, { hash := PyData.keyHash P (Str.ofString "is_array"), key := Value.str (Str.ofString "is_array") 614, val := Value.ref 324 }, { hash := PyData.keyHash P (Str.ofString "things_in"), key := Value.str (Str.ofString "things_in") 621, val := Value.ref 331 }, { hash := PyData.keyHash P (Str.ofString "alike"), key := Value.str (Str.ofString "alike") 627, val := Value.ref 336 }, { hash := PyData.keyHash P (Str.ofString "need_place"), key := Value.str (Str.ofString "need_place") 636, val := Value.ref 343 }, { hash := PyData.keyHash P (Str.ofString "lisp_length"), key := Value.str (Str.ofString "lisp_length") 644, val := Value.ref 350 }, { hash := PyData.keyHash P (Str.ofString "lisp_elt"), key := Value.str (Str.ofString "lisp_elt") 653, val := Value.ref 357 }, { hash := PyData.keyHash P (Str.ofString "lisp_aref"), key := Value.str (Str.ofString "lisp_aref") 662, val := Value.ref 364 }, { hash := PyData.keyHash P (Str.ofString "lisp_aset"), key := Value.str (Str.ofString "lisp_aset") 671, val := Value.ref 371 }, { hash := PyData.keyHash P (Str.ofString "lisp_fillarray"), key := Value.str (Str.ofString "lisp_fillarray") 679, val := Value.ref 378 }, { hash := PyData.keyHash P (Str.ofString "lisp_make_vector"), key := Value.str (Str.ofString "lisp_make_vector") 687, val := Value.ref 385 }, { hash := PyData.keyHash P (Str.ofString "lisp_append"), key := Value.str (Str.ofString "lisp_append") 697, val := Value.ref 392 }, { hash := PyData.keyHash P (Str.ofString "lisp_vconcat"), key := Value.str (Str.ofString "lisp_vconcat") 707, val := Value.ref 399 }, { hash := PyData.keyHash P (Str.ofString "lisp_copy_sequence"), key := Value.str (Str.ofString "lisp_copy_sequence") 715, val := Value.ref 406 }, { hash := PyData.keyHash P (Str.ofString "lisp_reverse"), key := Value.str (Str.ofString "lisp_reverse") 723, val := Value.ref 413 }, { hash := PyData.keyHash P (Str.ofString "lisp_nreverse"), key := Value.str (Str.ofString "lisp_nreverse") 734, val := Value.ref 420 }, { hash := PyData.keyHash P (Str.ofString "lisp_delete"), key := Value.str (Str.ofString "lisp_delete") 740, val := Value.ref 425 }, { hash := PyData.keyHash P (Str.ofString "lisp_remove"), key := Value.str (Str.ofString "lisp_remove") 746, val := Value.ref 430 }, { hash := PyData.keyHash P (Str.ofString "lisp_number_sequence"), key := Value.str (Str.ofString "lisp_number_sequence") 752, val := Value.ref 435 }, { hash := PyData.keyHash P (Str.ofString "_law_deck"), key := Value.str (Str.ofString "_law_deck") 760, val := Value.ref 440 }, { hash := PyData.keyHash P (Str.ofString "_law_draw"), key := Value.str (Str.ofString "_law_draw") 769, val := Value.ref 447 }, { hash := PyData.keyHash P (Str.ofString "_law_row"), key := Value.str (Str.ofString "_law_row") 777, val := Value.ref 454 }, { hash := PyData.keyHash P (Str.ofString "_law_new"), key := Value.str (Str.ofString "_law_new") 785, val := Value.ref 461 }, { hash := PyData.keyHash P (Str.ofString "_law_told"), key := Value.str (Str.ofString "_law_told") 794, val := Value.ref 468 }, { hash := PyData.keyHash P (Str.ofString "_law_is_fresh"), key := Value.str (Str.ofString "_law_is_fresh") 806, val := Value.ref 475 }, { hash := PyData.keyHash P (Str.ofString "_law_places"), key := Value.str (Str.ofString "_law_places") 820, val := Value.ref 482 }, { hash := PyData.keyHash P (Str.ofString "_law_changed"), key := Value.str (Str.ofString "_law_changed") 826, val := Value.ref 487 }, { hash := PyData.keyHash P (Str.ofString "_law_joined"), key := Value.str (Str.ofString "_law_joined") 832, val := Value.ref 492 }, { hash := PyData.keyHash P (Str.ofString "_law_counted"), key := Value.str (Str.ofString "_law_counted") 845, val := Value.ref 499 }, { hash := PyData.keyHash P (Str.ofString "law"), key := Value.str (Str.ofString "law") 851, val := Value.ref 504 }] 69 }
noncomputable def hd.o_52 (P : Params) : Obj := { cls := Value.type "tuple", data := Data.seq #[] }
noncomputable def hd.o_68 (P : Params) : Obj := { cls := Value.type "tuple", data := Data.seq #[Value.str (Str.ofString "self") 211, Value.str (Str.ofString "symbol") 212, Value.str (Str.ofString "data") 213] }
noncomputable def hd.o_102 (P : Params) : Obj := { cls := Value.type "dict", data := Data.dict #[{ hash := PyData.keyHash P (Str.ofString "number"), key := Value.str (Str.ofString "number") 266, val := Value.int 0 260 }, { hash := PyData.keyHash P (Str.ofString "name"), key := Value.str (Str.ofString "name") 268, val := Value.str (Str.ofString "nil") 261 }] 2 }
noncomputable def hd.o_172 (P : Params) : Obj := { cls := Value.type "getset_descriptor", data := Data.fields #[Value.str (Str.ofString "__weakref__") 356, Value.ref 125, Value.builtin "ExceptionGroup.__weakref__", Value.none] }
noncomputable def hd.o_306 (P : Params) : Obj := { cls := Value.type "code", data := Data.fields #[Value.str (Str.ofString "eq") 512, Value.str (Str.ofString "eq") 513, Value.str (Str.ofString "/claim/cut.py") 514, Value.int 90 0, Value.int 2 0, Value.int 0 0, Value.int 0 0, Value.int 3 0, Value.ref 250, Value.bool true, Value.int 181 0, Value.ref 251, Value.none, Value.ref 252, Value.ref 253, Value.ref 254, Value.int 517 0, Value.int 90 0, Value.str (Str.ofString "/claim/cut.py") 518] }
noncomputable def hd.o_438 (P : Params) : Obj := { cls := Value.none, data := Data.func { name := hd.fName (hd.stA 46), qualname := Str.ofString "lisp_make_vector", params := hd.fPar (hd.stA 46), body := FuncBody.stmts (hd.fBody (hd.stA 46)), scope := hd.fScope (hd.stA 46), globals := 0, closure := [], defaults := Value.none, kwdefaults := Value.none } }
noncomputable def hd.o_240 (P : Params) : Obj := { cls := Value.none, data := Data.func { name := hd.fName (hd.stA 11), qualname := Str.ofString "list_of", params := hd.fPar (hd.stA 11), body := FuncBody.stmts (hd.fBody (hd.stA 11)), scope := hd.fScope (hd.stA 11), globals := 0, closure := [], defaults := Value.none, kwdefaults := Value.none } }
noncomputable def hd.o_372 (P : Params) : Obj := { cls := Value.none, data := Data.fields #[] }
noncomputable def hd.o_502 (P : Params) : Obj := { cls := Value.type "function", data := Data.func { name := hd.fName (hd.stA 57), qualname := Str.ofString "_law_draw", params := hd.fPar (hd.stA 57), body := FuncBody.stmts (hd.fBody (hd.stA 57)), scope := hd.fScope (hd.stA 57), globals := 3, closure := [], defaults := Value.none, kwdefaults := Value.none, pyModule := Value.str (Str.ofString "law_np0060_01") 753, code := Value.ref 446 } }
noncomputable def hd.o_138 (P : Params) : Obj := { cls := Value.type "tuple", data := Data.seq #[] }
noncomputable def hd.o_208 (P : Params) : Obj := { cls := Value.none, data := Data.fields #[] }
noncomputable def hd.o_338 (P : Params) : Obj := { cls := Value.none, data := Data.func { name := hd.fName (hd.stA 29), qualname := Str.ofString "equal", params := hd.fPar (hd.stA 29), body := FuncBody.stmts (hd.fBody (hd.stA 29)), scope := hd.fScope (hd.stA 29), globals := 0, closure := [], defaults := Value.none, kwdefaults := Value.none } }
noncomputable def hd.o_470 (P : Params) : Obj := { cls := Value.none, data := Data.fields #[] }
noncomputable def hd.o_274 (P : Params) : Obj := { cls := Value.none, data := Data.fields #[] }
noncomputable def hd.o_404 (P : Params) : Obj := { cls := Value.type "tuple", data := Data.seq #[] }
noncomputable def hd.o_536 (P : Params) : Obj := { cls := Value.type "tuple", data := Data.seq #[] }
noncomputable def hd.o_86 (P : Params) : Obj := { cls := Value.type "code", data := Data.fields #[Value.str (Str.ofString "Symbol") 231, Value.str (Str.ofString "Symbol") 232, Value.str (Str.ofString "/claim/cut.py") 233, Value.int 11 0, Value.int 0 0, Value.int 0 0, Value.int 0 0, Value.int 0 0, Value.ref 45, Value.bool false, Value.int 181 0, Value.ref 46, Value.none, Value.none, Value.none, Value.none, Value.int 234 0, Value.int 11 0, Value.str (Str.ofString "/claim/cut.py") 235] }
noncomputable def hd.o_120 (P : Params) : Obj := { cls := Value.type "function", data := Data.func { name := hd.fName (hd.stB 6 0), qualname := Str.ofString "Cons.__init__", params := hd.fPar (hd.stB 6 0), body := FuncBody.stmts (hd.fBody (hd.stB 6 0)), scope := hd.fScope (hd.stB 6 0), globals := 3, closure := [], defaults := Value.none, kwdefaults := Value.none, pyModule := Value.str (Str.ofString "emacs.objects") 227, code := Value.ref 78 } }
noncomputable def hd.o_190 (P : Params) : Obj := { cls := Value.type "function", data := Data.func { name := hd.fName (hd.stB 9 0), qualname := Str.ofString "ByteCode.__init__", params := hd.fPar (hd.stB 9 0), body := FuncBody.stmts (hd.fBody (hd.stB 9 0)), scope := hd.fScope (hd.stB 9 0), globals := 3, closure := [], defaults := Value.none, kwdefaults := Value.none, pyModule := Value.str (Str.ofString "emacs.objects") 227, code := Value.ref 142 } }
noncomputable def hd.o_322 (P : Params) : Obj := { cls := Value.type "tuple", data := Data.seq #[Value.str (Str.ofString "one") 538, Value.str (Str.ofString "other") 539, Value.str (Str.ofString "strings_alike") 540, Value.str (Str.ofString "waiting") 541, Value.str (Str.ofString "steps") 542, Value.str (Str.ofString "left") 543, Value.str (Str.ofString "right") 544, Value.str (Str.ofString "parts") 545] }
noncomputable def hd.o_454 (P : Params) : Obj := { cls := Value.type "function", data := Data.func { name := hd.fName (hd.stA 48), qualname := Str.ofString "lisp_vconcat", params := hd.fPar (hd.stA 48), body := FuncBody.stmts (hd.fBody (hd.stA 48)), scope := hd.fScope (hd.stA 48), globals := 3, closure := [], defaults := Value.none, kwdefaults := Value.none, pyModule := Value.str (Str.ofString "emacs.sequences") 590, code := Value.ref 398 } }
noncomputable def hd.o_256 (P : Params) : Obj := { cls := Value.type "function", data := Data.func { name := hd.fName (hd.stA 13), qualname := Str.ofString "is_whole", params := hd.fPar (hd.stA 13), body := FuncBody.stmts (hd.fBody (hd.stA 13)), scope := hd.fScope (hd.stA 13), globals := 3, closure := [], defaults := Value.none, kwdefaults := Value.none, pyModule := Value.str (Str.ofString "emacs.objects") 227, code := Value.ref 206 } }
noncomputable def hd.o_388 (P : Params) : Obj := { cls := Value.type "code", data := Data.fields #[Value.str (Str.ofString "alike") 622, Value.str (Str.ofString "alike") 623, Value.str (Str.ofString "/claim/cut.py") 624, Value.int 172 0, Value.int 2 0, Value.int 0 0, Value.int 0 0, Value.int 3 0, Value.ref 332, Value.bool true, Value.int 181 0, Value.ref 333, Value.none, Value.none, Value.none, Value.ref 334, Value.int 625 0, Value.int 172 0, Value.str (Str.ofString "/claim/cut.py") 626] }
noncomputable def hd.o_520 (P : Params) : Obj := { cls := Value.none, data := Data.fields #[] }
noncomputable def hd.o_156 (P : Params) : Obj := { cls := Value.type "dict", data := Data.dict #[{ hash := PyData.keyHash P (Str.ofString "__module__"), key := Value.str (Str.ofString "__module__") 339, val := Value.str (Str.ofString "emacs.objects") 227 }, { hash := PyData.keyHash P (Str.ofString "__qualname__"), key := Value.str (Str.ofString "__qualname__") 341, val := Value.str (Str.ofString "Vector") 340 }, { hash := PyData.keyHash P (Str.ofString "__firstlineno__"), key := Value.str (Str.ofString "__firstlineno__") 343, val := Value.int 27 342 }, { hash := PyData.keyHash P (Str.ofString "__init__"), key := Value.str (Str.ofString "__init__") 351, val := Value.ref 122 }, { hash := PyData.keyHash P (Str.ofString "__static_attributes__"), key := Value.str (Str.ofString "__static_attributes__") 353, val := Value.ref 123 }] 5 }
noncomputable def hd.o_224 (P : Params) : Obj := { cls := Value.type "tuple", data := Data.seq #[] }
noncomputable def hd.o_356 (P : Params) : Obj := { cls := Value.type "function", data := Data.func { name := hd.fName (hd.stA 32), qualname := Str.ofString "rest_at", params := hd.fPar (hd.stA 32), body := FuncBody.stmts (hd.fBody (hd.stA 32)), scope := hd.fScope (hd.stA 32), globals := 3, closure := [], defaults := Value.none, kwdefaults := Value.none, pyModule := Value.str (Str.ofString "emacs.listprims") 565, code := Value.ref 302 } }
noncomputable def hd.o_486 (P : Params) : Obj := { cls := Value.type "tuple", data := Data.seq #[] }
noncomputable def hd.o_290 (P : Params) : Obj := { cls := Value.type "tuple", data := Data.seq #[] }
noncomputable def hd.o_420 (P : Params) : Obj := { cls := Value.type "tuple", data := Data.seq #[Value.str (Str.ofString "world") 666, Value.str (Str.ofString "args") 667, Value.str (Str.ofString "place") 668] }
noncomputable def hd.o_552 (P : Params) : Obj := { cls := Value.type "tuple", data := Data.seq #[Value.str (Str.ofString "deck") 836, Value.str (Str.ofString "first") 837, Value.str (Str.ofString "last") 838, Value.str (Str.ofString "step") 839, Value.str (Str.ofString "due") 840, Value.str (Str.ofString "number") 841, Value.str (Str.ofString "told_here") 842] }
noncomputable def hd.o_60 (P : Params) : Obj := { cls := Value.type "builtin_function_or_method", data := Data.fields #[Value.builtin "type.__prepare__", Value.type "type"] }
noncomputable def hd.o_76 (P : Params) : Obj := { cls := Value.type "getset_descriptor", data := Data.fields #[Value.str (Str.ofString "__weakref__") 220, Value.ref 38, Value.builtin "ExceptionGroup.__weakref__", Value.none] }
noncomputable def hd.o_112 (P : Params) : Obj := { cls := Value.type "code", data := Data.fields #[Value.str (Str.ofString "Cons") 272, Value.str (Str.ofString "Cons") 273, Value.str (Str.ofString "/claim/cut.py") 274, Value.int 17 0, Value.int 0 0, Value.int 0 0, Value.int 0 0, Value.int 0 0, Value.ref 69, Value.bool false, Value.int 181 0, Value.ref 70, Value.none, Value.none, Value.none, Value.none, Value.int 275 0, Value.int 17 0, Value.str (Str.ofString "/claim/cut.py") 276] }
noncomputable def hd.o_182 (P : Params) : Obj := { cls := Value.type "code", data := Data.fields #[Value.str (Str.ofString "ByteCode") 363, Value.str (Str.ofString "ByteCode") 364, Value.str (Str.ofString "/claim/cut.py") 365, Value.int 31 0, Value.int 0 0, Value.int 0 0, Value.int 0 0, Value.int 0 0, Value.ref 133, Value.bool false, Value.int 181 0, Value.ref 134, Value.none, Value.none, Value.none, Value.none, Value.int 366 0, Value.int 31 0, Value.str (Str.ofString "/claim/cut.py") 367] }
noncomputable def hd.o_314 (P : Params) : Obj := { cls := Value.none, data := Data.fields #[] }
noncomputable def hd.o_446 (P : Params) : Obj := { cls := Value.type "code", data := Data.fields #[Value.str (Str.ofString "lisp_append") 688, Value.str (Str.ofString "lisp_append") 689, Value.str (Str.ofString "/claim/cut.py") 690, Value.int 217 0, Value.int 2 0, Value.int 0 0, Value.int 0 0, Value.int 3 0, Value.ref 386, Value.bool true, Value.int 181 0, Value.ref 387, Value.none, Value.ref 388, Value.ref 389, Value.ref 390, Value.int 695 0, Value.int 217 0, Value.str (Str.ofString "/claim/cut.py") 696] }
noncomputable def hd.o_248 (P : Params) : Obj := { cls := Value.type "code", data := Data.fields #[Value.str (Str.ofString "split_list") 442, Value.str (Str.ofString "split_list") 443, Value.str (Str.ofString "/claim/cut.py") 444, Value.int 50 0, Value.int 1 0, Value.int 0 0, Value.int 0 0, Value.int 3 0, Value.ref 194, Value.bool true, Value.int 181 0, Value.ref 195, Value.none, Value.ref 196, Value.ref 197, Value.ref 198, Value.int 449 0, Value.int 50 0, Value.str (Str.ofString "/claim/cut.py") 450] }
noncomputable def hd.o_380 (P : Params) : Obj := { cls := Value.type "tuple", data := Data.seq #[Value.str (Str.ofString "value") 618] }
noncomputable def hd.o_512 (P : Params) : Obj := { cls := Value.type "tuple", data := Data.seq #[] }
noncomputable def hd.o_146 (P : Params) : Obj := { cls := Value.type "dict", data := Data.dict #[{ hash := PyData.keyHash P (Str.ofString "__module__"), key := Value.str (Str.ofString "__module__") 308, val := Value.str (Str.ofString "emacs.objects") 227 }, { hash := PyData.keyHash P (Str.ofString "__firstlineno__"), key := Value.str (Str.ofString "__firstlineno__") 312, val := Value.int 22 311 }, { hash := PyData.keyHash P (Str.ofString "__init__"), key := Value.str (Str.ofString "__init__") 321, val := Value.ref 101 }, { hash := PyData.keyHash P (Str.ofString "__static_attributes__"), key := Value.str (Str.ofString "__static_attributes__") 324, val := Value.ref 102 }, { hash := PyData.keyHash P (Str.ofString "__dict__"), key := Value.str (Str.ofString "__dict__") 326, val := Value.ref 105 }, { hash := PyData.keyHash P (Str.ofString "__weakref__"), key := Value.str (Str.ofString "__weakref__") 328, val := Value.ref 106 }, { hash := PyData.keyHash P (Str.ofString "__doc__"), key := Value.str (Str.ofString "__doc__") 329, val := Value.none }] 4 }
noncomputable def hd.o_216 (P : Params) : Obj := { cls := Value.type "tuple", data := Data.seq #[Value.str (Str.ofString "self") 412] }
noncomputable def hd.o_348 (P : Params) : Obj := { cls := Value.type "code", data := Data.fields #[Value.str (Str.ofString "ring_of") 567, Value.str (Str.ofString "ring_of") 568, Value.str (Str.ofString "/claim/cut.py") 569, Value.int 131 0, Value.int 1 0, Value.int 0 0, Value.int 0 0, Value.int 3 0, Value.ref 290, Value.bool true, Value.int 181 0, Value.ref 291, Value.none, Value.ref 292, Value.ref 293, Value.ref 294, Value.int 576 0, Value.int 131 0, Value.str (Str.ofString "/claim/cut.py") 577] }
noncomputable def hd.o_478 (P : Params) : Obj := { cls := Value.none, data := Data.func { name := hd.fName (hd.stA 52), qualname := Str.ofString "lisp_delete", params := hd.fPar (hd.stA 52), body := FuncBody.stmts (hd.fBody (hd.stA 52)), scope := hd.fScope (hd.stA 52), globals := 0, closure := [], defaults := Value.none, kwdefaults := Value.none } }
noncomputable def hd.o_282 (P : Params) : Obj := { cls := Value.type "tuple", data := Data.seq #[Value.str (Str.ofString "value") 488] }
noncomputable def hd.o_412 (P : Params) : Obj := { cls := Value.none, data := Data.fields #[] }
noncomputable def hd.o_544 (P : Params) : Obj := { cls := Value.type "function", data := Data.func { name := hd.fName (hd.stA 63), qualname := Str.ofString "_law_changed", params := hd.fPar (hd.stA 63), body := FuncBody.stmts (hd.fBody (hd.stA 63)), scope := hd.fScope (hd.stA 63), globals := 3, closure := [], defaults := Value.none, kwdefaults := Value.none, pyModule := Value.str (Str.ofString "law_np0060_01") 753, code := Value.ref 486 } }
noncomputable def hd.o_94 (P : Params) : Obj := { cls := Value.type "function", data := Data.func { name := hd.fName (hd.stB 4 0), qualname := Str.ofString "Symbol.__init__", params := hd.fPar (hd.stB 4 0), body := FuncBody.stmts (hd.fBody (hd.stB 4 0)), scope := hd.fScope (hd.stB 4 0), globals := 3, closure := [], defaults := Value.none, kwdefaults := Value.none, pyModule := Value.str (Str.ofString "emacs.objects") 227, code := Value.ref 54 } }
noncomputable def hd.o_130 (P : Params) : Obj := { cls := Value.type "tuple", data := Data.seq #[] }
noncomputable def hd.o_200 (P : Params) : Obj := { cls := Value.type "tuple", data := Data.seq #[] }
noncomputable def hd.o_330 (P : Params) : Obj := { cls := Value.type "tuple", data := Data.seq #[] }
noncomputable def hd.o_462 (P : Params) : Obj := { cls := Value.type "tuple", data := Data.seq #[] }
noncomputable def hd.o_266 (P : Params) : Obj := { cls := Value.type "tuple", data := Data.seq #[] }
noncomputable def hd.o_396 (P : Params) : Obj := { cls := Value.type "function", data := Data.func { name := hd.fName (hd.stA 40), qualname := Str.ofString "need_place", params := hd.fPar (hd.stA 40), body := FuncBody.stmts (hd.fBody (hd.stA 40)), scope := hd.fScope (hd.stA 40), globals := 3, closure := [], defaults := Value.none, kwdefaults := Value.none, pyModule := Value.str (Str.ofString "emacs.sequences") 590, code := Value.ref 342 } }
noncomputable def hd.o_528 (P : Params) : Obj := { cls := Value.type "tuple", data := Data.seq #[Value.str (Str.ofString "deed") 798, Value.str (Str.ofString "value") 799, Value.str (Str.ofString "sort") 800, Value.str (Str.ofString "due") 801, Value.str (Str.ofString "seen") 802, Value.str (Str.ofString "told_here") 803] }
noncomputable def hd.o_164 (P : Params) : Obj := { cls := Value.type "tuple", data := Data.seq #[] }
noncomputable def hd.o_232 (P : Params) : Obj := { cls := Value.type "getset_descriptor", data := Data.fields #[Value.str (Str.ofString "__weakref__") 427, Value.ref 181, Value.builtin "ExceptionGroup.__weakref__", Value.none] }
noncomputable def hd.o_364 (P : Params) : Obj := { cls := Value.type "tuple", data := Data.seq #[] }
noncomputable def hd.o_494 (P : Params) : Obj := { cls := Value.type "code", data := Data.fields #[Value.str (Str.ofString "_law_deck") 755, Value.str (Str.ofString "_law_deck") 756, Value.str (Str.ofString "/claim/cut.py") 757, Value.int 275 0, Value.int 1 0, Value.int 0 0, Value.int 0 0, Value.int 3 0, Value.ref 436, Value.bool true, Value.int 181 0, Value.ref 437, Value.none, Value.none, Value.none, Value.ref 438, Value.int 758 0, Value.int 275 0, Value.str (Str.ofString "/claim/cut.py") 759] }
noncomputable def hd.o_298 (P : Params) : Obj := { cls := Value.none, data := Data.func { name := hd.fName (hd.stA 21), qualname := Str.ofString "cdr_of", params := hd.fPar (hd.stA 21), body := FuncBody.stmts (hd.fBody (hd.stA 21)), scope := hd.fScope (hd.stA 21), globals := 0, closure := [], defaults := Value.none, kwdefaults := Value.none } }
noncomputable def hd.o_430 (P : Params) : Obj := { cls := Value.type "tuple", data := Data.seq #[] }
noncomputable def hd.o_560 (P : Params) : Obj := { cls := Value.type "code", data := Data.fields #[Value.str (Str.ofString "law") 846, Value.str (Str.ofString "law") 847, Value.str (Str.ofString "/claim/cut.py") 848, Value.int 378 0, Value.int 1 0, Value.int 0 0, Value.int 0 0, Value.int 3 0, Value.ref 500, Value.bool true, Value.int 181 0, Value.ref 501, Value.none, Value.none, Value.none, Value.ref 502, Value.int 849 0, Value.int 378 0, Value.str (Str.ofString "/claim/cut.py") 850] }
noncomputable def hd.o_56 (P : Params) : Obj := { cls := Value.none, data := Data.func { name := hd.fName (hd.stA 0), qualname := Str.ofString "_wall", params := hd.fPar (hd.stA 0), body := FuncBody.stmts (hd.fBody (hd.stA 0)), scope := hd.fScope (hd.stA 0), globals := 0, closure := [], defaults := Value.none, kwdefaults := Value.none } }
noncomputable def hd.o_72 (P : Params) : Obj := { cls := Value.type "function", data := Data.func { name := hd.fName (hd.stB 2 0), qualname := Str.ofString "LispSignal.__init__", params := hd.fPar (hd.stB 2 0), body := FuncBody.stmts (hd.fBody (hd.stB 2 0)), scope := hd.fScope (hd.stB 2 0), globals := 3, closure := [], defaults := Value.none, kwdefaults := Value.none, pyModule := Value.str (Str.ofString "emacs.errors") 194, code := Value.ref 34 } }
noncomputable def hd.o_108 (P : Params) : Obj := { cls := Value.type "builtin_function_or_method", data := Data.fields #[Value.builtin "type.__prepare__", Value.type "type"] }
noncomputable def hd.o_178 (P : Params) : Obj := { cls := Value.type "builtin_function_or_method", data := Data.fields #[Value.builtin "type.__prepare__", Value.type "type"] }
noncomputable def hd.o_310 (P : Params) : Obj := { cls := Value.none, data := Data.func { name := hd.fName (hd.stA 25), qualname := Str.ofString "parts_of", params := hd.fPar (hd.stA 25), body := FuncBody.stmts (hd.fBody (hd.stA 25)), scope := hd.fScope (hd.stA 25), globals := 0, closure := [], defaults := Value.none, kwdefaults := Value.none } }
noncomputable def hd.o_442 (P : Params) : Obj := { cls := Value.none, data := Data.fields #[] }
noncomputable def hd.o_244 (P : Params) : Obj := { cls := Value.none, data := Data.fields #[] }
noncomputable def hd.o_376 (P : Params) : Obj := { cls := Value.type "code", data := Data.fields #[Value.str (Str.ofString "is_array") 608, Value.str (Str.ofString "is_array") 609, Value.str (Str.ofString "/claim/cut.py") 610, Value.int 162 0, Value.int 1 0, Value.int 0 0, Value.int 0 0, Value.int 3 0, Value.ref 318, Value.bool true, Value.int 181 0, Value.ref 319, Value.none, Value.ref 320, Value.ref 321, Value.ref 322, Value.int 612 0, Value.int 162 0, Value.str (Str.ofString "/claim/cut.py") 613] }
noncomputable def hd.o_506 (P : Params) : Obj := { cls := Value.type "tuple", data := Data.seq #[] }
noncomputable def hd.o_142 (P : Params) : Obj := { cls := Value.none, data := Data.func { name := hd.fName (hd.stB 7 0), qualname := Str.ofString "Text.__init__", params := hd.fPar (hd.stB 7 0), body := FuncBody.stmts (hd.fBody (hd.stB 7 0)), scope := hd.fScope (hd.stB 7 0), globals := 0, closure := [], defaults := Value.none, kwdefaults := Value.none } }
noncomputable def hd.o_212 (P : Params) : Obj := { cls := Value.type "code", data := Data.fields #[Value.str (Str.ofString "shown") 402, Value.str (Str.ofString "Opaque.shown") 403, Value.str (Str.ofString "/claim/cut.py") 404, Value.int 37 0, Value.int 1 0, Value.int 0 0, Value.int 0 0, Value.int 3 0, Value.ref 158, Value.bool true, Value.int 181 0, Value.ref 159, Value.none, Value.ref 160, Value.ref 161, Value.ref 162, Value.int 406 0, Value.int 37 0, Value.str (Str.ofString "/claim/cut.py") 407] }
noncomputable def hd.o_344 (P : Params) : Obj := { cls := Value.none, data := Data.fields #[] }
noncomputable def hd.o_474 (P : Params) : Obj := { cls := Value.type "code", data := Data.fields #[Value.str (Str.ofString "lisp_nreverse") 724, Value.str (Str.ofString "lisp_nreverse") 725, Value.str (Str.ofString "/claim/cut.py") 726, Value.int 233 0, Value.int 2 0, Value.int 0 0, Value.int 0 0, Value.int 3 0, Value.ref 414, Value.bool true, Value.int 181 0, Value.ref 415, Value.none, Value.ref 416, Value.ref 417, Value.ref 418, Value.int 732 0, Value.int 233 0, Value.str (Str.ofString "/claim/cut.py") 733] }
noncomputable def hd.o_278 (P : Params) : Obj := { cls := Value.type "code", data := Data.fields #[Value.str (Str.ofString "need_list") 478, Value.str (Str.ofString "need_list") 479, Value.str (Str.ofString "/claim/cut.py") 480, Value.int 70 0, Value.int 1 0, Value.int 0 0, Value.int 0 0, Value.int 3 0, Value.ref 222, Value.bool true, Value.int 181 0, Value.ref 223, Value.none, Value.ref 224, Value.ref 225, Value.ref 226, Value.int 482 0, Value.int 70 0, Value.str (Str.ofString "/claim/cut.py") 483] }
noncomputable def hd.o_408 (P : Params) : Obj := { cls := Value.none, data := Data.func { name := hd.fName (hd.stA 42), qualname := Str.ofString "lisp_elt", params := hd.fPar (hd.stA 42), body := FuncBody.stmts (hd.fBody (hd.stA 42)), scope := hd.fScope (hd.stA 42), globals := 0, closure := [], defaults := Value.none, kwdefaults := Value.none } }
noncomputable def hd.o_540 (P : Params) : Obj := { cls := Value.type "tuple", data := Data.seq #[] }
noncomputable def hd.o_90 (P : Params) : Obj := { cls := Value.type "tuple", data := Data.seq #[Value.str (Str.ofString "self") 244, Value.str (Str.ofString "number") 245, Value.str (Str.ofString "name") 246] }
noncomputable def hd.o_124 (P : Params) : Obj := { cls := Value.type "getset_descriptor", data := Data.fields #[Value.str (Str.ofString "__dict__") 294, Value.ref 82, Value.builtin "function.__dict__", Value.builtin "function.__dict__#set"] }
noncomputable def hd.o_194 (P : Params) : Obj := { cls := Value.type "getset_descriptor", data := Data.fields #[Value.str (Str.ofString "__dict__") 383, Value.ref 146, Value.builtin "function.__dict__", Value.builtin "function.__dict__#set"] }
noncomputable def hd.o_326 (P : Params) : Obj := { cls := Value.type "function", data := Data.func { name := hd.fName (hd.stA 27), qualname := Str.ofString "equal_by", params := hd.fPar (hd.stA 27), body := FuncBody.stmts (hd.fBody (hd.stA 27)), scope := hd.fScope (hd.stA 27), globals := 3, closure := [], defaults := Value.none, kwdefaults := Value.none, pyModule := Value.str (Str.ofString "emacs.equality") 508, code := Value.ref 274 } }
noncomputable def hd.o_458 (P : Params) : Obj := { cls := Value.type "tuple", data := Data.seq #[] }
noncomputable def hd.o_262 (P : Params) : Obj := { cls := Value.type "tuple", data := Data.seq #[] }
noncomputable def hd.o_392 (P : Params) : Obj := { cls := Value.type "tuple", data := Data.seq #[Value.str (Str.ofString "value") 631, Value.str (Str.ofString "place") 632, Value.str (Str.ofString "many") 633] }
noncomputable def hd.o_524 (P : Params) : Obj := { cls := Value.type "code", data := Data.fields #[Value.str (Str.ofString "_law_told") 786, Value.str (Str.ofString "_law_told") 787, Value.str (Str.ofString "/claim/cut.py") 788, Value.int 297 0, Value.int 2 0, Value.int 0 0, Value.int 0 0, Value.int 3 0, Value.ref 462, Value.bool true, Value.int 181 0, Value.ref 463, Value.none, Value.ref 464, Value.ref 465, Value.ref 466, Value.int 792 0, Value.int 297 0, Value.str (Str.ofString "/claim/cut.py") 793] }
noncomputable def hd.o_160 (P : Params) : Obj := { cls := Value.type "frame", slots := #[some (Value.ref 114), some (Value.ref 3), some (Value.ref 111), none, some (Value.str (Str.ofString "emacs.objects") 227), none, some (Value.ref 0)] }
noncomputable def hd.o_228 (P : Params) : Obj := { cls := Value.type "tuple", data := Data.seq #[] }
noncomputable def hd.o_360 (P : Params) : Obj := { cls := Value.type "tuple", data := Data.seq #[] }
noncomputable def hd.o_490 (P : Params) : Obj := { cls := Value.type "function", data := Data.func { name := hd.fName (hd.stA 54), qualname := Str.ofString "lisp_number_sequence", params := hd.fPar (hd.stA 54), body := FuncBody.stmts (hd.fBody (hd.stA 54)), scope := hd.fScope (hd.stA 54), globals := 3, closure := [], defaults := Value.none, kwdefaults := Value.none, pyModule := Value.str (Str.ofString "emacs.sequences") 590, code := Value.ref 434 } }
noncomputable def hd.o_294 (P : Params) : Obj := { cls := Value.type "tuple", data := Data.seq #[] }
noncomputable def hd.o_424 (P : Params) : Obj := { cls := Value.type "function", data := Data.func { name := hd.fName (hd.stA 44), qualname := Str.ofString "lisp_aset", params := hd.fPar (hd.stA 44), body := FuncBody.stmts (hd.fBody (hd.stA 44)), scope := hd.fScope (hd.stA 44), globals := 3, closure := [], defaults := Value.none, kwdefaults := Value.none, pyModule := Value.str (Str.ofString "emacs.sequences") 590, code := Value.ref 370 } }
noncomputable def hd.o_556 (P : Params) : Obj := { cls := Value.type "function", data := Data.func { name := hd.fName (hd.stA 65), qualname := Str.ofString "_law_counted", params := hd.fPar (hd.stA 65), body := FuncBody.stmts (hd.fBody (hd.stA 65)), scope := hd.fScope (hd.stA 65), globals := 3, closure := [], defaults := Value.none, kwdefaults := Value.none, pyModule := Value.str (Str.ofString "law_np0060_01") 753, code := Value.ref 498 } }
noncomputable def hd.o_64 (P : Params) : Obj := { cls := Value.type "code", data := Data.fields #[Value.str (Str.ofString "LispSignal") 198, Value.str (Str.ofString "LispSignal") 199, Value.str (Str.ofString "/claim/cut.py") 200, Value.int 5 0, Value.int 0 0, Value.int 0 0, Value.int 0 0, Value.int 0 0, Value.ref 25, Value.bool false, Value.int 181 0, Value.ref 26, Value.none, Value.none, Value.none, Value.none, Value.int 201 0, Value.int 5 0, Value.str (Str.ofString "/claim/cut.py") 202] }
noncomputable def hd.o_82 (P : Params) : Obj := { cls := Value.type "builtin_function_or_method", data := Data.fields #[Value.builtin "type.__prepare__", Value.type "type"] }
noncomputable def hd.o_116 (P : Params) : Obj := { cls := Value.type "tuple", data := Data.seq #[Value.str (Str.ofString "self") 285, Value.str (Str.ofString "car") 286, Value.str (Str.ofString "cdr") 287] }
noncomputable def hd.o_186 (P : Params) : Obj := { cls := Value.type "tuple", data := Data.seq #[Value.str (Str.ofString "self") 376, Value.str (Str.ofString "things") 377] }
noncomputable def hd.o_318 (P : Params) : Obj := { cls := Value.type "code", data := Data.fields #[Value.str (Str.ofString "are_of_one_class") 526, Value.str (Str.ofString "are_of_one_class") 527, Value.str (Str.ofString "/claim/cut.py") 528, Value.int 104 0, Value.int 2 0, Value.int 0 0, Value.int 0 0, Value.int 3 0, Value.ref 262, Value.bool true, Value.int 181 0, Value.ref 263, Value.none, Value.ref 264, Value.ref 265, Value.ref 266, Value.int 532 0, Value.int 104 0, Value.str (Str.ofString "/claim/cut.py") 533] }
noncomputable def hd.o_450 (P : Params) : Obj := { cls := Value.type "tuple", data := Data.seq #[Value.str (Str.ofString "world") 701, Value.str (Str.ofString "args") 702, Value.str (Str.ofString "found") 703, Value.str (Str.ofString "value") 704] }
noncomputable def hd.o_252 (P : Params) : Obj := { cls := Value.type "tuple", data := Data.seq #[Value.str (Str.ofString "datum") 455] }
noncomputable def hd.o_384 (P : Params) : Obj := { cls := Value.type "function", data := Data.func { name := hd.fName (hd.stA 38), qualname := Str.ofString "things_in", params := hd.fPar (hd.stA 38), body := FuncBody.stmts (hd.fBody (hd.stA 38)), scope := hd.fScope (hd.stA 38), globals := 3, closure := [], defaults := Value.none, kwdefaults := Value.none, pyModule := Value.str (Str.ofString "emacs.sequences") 590, code := Value.ref 330 } }
noncomputable def hd.o_516 (P : Params) : Obj := { cls := Value.none, data := Data.func { name := hd.fName (hd.stA 59), qualname := Str.ofString "_law_new", params := hd.fPar (hd.stA 59), body := FuncBody.stmts (hd.fBody (hd.stA 59)), scope := hd.fScope (hd.stA 59), globals := 0, closure := [], defaults := Value.none, kwdefaults := Value.none } }
noncomputable def hd.o_150 (P : Params) : Obj := { cls := Value.type "super", data := Data.fields #[Value.ref 104, Value.ref 104, Value.ref 104] }
noncomputable def hd.o_220 (P : Params) : Obj := { cls := Value.type "function", data := Data.func { name := hd.fName (hd.stB 10 1), qualname := Str.ofString "Opaque.kind", params := hd.fPar (hd.stB 10 1), body := FuncBody.stmts (hd.fBody (hd.stB 10 1)), scope := hd.fScope (hd.stB 10 1), globals := 3, closure := [], defaults := Value.none, kwdefaults := Value.none, pyModule := Value.str (Str.ofString "emacs.objects") 227, code := Value.ref 170 } }
noncomputable def hd.o_352 (P : Params) : Obj := { cls := Value.type "tuple", data := Data.seq #[Value.str (Str.ofString "many") 582, Value.str (Str.ofString "value") 583, Value.str (Str.ofString "ring") 584, Value.str (Str.ofString "left") 585, Value.str (Str.ofString "here") 586] }
noncomputable def hd.o_482 (P : Params) : Obj := { cls := Value.none, data := Data.fields #[] }
noncomputable def hd.o_286 (P : Params) : Obj := { cls := Value.type "function", data := Data.func { name := hd.fName (hd.stA 19), qualname := Str.ofString "need_whole", params := hd.fPar (hd.stA 19), body := FuncBody.stmts (hd.fBody (hd.stA 19)), scope := hd.fScope (hd.stA 19), globals := 3, closure := [], defaults := Value.none, kwdefaults := Value.none, pyModule := Value.str (Str.ofString "emacs.dataprims") 466, code := Value.ref 234 } }
noncomputable def hd.o_416 (P : Params) : Obj := { cls := Value.type "code", data := Data.fields #[Value.str (Str.ofString "lisp_aref") 654, Value.str (Str.ofString "lisp_aref") 655, Value.str (Str.ofString "/claim/cut.py") 656, Value.int 191 0, Value.int 2 0, Value.int 0 0, Value.int 0 0, Value.int 3 0, Value.ref 358, Value.bool true, Value.int 181 0, Value.ref 359, Value.none, Value.ref 360, Value.ref 361, Value.ref 362, Value.int 660 0, Value.int 191 0, Value.str (Str.ofString "/claim/cut.py") 661] }
noncomputable def hd.o_548 (P : Params) : Obj := { cls := Value.type "code", data := Data.fields #[Value.str (Str.ofString "_law_joined") 827, Value.str (Str.ofString "_law_joined") 828, Value.str (Str.ofString "/claim/cut.py") 829, Value.int 344 0, Value.int 2 0, Value.int 0 0, Value.int 0 0, Value.int 3 0, Value.ref 488, Value.bool true, Value.int 181 0, Value.ref 489, Value.none, Value.none, Value.none, Value.ref 490, Value.int 830 0, Value.int 344 0, Value.str (Str.ofString "/claim/cut.py") 831] }
noncomputable def hd.o_98 (P : Params) : Obj := { cls := Value.type "getset_descriptor", data := Data.fields #[Value.str (Str.ofString "__dict__") 253, Value.ref 58, Value.builtin "function.__dict__", Value.builtin "function.__dict__#set"] }
noncomputable def hd.o_134 (P : Params) : Obj := { cls := Value.none, data := Data.fields #[Value.int 24 0, Value.int 4 0, Value.ref 100] }
noncomputable def hd.o_204 (P : Params) : Obj := { cls := Value.none, data := Data.fields #[Value.int 37 0, Value.int 4 0, Value.ref 163, Value.int 40 0, Value.int 4 0, Value.ref 170, Value.int 43 0, Value.int 4 0, Value.ref 177] }
noncomputable def hd.o_334 (P : Params) : Obj := { cls := Value.type "tuple", data := Data.seq #[] }
noncomputable def hd.o_466 (P : Params) : Obj := { cls := Value.none, data := Data.func { name := hd.fName (hd.stA 50), qualname := Str.ofString "lisp_reverse", params := hd.fPar (hd.stA 50), body := FuncBody.stmts (hd.fBody (hd.stA 50)), scope := hd.fScope (hd.stA 50), globals := 0, closure := [], defaults := Value.none, kwdefaults := Value.none } }
noncomputable def hd.o_270 (P : Params) : Obj := { cls := Value.none, data := Data.func { name := hd.fName (hd.stA 17), qualname := Str.ofString "wrong", params := hd.fPar (hd.stA 17), body := FuncBody.stmts (hd.fBody (hd.stA 17)), scope := hd.fScope (hd.stA 17), globals := 0, closure := [], defaults := Value.none, kwdefaults := Value.none } }
noncomputable def hd.o_400 (P : Params) : Obj := { cls := Value.type "tuple", data := Data.seq #[] }
noncomputable def hd.o_532 (P : Params) : Obj := { cls := Value.type "function", data := Data.func { name := hd.fName (hd.stA 61), qualname := Str.ofString "_law_is_fresh", params := hd.fPar (hd.stA 61), body := FuncBody.stmts (hd.fBody (hd.stA 61)), scope := hd.fScope (hd.stA 61), globals := 3, closure := [], defaults := Value.none, kwdefaults := Value.none, pyModule := Value.str (Str.ofString "law_np0060_01") 753, code := Value.ref 474 } }
noncomputable def hd.o_168 (P : Params) : Obj := { cls := Value.type "tuple", data := Data.seq #[Value.str (Str.ofString "things") 352] }
noncomputable def hd.o_236 (P : Params) : Obj := { cls := Value.type "tuple", data := Data.seq #[] }
noncomputable def hd.o_368 (P : Params) : Obj := { cls := Value.none, data := Data.func { name := hd.fName (hd.stA 36), qualname := Str.ofString "need_code", params := hd.fPar (hd.stA 36), body := FuncBody.stmts (hd.fBody (hd.stA 36)), scope := hd.fScope (hd.stA 36), globals := 0, closure := [], defaults := Value.none, kwdefaults := Value.none } }
noncomputable def hd.o_498 (P : Params) : Obj := { cls := Value.type "tuple", data := Data.seq #[Value.str (Str.ofString "deck") 764, Value.str (Str.ofString "many") 765, Value.str (Str.ofString "mixed") 766] }
noncomputable def hd.o_302 (P : Params) : Obj := { cls := Value.none, data := Data.fields #[] }
noncomputable def hd.o_434 (P : Params) : Obj := { cls := Value.type "tuple", data := Data.seq #[] }
noncomputable def hd.o_54 (P : Params) : Obj := { cls := Value.type "tuple", data := Data.seq #[Value.str (Str.ofString "k") 190] }
noncomputable def hd.o_70 (P : Params) : Obj := { cls := Value.none, data := Data.func { name := hd.fName (hd.stB 2 0), qualname := Str.ofString "LispSignal.__init__", params := hd.fPar (hd.stB 2 0), body := FuncBody.stmts (hd.fBody (hd.stB 2 0)), scope := hd.fScope (hd.stB 2 0), globals := 0, closure := [], defaults := Value.none, kwdefaults := Value.none } }
noncomputable def hd.o_104 (P : Params) : Obj := { cls := Value.type "frame", data := Data.dict #[{ hash := PyData.keyHash P (Str.ofString "self"), key := Value.str (Str.ofString "self") 262, val := Value.ref 64 }, { hash := PyData.keyHash P (Str.ofString "number"), key := Value.str (Str.ofString "number") 263, val := Value.int 0 260 }, { hash := PyData.keyHash P (Str.ofString "name"), key := Value.str (Str.ofString "name") 264, val := Value.str (Str.ofString "nil") 261 }] 3 }
noncomputable def hd.o_174 (P : Params) : Obj := { cls := Value.type "builtin_function_or_method", data := Data.fields #[Value.builtin "object.__init_subclass__", Value.ref 125] }
noncomputable def hd.o_308 (P : Params) : Obj := { cls := Value.type "tuple", data := Data.seq #[] }
noncomputable def hd.o_440 (P : Params) : Obj := { cls := Value.type "function", data := Data.func { name := hd.fName (hd.stA 46), qualname := Str.ofString "lisp_make_vector", params := hd.fPar (hd.stA 46), body := FuncBody.stmts (hd.fBody (hd.stA 46)), scope := hd.fScope (hd.stA 46), globals := 3, closure := [], defaults := Value.none, kwdefaults := Value.none, pyModule := Value.str (Str.ofString "emacs.sequences") 590, code := Value.ref 384 } }
noncomputable def hd.o_242 (P : Params) : Obj := { cls := Value.type "function", data := Data.func { name := hd.fName (hd.stA 11), qualname := Str.ofString "list_of", params := hd.fPar (hd.stA 11), body := FuncBody.stmts (hd.fBody (hd.stA 11)), scope := hd.fScope (hd.stA 11), globals := 3, closure := [], defaults := Value.ref 186, kwdefaults := Value.none, pyModule := Value.str (Str.ofString "emacs.objects") 227, code := Value.ref 192 } }
noncomputable def hd.o_374 (P : Params) : Obj := { cls := Value.type "tuple", data := Data.seq #[] }
noncomputable def hd.o_504 (P : Params) : Obj := { cls := Value.none, data := Data.fields #[] }
noncomputable def hd.o_140 (P : Params) : Obj := { cls := Value.type "tuple", data := Data.seq #[Value.str (Str.ofString "self") 316, Value.str (Str.ofString "codes") 317, Value.str (Str.ofString "spans") 318] }
noncomputable def hd.o_210 (P : Params) : Obj := { cls := Value.type "tuple", data := Data.seq #[] }
noncomputable def hd.o_340 (P : Params) : Obj := { cls := Value.type "function", data := Data.func { name := hd.fName (hd.stA 29), qualname := Str.ofString "equal", params := hd.fPar (hd.stA 29), body := FuncBody.stmts (hd.fBody (hd.stA 29)), scope := hd.fScope (hd.stA 29), globals := 3, closure := [], defaults := Value.none, kwdefaults := Value.none, pyModule := Value.str (Str.ofString "emacs.equality") 508, code := Value.ref 288 } }
noncomputable def hd.o_472 (P : Params) : Obj := { cls := Value.type "tuple", data := Data.seq #[] }
noncomputable def hd.o_276 (P : Params) : Obj := { cls := Value.type "tuple", data := Data.seq #[] }
noncomputable def hd.o_406 (P : Params) : Obj := { cls := Value.type "tuple", data := Data.seq #[Value.str (Str.ofString "world") 648, Value.str (Str.ofString "args") 649, Value.str (Str.ofString "rest") 650] }
noncomputable def hd.o_538 (P : Params) : Obj := { cls := Value.type "code", data := Data.fields #[Value.str (Str.ofString "_law_places") 807, Value.str (Str.ofString "_law_places") 808, Value.str (Str.ofString "/claim/cut.py") 809, Value.int 306 0, Value.int 3 0, Value.int 0 0, Value.int 0 0, Value.int 3 0, Value.ref 476, Value.bool true, Value.int 181 0, Value.ref 477, Value.none, Value.ref 478, Value.ref 479, Value.ref 480, Value.int 818 0, Value.int 306 0, Value.str (Str.ofString "/claim/cut.py") 819] }
noncomputable def hd.o_88 (P : Params) : Obj := { cls := Value.type "tuple", data := Data.seq #[] }
noncomputable def hd.o_122 (P : Params) : Obj := { cls := Value.type "dict", data := Data.dict #[{ hash := PyData.keyHash P (Str.ofString "__module__"), key := Value.str (Str.ofString "__module__") 277, val := Value.str (Str.ofString "emacs.objects") 227 }, { hash := PyData.keyHash P (Str.ofString "__firstlineno__"), key := Value.str (Str.ofString "__firstlineno__") 281, val := Value.int 17 280 }, { hash := PyData.keyHash P (Str.ofString "__init__"), key := Value.str (Str.ofString "__init__") 290, val := Value.ref 79 }, { hash := PyData.keyHash P (Str.ofString "__static_attributes__"), key := Value.str (Str.ofString "__static_attributes__") 293, val := Value.ref 80 }, { hash := PyData.keyHash P (Str.ofString "__dict__"), key := Value.str (Str.ofString "__dict__") 295, val := Value.ref 83 }, { hash := PyData.keyHash P (Str.ofString "__weakref__"), key := Value.str (Str.ofString "__weakref__") 297, val := Value.ref 84 }, { hash := PyData.keyHash P (Str.ofString "__doc__"), key := Value.str (Str.ofString "__doc__") 298, val := Value.none }] 4 }
noncomputable def hd.o_192 (P : Params) : Obj := { cls := Value.type "dict", data := Data.dict #[{ hash := PyData.keyHash P (Str.ofString "__module__"), key := Value.str (Str.ofString "__module__") 368, val := Value.str (Str.ofString "emacs.objects") 227 }, { hash := PyData.keyHash P (Str.ofString "__firstlineno__"), key := Value.str (Str.ofString "__firstlineno__") 372, val := Value.int 31 371 }, { hash := PyData.keyHash P (Str.ofString "__init__"), key := Value.str (Str.ofString "__init__") 380, val := Value.ref 143 }, { hash := PyData.keyHash P (Str.ofString "__static_attributes__"), key := Value.str (Str.ofString "__static_attributes__") 382, val := Value.ref 144 }, { hash := PyData.keyHash P (Str.ofString "__dict__"), key := Value.str (Str.ofString "__dict__") 384, val := Value.ref 147 }, { hash := PyData.keyHash P (Str.ofString "__weakref__"), key := Value.str (Str.ofString "__weakref__") 386, val := Value.ref 148 }, { hash := PyData.keyHash P (Str.ofString "__doc__"), key := Value.str (Str.ofString "__doc__") 387, val := Value.none }] 4 }
noncomputable def hd.o_324 (P : Params) : Obj := { cls := Value.none, data := Data.func { name := hd.fName (hd.stA 27), qualname := Str.ofString "equal_by", params := hd.fPar (hd.stA 27), body := FuncBody.stmts (hd.fBody (hd.stA 27)), scope := hd.fScope (hd.stA 27), globals := 0, closure := [], defaults := Value.none, kwdefaults := Value.none } }
noncomputable def hd.o_456 (P : Params) : Obj := { cls := Value.none, data := Data.fields #[] }
noncomputable def hd.o_260 (P : Params) : Obj := { cls := Value.none, data := Data.fields #[] }
noncomputable def hd.o_390 (P : Params) : Obj := { cls := Value.type "tuple", data := Data.seq #[] }
noncomputable def hd.o_522 (P : Params) : Obj := { cls := Value.type "tuple", data := Data.seq #[] }
noncomputable def hd.o_158 (P : Params) : Obj := { cls := Value.none, data := Data.fields #[Value.int 29 0, Value.int 4 0, Value.ref 121] }
noncomputable def hd.o_226 (P : Params) : Obj := { cls := Value.type "code", data := Data.fields #[Value.str (Str.ofString "same_as") 416, Value.str (Str.ofString "Opaque.same_as") 417, Value.str (Str.ofString "/claim/cut.py") 418, Value.int 43 0, Value.int 2 0, Value.int 0 0, Value.int 0 0, Value.int 3 0, Value.ref 172, Value.bool true, Value.int 181 0, Value.ref 173, Value.none, Value.ref 174, Value.ref 175, Value.ref 176, Value.int 421 0, Value.int 43 0, Value.str (Str.ofString "/claim/cut.py") 422] }
noncomputable def hd.o_358 (P : Params) : Obj := { cls := Value.none, data := Data.fields #[] }
noncomputable def hd.o_488 (P : Params) : Obj := { cls := Value.none, data := Data.func { name := hd.fName (hd.stA 54), qualname := Str.ofString "lisp_number_sequence", params := hd.fPar (hd.stA 54), body := FuncBody.stmts (hd.fBody (hd.stA 54)), scope := hd.fScope (hd.stA 54), globals := 0, closure := [], defaults := Value.none, kwdefaults := Value.none } }
noncomputable def hd.o_292 (P : Params) : Obj := { cls := Value.type "code", data := Data.fields #[Value.str (Str.ofString "things_of") 492, Value.str (Str.ofString "things_of") 493, Value.str (Str.ofString "/claim/cut.py") 494, Value.int 78 0, Value.int 1 0, Value.int 0 0, Value.int 0 0, Value.int 3 0, Value.ref 236, Value.bool true, Value.int 181 0, Value.ref 237, Value.none, Value.ref 238, Value.ref 239, Value.ref 240, Value.int 498 0, Value.int 78 0, Value.str (Str.ofString "/claim/cut.py") 499] }
noncomputable def hd.o_422 (P : Params) : Obj := { cls := Value.none, data := Data.func { name := hd.fName (hd.stA 44), qualname := Str.ofString "lisp_aset", params := hd.fPar (hd.stA 44), body := FuncBody.stmts (hd.fBody (hd.stA 44)), scope := hd.fScope (hd.stA 44), globals := 0, closure := [], defaults := Value.none, kwdefaults := Value.none } }
noncomputable def hd.o_554 (P : Params) : Obj := { cls := Value.none, data := Data.func { name := hd.fName (hd.stA 65), qualname := Str.ofString "_law_counted", params := hd.fPar (hd.stA 65), body := FuncBody.stmts (hd.fBody (hd.stA 65)), scope := hd.fScope (hd.stA 65), globals := 0, closure := [], defaults := Value.none, kwdefaults := Value.none } }
noncomputable def hd.o_62 (P : Params) : Obj := { cls := Value.type "tuple", data := Data.seq #[] }
noncomputable def hd.o_78 (P : Params) : Obj := { cls := Value.type "builtin_function_or_method", data := Data.fields #[Value.builtin "object.__init_subclass__", Value.ref 38] }
noncomputable def hd.o_114 (P : Params) : Obj := { cls := Value.type "tuple", data := Data.seq #[] }
noncomputable def hd.o_184 (P : Params) : Obj := { cls := Value.type "tuple", data := Data.seq #[] }
noncomputable def hd.o_316 (P : Params) : Obj := { cls := Value.type "tuple", data := Data.seq #[] }
noncomputable def hd.o_448 (P : Params) : Obj := { cls := Value.type "tuple", data := Data.seq #[] }
noncomputable def hd.o_250 (P : Params) : Obj := { cls := Value.type "tuple", data := Data.seq #[] }
noncomputable def hd.o_382 (P : Params) : Obj := { cls := Value.none, data := Data.func { name := hd.fName (hd.stA 38), qualname := Str.ofString "things_in", params := hd.fPar (hd.stA 38), body := FuncBody.stmts (hd.fBody (hd.stA 38)), scope := hd.fScope (hd.stA 38), globals := 0, closure := [], defaults := Value.none, kwdefaults := Value.none } }
noncomputable def hd.o_514 (P : Params) : Obj := { cls := Value.type "tuple", data := Data.seq #[Value.str (Str.ofString "sort") 781, Value.str (Str.ofString "numbers") 782] }
noncomputable def hd.o_148 (P : Params) : Obj := { cls := Value.type "getset_descriptor", data := Data.fields #[Value.str (Str.ofString "__dict__") 325, Value.ref 104, Value.builtin "function.__dict__", Value.builtin "function.__dict__#set"] }
noncomputable def hd.o_218 (P : Params) : Obj := { cls := Value.none, data := Data.func { name := hd.fName (hd.stB 10 1), qualname := Str.ofString "Opaque.kind", params := hd.fPar (hd.stB 10 1), body := FuncBody.stmts (hd.fBody (hd.stB 10 1)), scope := hd.fScope (hd.stB 10 1), globals := 0, closure := [], defaults := Value.none, kwdefaults := Value.none } }
noncomputable def hd.o_350 (P : Params) : Obj := { cls := Value.type "tuple", data := Data.seq #[] }
noncomputable def hd.o_480 (P : Params) : Obj := { cls := Value.type "function", data := Data.func { name := hd.fName (hd.stA 52), qualname := Str.ofString "lisp_delete", params := hd.fPar (hd.stA 52), body := FuncBody.stmts (hd.fBody (hd.stA 52)), scope := hd.fScope (hd.stA 52), globals := 3, closure := [], defaults := Value.none, kwdefaults := Value.none, pyModule := Value.str (Str.ofString "emacs.sequences") 590, code := Value.ref 424 } }
noncomputable def hd.o_284 (P : Params) : Obj := { cls := Value.none, data := Data.func { name := hd.fName (hd.stA 19), qualname := Str.ofString "need_whole", params := hd.fPar (hd.stA 19), body := FuncBody.stmts (hd.fBody (hd.stA 19)), scope := hd.fScope (hd.stA 19), globals := 0, closure := [], defaults := Value.none, kwdefaults := Value.none } }
noncomputable def hd.o_414 (P : Params) : Obj := { cls := Value.type "tuple", data := Data.seq #[] }
noncomputable def hd.o_546 (P : Params) : Obj := { cls := Value.none, data := Data.fields #[] }
noncomputable def hd.o_96 (P : Params) : Obj := { cls := Value.type "dict", data := Data.dict #[{ hash := PyData.keyHash P (Str.ofString "__module__"), key := Value.str (Str.ofString "__module__") 236, val := Value.str (Str.ofString "emacs.objects") 227 }, { hash := PyData.keyHash P (Str.ofString "__firstlineno__"), key := Value.str (Str.ofString "__firstlineno__") 240, val := Value.int 11 239 }, { hash := PyData.keyHash P (Str.ofString "__init__"), key := Value.str (Str.ofString "__init__") 249, val := Value.ref 55 }, { hash := PyData.keyHash P (Str.ofString "__static_attributes__"), key := Value.str (Str.ofString "__static_attributes__") 252, val := Value.ref 56 }, { hash := PyData.keyHash P (Str.ofString "__dict__"), key := Value.str (Str.ofString "__dict__") 254, val := Value.ref 59 }, { hash := PyData.keyHash P (Str.ofString "__weakref__"), key := Value.str (Str.ofString "__weakref__") 256, val := Value.ref 60 }, { hash := PyData.keyHash P (Str.ofString "__doc__"), key := Value.str (Str.ofString "__doc__") 257, val := Value.none }] 4 }
noncomputable def hd.o_132 (P : Params) : Obj := { cls := Value.type "dict", data := Data.dict #[{ hash := PyData.keyHash P (Str.ofString "__module__"), key := Value.str (Str.ofString "__module__") 308, val := Value.str (Str.ofString "emacs.objects") 227 }, { hash := PyData.keyHash P (Str.ofString "__qualname__"), key := Value.str (Str.ofString "__qualname__") 310, val := Value.str (Str.ofString "Text") 309 }, { hash := PyData.keyHash P (Str.ofString "__firstlineno__"), key := Value.str (Str.ofString "__firstlineno__") 312, val := Value.int 22 311 }, { hash := PyData.keyHash P (Str.ofString "__init__"), key := Value.str (Str.ofString "__init__") 321, val := Value.ref 101 }, { hash := PyData.keyHash P (Str.ofString "__static_attributes__"), key := Value.str (Str.ofString "__static_attributes__") 324, val := Value.ref 102 }] 5 }
noncomputable def hd.o_202 (P : Params) : Obj := { cls := Value.type "dict", data := Data.dict #[{ hash := PyData.keyHash P (Str.ofString "__module__"), key := Value.str (Str.ofString "__module__") 397, val := Value.str (Str.ofString "emacs.objects") 227 }, { hash := PyData.keyHash P (Str.ofString "__qualname__"), key := Value.str (Str.ofString "__qualname__") 399, val := Value.str (Str.ofString "Opaque") 398 }, { hash := PyData.keyHash P (Str.ofString "__firstlineno__"), key := Value.str (Str.ofString "__firstlineno__") 401, val := Value.int 35 400 }, { hash := PyData.keyHash P (Str.ofString "shown"), key := Value.str (Str.ofString "shown") 408, val := Value.ref 164 }, { hash := PyData.keyHash P (Str.ofString "kind"), key := Value.str (Str.ofString "kind") 415, val := Value.ref 171 }, { hash := PyData.keyHash P (Str.ofString "same_as"), key := Value.str (Str.ofString "same_as") 423, val := Value.ref 178 }, { hash := PyData.keyHash P (Str.ofString "__static_attributes__"), key := Value.str (Str.ofString "__static_attributes__") 424, val := Value.ref 179 }] 7 }
noncomputable def hd.o_332 (P : Params) : Obj := { cls := Value.type "code", data := Data.fields #[Value.str (Str.ofString "are_any") 549, Value.str (Str.ofString "are_any") 550, Value.str (Str.ofString "/claim/cut.py") 551, Value.int 126 0, Value.int 2 0, Value.int 0 0, Value.int 0 0, Value.int 3 0, Value.ref 276, Value.bool true, Value.int 181 0, Value.ref 277, Value.none, Value.ref 278, Value.ref 279, Value.ref 280, Value.int 554 0, Value.int 126 0, Value.str (Str.ofString "/claim/cut.py") 555] }
noncomputable def hd.o_464 (P : Params) : Obj := { cls := Value.type "tuple", data := Data.seq #[Value.str (Str.ofString "world") 719, Value.str (Str.ofString "args") 720] }
noncomputable def hd.o_268 (P : Params) : Obj := { cls := Value.type "tuple", data := Data.seq #[Value.str (Str.ofString "name") 473, Value.str (Str.ofString "value") 474] }
noncomputable def hd.o_398 (P : Params) : Obj := { cls := Value.none, data := Data.fields #[] }
noncomputable def hd.o_530 (P : Params) : Obj := { cls := Value.none, data := Data.func { name := hd.fName (hd.stA 61), qualname := Str.ofString "_law_is_fresh", params := hd.fPar (hd.stA 61), body := FuncBody.stmts (hd.fBody (hd.stA 61)), scope := hd.fScope (hd.stA 61), globals := 0, closure := [], defaults := Value.none, kwdefaults := Value.none } }
noncomputable def hd.o_166 (P : Params) : Obj := { cls := Value.type "code", data := Data.fields #[Value.str (Str.ofString "__init__") 344, Value.str (Str.ofString "Vector.__init__") 345, Value.str (Str.ofString "/claim/cut.py") 346, Value.int 29 0, Value.int 2 0, Value.int 0 0, Value.int 0 0, Value.int 3 0, Value.ref 116, Value.bool true, Value.int 181 0, Value.ref 117, Value.none, Value.ref 118, Value.ref 119, Value.ref 120, Value.int 349 0, Value.int 29 0, Value.str (Str.ofString "/claim/cut.py") 350] }
noncomputable def hd.o_234 (P : Params) : Obj := { cls := Value.type "builtin_function_or_method", data := Data.fields #[Value.builtin "object.__init_subclass__", Value.ref 181] }
noncomputable def hd.o_366 (P : Params) : Obj := { cls := Value.type "tuple", data := Data.seq #[Value.str (Str.ofString "thing") 604] }
noncomputable def hd.o_496 (P : Params) : Obj := { cls := Value.type "tuple", data := Data.seq #[] }
noncomputable def hd.o_300 (P : Params) : Obj := { cls := Value.type "function", data := Data.func { name := hd.fName (hd.stA 21), qualname := Str.ofString "cdr_of", params := hd.fPar (hd.stA 21), body := FuncBody.stmts (hd.fBody (hd.stA 21)), scope := hd.fScope (hd.stA 21), globals := 3, closure := [], defaults := Value.none, kwdefaults := Value.none, pyModule := Value.str (Str.ofString "emacs.dataprims") 466, code := Value.ref 248 } }
noncomputable def hd.o_432 (P : Params) : Obj := { cls := Value.type "code", data := Data.fields #[Value.str (Str.ofString "lisp_fillarray") 672, Value.str (Str.ofString "lisp_fillarray") 673, Value.str (Str.ofString "/claim/cut.py") 674, Value.int 205 0, Value.int 2 0, Value.int 0 0, Value.int 0 0, Value.int 3 0, Value.ref 372, Value.bool true, Value.int 181 0, Value.ref 373, Value.none, Value.ref 374, Value.ref 375, Value.ref 376, Value.int 677 0, Value.int 205 0, Value.str (Str.ofString "/claim/cut.py") 678] }
noncomputable def hd.o_58 (P : Params) : Obj := { cls := Value.type "function", data := Data.func { name := hd.fName (hd.stA 0), qualname := Str.ofString "_wall", params := hd.fPar (hd.stA 0), body := FuncBody.stmts (hd.fBody (hd.stA 0)), scope := hd.fScope (hd.stA 0), globals := 3, closure := [], defaults := Value.none, kwdefaults := Value.none, pyModule := Value.str (Str.ofString "__main__") 164, code := Value.ref 20 } }
noncomputable def hd.o_74 (P : Params) : Obj := { cls := Value.type "dict", data := Data.dict #[{ hash := PyData.keyHash P (Str.ofString "__module__"), key := Value.str (Str.ofString "__module__") 203, val := Value.str (Str.ofString "emacs.errors") 194 }, { hash := PyData.keyHash P (Str.ofString "__firstlineno__"), key := Value.str (Str.ofString "__firstlineno__") 207, val := Value.int 5 206 }, { hash := PyData.keyHash P (Str.ofString "__init__"), key := Value.str (Str.ofString "__init__") 216, val := Value.ref 35 }, { hash := PyData.keyHash P (Str.ofString "__static_attributes__"), key := Value.str (Str.ofString "__static_attributes__") 219, val := Value.ref 36 }, { hash := PyData.keyHash P (Str.ofString "__weakref__"), key := Value.str (Str.ofString "__weakref__") 221, val := Value.ref 39 }, { hash := PyData.keyHash P (Str.ofString "__doc__"), key := Value.str (Str.ofString "__doc__") 222, val := Value.none }] 3 }
noncomputable def hd.o_110 (P : Params) : Obj := { cls := Value.type "tuple", data := Data.seq #[] }
noncomputable def hd.o_180 (P : Params) : Obj := { cls := Value.type "tuple", data := Data.seq #[] }
noncomputable def hd.o_312 (P : Params) : Obj := { cls := Value.type "function", data := Data.func { name := hd.fName (hd.stA 25), qualname := Str.ofString "parts_of", params := hd.fPar (hd.stA 25), body := FuncBody.stmts (hd.fBody (hd.stA 25)), scope := hd.fScope (hd.stA 25), globals := 3, closure := [], defaults := Value.none, kwdefaults := Value.none, pyModule := Value.str (Str.ofString "emacs.equality") 508, code := Value.ref 260 } }
noncomputable def hd.o_444 (P : Params) : Obj := { cls := Value.type "tuple", data := Data.seq #[] }
noncomputable def hd.o_246 (P : Params) : Obj := { cls := Value.type "tuple", data := Data.seq #[] }
noncomputable def hd.o_378 (P : Params) : Obj := { cls := Value.type "tuple", data := Data.seq #[] }
noncomputable def hd.o_508 (P : Params) : Obj := { cls := Value.type "code", data := Data.fields #[Value.str (Str.ofString "_law_row") 770, Value.str (Str.ofString "_law_row") 771, Value.str (Str.ofString "/claim/cut.py") 772, Value.int 283 0, Value.int 1 0, Value.int 0 0, Value.int 0 0, Value.int 3 0, Value.ref 448, Value.bool true, Value.int 181 0, Value.ref 449, Value.none, Value.ref 450, Value.ref 451, Value.ref 452, Value.int 775 0, Value.int 283 0, Value.str (Str.ofString "/claim/cut.py") 776] }
noncomputable def hd.o_144 (P : Params) : Obj := { cls := Value.type "function", data := Data.func { name := hd.fName (hd.stB 7 0), qualname := Str.ofString "Text.__init__", params := hd.fPar (hd.stB 7 0), body := FuncBody.stmts (hd.fBody (hd.stB 7 0)), scope := hd.fScope (hd.stB 7 0), globals := 3, closure := [], defaults := Value.ref 94, kwdefaults := Value.none, pyModule := Value.str (Str.ofString "emacs.objects") 227, code := Value.ref 100 } }
noncomputable def hd.o_214 (P : Params) : Obj := { cls := Value.type "tuple", data := Data.seq #[] }
noncomputable def hd.o_346 (P : Params) : Obj := { cls := Value.type "tuple", data := Data.seq #[] }
noncomputable def hd.o_476 (P : Params) : Obj := { cls := Value.type "tuple", data := Data.seq #[] }
noncomputable def hd.o_280 (P : Params) : Obj := { cls := Value.type "tuple", data := Data.seq #[] }
noncomputable def hd.o_410 (P : Params) : Obj := { cls := Value.type "function", data := Data.func { name := hd.fName (hd.stA 42), qualname := Str.ofString "lisp_elt", params := hd.fPar (hd.stA 42), body := FuncBody.stmts (hd.fBody (hd.stA 42)), scope := hd.fScope (hd.stA 42), globals := 3, closure := [], defaults := Value.none, kwdefaults := Value.none, pyModule := Value.str (Str.ofString "emacs.sequences") 590, code := Value.ref 356 } }
noncomputable def hd.o_542 (P : Params) : Obj := { cls := Value.none, data := Data.func { name := hd.fName (hd.stA 63), qualname := Str.ofString "_law_changed", params := hd.fPar (hd.stA 63), body := FuncBody.stmts (hd.fBody (hd.stA 63)), scope := hd.fScope (hd.stA 63), globals := 0, closure := [], defaults := Value.none, kwdefaults := Value.none } }
noncomputable def hd.o_92 (P : Params) : Obj := { cls := Value.none, data := Data.func { name := hd.fName (hd.stB 4 0), qualname := Str.ofString "Symbol.__init__", params := hd.fPar (hd.stB 4 0), body := FuncBody.stmts (hd.fBody (hd.stB 4 0)), scope := hd.fScope (hd.stB 4 0), globals := 0, closure := [], defaults := Value.none, kwdefaults := Value.none } }
noncomputable def hd.o_126 (P : Params) : Obj := { cls := Value.type "super", data := Data.fields #[Value.ref 82, Value.ref 82, Value.ref 82] }
noncomputable def hd.o_196 (P : Params) : Obj := { cls := Value.type "super", data := Data.fields #[Value.ref 146, Value.ref 146, Value.ref 146] }
noncomputable def hd.o_328 (P : Params) : Obj := { cls := Value.none, data := Data.fields #[] }
noncomputable def hd.o_460 (P : Params) : Obj := { cls := Value.type "code", data := Data.fields #[Value.str (Str.ofString "lisp_copy_sequence") 708, Value.str (Str.ofString "lisp_copy_sequence") 709, Value.str (Str.ofString "/claim/cut.py") 710, Value.int 227 0, Value.int 2 0, Value.int 0 0, Value.int 0 0, Value.int 3 0, Value.ref 400, Value.bool true, Value.int 181 0, Value.ref 401, Value.none, Value.ref 402, Value.ref 403, Value.ref 404, Value.int 713 0, Value.int 227 0, Value.str (Str.ofString "/claim/cut.py") 714] }
noncomputable def hd.o_264 (P : Params) : Obj := { cls := Value.type "code", data := Data.fields #[Value.str (Str.ofString "is_list") 459, Value.str (Str.ofString "is_list") 460, Value.str (Str.ofString "/claim/cut.py") 461, Value.int 64 0, Value.int 1 0, Value.int 0 0, Value.int 0 0, Value.int 3 0, Value.ref 208, Value.bool true, Value.int 181 0, Value.ref 209, Value.none, Value.ref 210, Value.ref 211, Value.ref 212, Value.int 463 0, Value.int 64 0, Value.str (Str.ofString "/claim/cut.py") 464] }
noncomputable def hd.o_394 (P : Params) : Obj := { cls := Value.none, data := Data.func { name := hd.fName (hd.stA 40), qualname := Str.ofString "need_place", params := hd.fPar (hd.stA 40), body := FuncBody.stmts (hd.fBody (hd.stA 40)), scope := hd.fScope (hd.stA 40), globals := 0, closure := [], defaults := Value.none, kwdefaults := Value.none } }
noncomputable def hd.o_526 (P : Params) : Obj := { cls := Value.type "tuple", data := Data.seq #[] }
noncomputable def hd.o_162 (P : Params) : Obj := { cls := Value.none, data := Data.fields #[] }
noncomputable def hd.o_230 (P : Params) : Obj := { cls := Value.type "type", data := Data.cls { name := Str.ofString "Opaque", bases := [Value.type "object"], mro := [Value.ref 181, Value.type "object"], ns := 180, qualname := Str.ofString "Opaque" }, slots := #[none, none, some (Value.str (Str.ofString "Opaque") 390), some (Value.str (Str.ofString "Opaque") 398), some (Value.builtin "object.__new__"), some (Value.bool true)] }
noncomputable def hd.o_362 (P : Params) : Obj := { cls := Value.type "code", data := Data.fields #[Value.str (Str.ofString "is_code") 594, Value.str (Str.ofString "is_code") 595, Value.str (Str.ofString "/claim/cut.py") 596, Value.int 156 0, Value.int 1 0, Value.int 0 0, Value.int 0 0, Value.int 3 0, Value.ref 304, Value.bool true, Value.int 181 0, Value.ref 305, Value.none, Value.ref 306, Value.ref 307, Value.ref 308, Value.int 598 0, Value.int 156 0, Value.str (Str.ofString "/claim/cut.py") 599] }
noncomputable def hd.o_492 (P : Params) : Obj := { cls := Value.none, data := Data.fields #[] }
noncomputable def hd.o_296 (P : Params) : Obj := { cls := Value.type "tuple", data := Data.seq #[Value.str (Str.ofString "value") 504] }
noncomputable def hd.o_428 (P : Params) : Obj := { cls := Value.none, data := Data.fields #[] }
noncomputable def hd.o_558 (P : Params) : Obj := { cls := Value.none, data := Data.fields #[] }
noncomputable def hd.o_66 (P : Params) : Obj := { cls := Value.type "tuple", data := Data.seq #[] }
noncomputable def hd.o_84 (P : Params) : Obj := { cls := Value.type "tuple", data := Data.seq #[] }
noncomputable def hd.o_118 (P : Params) : Obj := { cls := Value.none, data := Data.func { name := hd.fName (hd.stB 6 0), qualname := Str.ofString "Cons.__init__", params := hd.fPar (hd.stB 6 0), body := FuncBody.stmts (hd.fBody (hd.stB 6 0)), scope := hd.fScope (hd.stB 6 0), globals := 0, closure := [], defaults := Value.none, kwdefaults := Value.none } }
noncomputable def hd.o_188 (P : Params) : Obj := { cls := Value.none, data := Data.func { name := hd.fName (hd.stB 9 0), qualname := Str.ofString "ByteCode.__init__", params := hd.fPar (hd.stB 9 0), body := FuncBody.stmts (hd.fBody (hd.stB 9 0)), scope := hd.fScope (hd.stB 9 0), globals := 0, closure := [], defaults := Value.none, kwdefaults := Value.none } }
noncomputable def hd.o_320 (P : Params) : Obj := { cls := Value.type "tuple", data := Data.seq #[] }
noncomputable def hd.o_452 (P : Params) : Obj := { cls := Value.none, data := Data.func { name := hd.fName (hd.stA 48), qualname := Str.ofString "lisp_vconcat", params := hd.fPar (hd.stA 48), body := FuncBody.stmts (hd.fBody (hd.stA 48)), scope := hd.fScope (hd.stA 48), globals := 0, closure := [], defaults := Value.none, kwdefaults := Value.none } }
noncomputable def hd.o_254 (P : Params) : Obj := { cls := Value.none, data := Data.func { name := hd.fName (hd.stA 13), qualname := Str.ofString "is_whole", params := hd.fPar (hd.stA 13), body := FuncBody.stmts (hd.fBody (hd.stA 13)), scope := hd.fScope (hd.stA 13), globals := 0, closure := [], defaults := Value.none, kwdefaults := Value.none } }
noncomputable def hd.o_386 (P : Params) : Obj := { cls := Value.none, data := Data.fields #[] }
noncomputable def hd.o_518 (P : Params) : Obj := { cls := Value.type "function", data := Data.func { name := hd.fName (hd.stA 59), qualname := Str.ofString "_law_new", params := hd.fPar (hd.stA 59), body := FuncBody.stmts (hd.fBody (hd.stA 59)), scope := hd.fScope (hd.stA 59), globals := 3, closure := [], defaults := Value.none, kwdefaults := Value.none, pyModule := Value.str (Str.ofString "law_np0060_01") 753, code := Value.ref 460 } }
noncomputable def hd.o_154 (P : Params) : Obj := { cls := Value.type "tuple", data := Data.seq #[] }
noncomputable def hd.o_222 (P : Params) : Obj := { cls := Value.none, data := Data.fields #[] }
noncomputable def hd.o_354 (P : Params) : Obj := { cls := Value.none, data := Data.func { name := hd.fName (hd.stA 32), qualname := Str.ofString "rest_at", params := hd.fPar (hd.stA 32), body := FuncBody.stmts (hd.fBody (hd.stA 32)), scope := hd.fScope (hd.stA 32), globals := 0, closure := [], defaults := Value.none, kwdefaults := Value.none } }
noncomputable def hd.o_484 (P : Params) : Obj := { cls := Value.type "code", data := Data.fields #[Value.str (Str.ofString "lisp_remove") 741, Value.str (Str.ofString "lisp_remove") 742, Value.str (Str.ofString "/claim/cut.py") 743, Value.int 261 0, Value.int 2 0, Value.int 0 0, Value.int 0 0, Value.int 3 0, Value.ref 426, Value.bool true, Value.int 181 0, Value.ref 427, Value.none, Value.none, Value.none, Value.ref 428, Value.int 744 0, Value.int 261 0, Value.str (Str.ofString "/claim/cut.py") 745] }
noncomputable def hd.o_288 (P : Params) : Obj := { cls := Value.none, data := Data.fields #[] }
noncomputable def hd.o_418 (P : Params) : Obj := { cls := Value.type "tuple", data := Data.seq #[] }
noncomputable def hd.o_550 (P : Params) : Obj := { cls := Value.type "tuple", data := Data.seq #[] }
noncomputable def hd.o_100 (P : Params) : Obj := { cls := Value.type "super", data := Data.fields #[Value.ref 58, Value.ref 58, Value.ref 58] }
noncomputable def hd.o_136 (P : Params) : Obj := { cls := Value.type "frame", slots := #[some (Value.ref 92), some (Value.ref 3), some (Value.ref 89), none, some (Value.str (Str.ofString "emacs.objects") 227), none, some (Value.ref 0)] }
noncomputable def hd.o_206 (P : Params) : Obj := { cls := Value.type "frame", slots := #[some (Value.ref 156), some (Value.ref 3), some (Value.ref 153), none, some (Value.str (Str.ofString "emacs.objects") 227), none, some (Value.ref 0)] }
noncomputable def hd.o_336 (P : Params) : Obj := { cls := Value.type "tuple", data := Data.seq #[Value.str (Str.ofString "one") 560, Value.str (Str.ofString "other") 561] }
noncomputable def hd.o_468 (P : Params) : Obj := { cls := Value.type "function", data := Data.func { name := hd.fName (hd.stA 50), qualname := Str.ofString "lisp_reverse", params := hd.fPar (hd.stA 50), body := FuncBody.stmts (hd.fBody (hd.stA 50)), scope := hd.fScope (hd.stA 50), globals := 3, closure := [], defaults := Value.none, kwdefaults := Value.none, pyModule := Value.str (Str.ofString "emacs.sequences") 590, code := Value.ref 412 } }
noncomputable def hd.o_272 (P : Params) : Obj := { cls := Value.type "function", data := Data.func { name := hd.fName (hd.stA 17), qualname := Str.ofString "wrong", params := hd.fPar (hd.stA 17), body := FuncBody.stmts (hd.fBody (hd.stA 17)), scope := hd.fScope (hd.stA 17), globals := 3, closure := [], defaults := Value.none, kwdefaults := Value.none, pyModule := Value.str (Str.ofString "emacs.dataprims") 466, code := Value.ref 220 } }
noncomputable def hd.o_402 (P : Params) : Obj := { cls := Value.type "code", data := Data.fields #[Value.str (Str.ofString "lisp_length") 637, Value.str (Str.ofString "lisp_length") 638, Value.str (Str.ofString "/claim/cut.py") 639, Value.int 180 0, Value.int 2 0, Value.int 0 0, Value.int 0 0, Value.int 3 0, Value.ref 344, Value.bool true, Value.int 181 0, Value.ref 345, Value.none, Value.ref 346, Value.ref 347, Value.ref 348, Value.int 642 0, Value.int 180 0, Value.str (Str.ofString "/claim/cut.py") 643] }
noncomputable def hd.o_534 (P : Params) : Obj := { cls := Value.none, data := Data.fields #[] }
noncomputable def hd.o_170 (P : Params) : Obj := { cls := Value.type "type", data := Data.cls { name := Str.ofString "Vector", bases := [Value.type "object"], mro := [Value.ref 125, Value.type "object"], ns := 124, qualname := Str.ofString "Vector" }, slots := #[none, none, some (Value.str (Str.ofString "Vector") 332), some (Value.str (Str.ofString "Vector") 340), some (Value.builtin "object.__new__"), some (Value.bool true)] }
noncomputable def hd.o_238 (P : Params) : Obj := { cls := Value.type "tuple", data := Data.seq #[Value.str (Str.ofString "things") 435, Value.str (Str.ofString "tail") 436, Value.str (Str.ofString "found") 437, Value.str (Str.ofString "place") 438] }
noncomputable def hd.o_370 (P : Params) : Obj := { cls := Value.type "function", data := Data.func { name := hd.fName (hd.stA 36), qualname := Str.ofString "need_code", params := hd.fPar (hd.stA 36), body := FuncBody.stmts (hd.fBody (hd.stA 36)), scope := hd.fScope (hd.stA 36), globals := 3, closure := [], defaults := Value.none, kwdefaults := Value.none, pyModule := Value.str (Str.ofString "emacs.sequences") 590, code := Value.ref 316 } }
noncomputable def hd.o_500 (P : Params) : Obj := { cls := Value.none, data := Data.func { name := hd.fName (hd.stA 57), qualname := Str.ofString "_law_draw", params := hd.fPar (hd.stA 57), body := FuncBody.stmts (hd.fBody (hd.stA 57)), scope := hd.fScope (hd.stA 57), globals := 0, closure := [], defaults := Value.none, kwdefaults := Value.none } }
noncomputable def hd.o_304 (P : Params) : Obj := { cls := Value.type "tuple", data := Data.seq #[] }
noncomputable def hd.o_436 (P : Params) : Obj := { cls := Value.type "tuple", data := Data.seq #[Value.str (Str.ofString "world") 683, Value.str (Str.ofString "args") 684] }
noncomputable def hd.o_49 (P : Params) : Obj := { cls := Value.none, data := Data.dict #[{ hash := PyData.keyHash P (Str.ofString "type.__subclasses__.Exception.0"), key := Value.str (Str.ofString "type.__subclasses__.Exception.0") 223, val := Value.int 38 0 }, { hash := PyData.keyHash P (Str.ofString "type.__subclasses__.Exception.n"), key := Value.str (Str.ofString "type.__subclasses__.Exception.n") 224, val := Value.int 1 0 }] 2 }
noncomputable def hd.o_53 (P : Params) : Obj := { cls := Value.none, data := Data.fields #[] }
noncomputable def hd.o_69 (P : Params) : Obj := { cls := Value.type "tuple", data := Data.seq #[] }
noncomputable def hd.o_103 (P : Params) : Obj := { cls := Value.ref 58, dict := some 63 }
noncomputable def hd.o_173 (P : Params) : Obj := { cls := Value.type "super", data := Data.fields #[Value.ref 125, Value.ref 125, Value.ref 125] }
noncomputable def hd.o_307 (P : Params) : Obj := { cls := Value.type "function", data := Data.func { name := hd.fName (hd.stA 24), qualname := Str.ofString "eq", params := hd.fPar (hd.stA 24), body := FuncBody.stmts (hd.fBody (hd.stA 24)), scope := hd.fScope (hd.stA 24), globals := 3, closure := [], defaults := Value.none, kwdefaults := Value.none, pyModule := Value.str (Str.ofString "emacs.equality") 508, code := Value.ref 255 } }
noncomputable def hd.o_439 (P : Params) : Obj := { cls := Value.type "code", data := Data.fields #[Value.str (Str.ofString "lisp_make_vector") 680, Value.str (Str.ofString "lisp_make_vector") 681, Value.str (Str.ofString "/claim/cut.py") 682, Value.int 213 0, Value.int 2 0, Value.int 0 0, Value.int 0 0, Value.int 3 0, Value.ref 379, Value.bool true, Value.int 181 0, Value.ref 380, Value.none, Value.ref 381, Value.ref 382, Value.ref 383, Value.int 685 0, Value.int 213 0, Value.str (Str.ofString "/claim/cut.py") 686] }
noncomputable def hd.o_241 (P : Params) : Obj := { cls := Value.type "code", data := Data.fields #[Value.str (Str.ofString "list_of") 432, Value.str (Str.ofString "list_of") 433, Value.str (Str.ofString "/claim/cut.py") 434, Value.int 45 0, Value.int 2 0, Value.int 0 0, Value.int 0 0, Value.int 3 0, Value.ref 187, Value.bool true, Value.int 181 0, Value.ref 188, Value.none, Value.ref 189, Value.ref 190, Value.ref 191, Value.int 439 0, Value.int 45 0, Value.str (Str.ofString "/claim/cut.py") 440] }
noncomputable def hd.o_373 (P : Params) : Obj := { cls := Value.type "tuple", data := Data.seq #[Value.str (Str.ofString "value") 611] }
noncomputable def hd.o_503 (P : Params) : Obj := { cls := Value.type "tuple", data := Data.seq #[] }
noncomputable def hd.o_139 (P : Params) : Obj := { cls := Value.none, data := Data.fields #[] }
noncomputable def hd.o_209 (P : Params) : Obj := { cls := Value.type "tuple", data := Data.seq #[Value.str (Str.ofString "self") 405] }
noncomputable def hd.o_339 (P : Params) : Obj := { cls := Value.type "code", data := Data.fields #[Value.str (Str.ofString "equal") 557, Value.str (Str.ofString "equal") 558, Value.str (Str.ofString "/claim/cut.py") 559, Value.int 128 0, Value.int 2 0, Value.int 0 0, Value.int 0 0, Value.int 3 0, Value.ref 283, Value.bool true, Value.int 181 0, Value.ref 284, Value.none, Value.ref 285, Value.ref 286, Value.ref 287, Value.int 562 0, Value.int 128 0, Value.str (Str.ofString "/claim/cut.py") 563] }
noncomputable def hd.o_471 (P : Params) : Obj := { cls := Value.type "tuple", data := Data.seq #[Value.str (Str.ofString "world") 727, Value.str (Str.ofString "args") 728, Value.str (Str.ofString "found") 729, Value.str (Str.ofString "here") 730, Value.str (Str.ofString "rest") 731] }
noncomputable def hd.o_275 (P : Params) : Obj := { cls := Value.type "tuple", data := Data.seq #[Value.str (Str.ofString "value") 481] }
noncomputable def hd.o_405 (P : Params) : Obj := { cls := Value.none, data := Data.fields #[] }
noncomputable def hd.o_537 (P : Params) : Obj := { cls := Value.none, data := Data.func { name := hd.fName (hd.stA 62), qualname := Str.ofString "_law_places", params := hd.fPar (hd.stA 62), body := FuncBody.stmts (hd.fBody (hd.stA 62)), scope := hd.fScope (hd.stA 62), globals := 0, closure := [], defaults := Value.none, kwdefaults := Value.none } }
noncomputable def hd.o_87 (P : Params) : Obj := { cls := Value.type "frame", slots := #[some (Value.ref 47), some (Value.ref 3), some (Value.ref 44), none, some (Value.str (Str.ofString "emacs.objects") 227), none, some (Value.ref 0)] }
noncomputable def hd.o_121 (P : Params) : Obj := { cls := Value.type "tuple", data := Data.seq #[Value.str (Str.ofString "car") 291, Value.str (Str.ofString "cdr") 292] }
noncomputable def hd.o_191 (P : Params) : Obj := { cls := Value.type "tuple", data := Data.seq #[Value.str (Str.ofString "things") 381] }
noncomputable def hd.o_323 (P : Params) : Obj := { cls := Value.type "tuple", data := Data.seq #[] }
noncomputable def hd.o_455 (P : Params) : Obj := { cls := Value.type "tuple", data := Data.seq #[] }
noncomputable def hd.o_259 (P : Params) : Obj := { cls := Value.type "tuple", data := Data.seq #[] }
noncomputable def hd.o_389 (P : Params) : Obj := { cls := Value.type "function", data := Data.func { name := hd.fName (hd.stA 39), qualname := Str.ofString "alike", params := hd.fPar (hd.stA 39), body := FuncBody.stmts (hd.fBody (hd.stA 39)), scope := hd.fScope (hd.stA 39), globals := 3, closure := [], defaults := Value.none, kwdefaults := Value.none, pyModule := Value.str (Str.ofString "emacs.sequences") 590, code := Value.ref 335 } }
noncomputable def hd.o_521 (P : Params) : Obj := { cls := Value.type "tuple", data := Data.seq #[Value.str (Str.ofString "deed") 789, Value.str (Str.ofString "args") 790, Value.str (Str.ofString "error") 791] }
noncomputable def hd.o_157 (P : Params) : Obj := { cls := Value.type "tuple", data := Data.seq #[] }
noncomputable def hd.o_225 (P : Params) : Obj := { cls := Value.none, data := Data.func { name := hd.fName (hd.stB 10 2), qualname := Str.ofString "Opaque.same_as", params := hd.fPar (hd.stB 10 2), body := FuncBody.stmts (hd.fBody (hd.stB 10 2)), scope := hd.fScope (hd.stB 10 2), globals := 0, closure := [], defaults := Value.none, kwdefaults := Value.none } }
noncomputable def hd.o_357 (P : Params) : Obj := { cls := Value.type "tuple", data := Data.seq #[] }
noncomputable def hd.o_487 (P : Params) : Obj := { cls := Value.none, data := Data.fields #[] }
noncomputable def hd.o_291 (P : Params) : Obj := { cls := Value.none, data := Data.func { name := hd.fName (hd.stA 20), qualname := Str.ofString "things_of", params := hd.fPar (hd.stA 20), body := FuncBody.stmts (hd.fBody (hd.stA 20)), scope := hd.fScope (hd.stA 20), globals := 0, closure := [], defaults := Value.none, kwdefaults := Value.none } }
noncomputable def hd.o_421 (P : Params) : Obj := { cls := Value.type "tuple", data := Data.seq #[] }
noncomputable def hd.o_553 (P : Params) : Obj := { cls := Value.type "tuple", data := Data.seq #[] }
noncomputable def hd.o_61 (P : Params) : Obj := { cls := Value.type "dict", data := Data.dict #[{ hash := PyData.keyHash P (Str.ofString "__module__"), key := Value.str (Str.ofString "__module__") 203, val := Value.str (Str.ofString "emacs.errors") 194 }, { hash := PyData.keyHash P (Str.ofString "__qualname__"), key := Value.str (Str.ofString "__qualname__") 205, val := Value.str (Str.ofString "LispSignal") 204 }, { hash := PyData.keyHash P (Str.ofString "__firstlineno__"), key := Value.str (Str.ofString "__firstlineno__") 207, val := Value.int 5 206 }, { hash := PyData.keyHash P (Str.ofString "__init__"), key := Value.str (Str.ofString "__init__") 216, val := Value.ref 35 }, { hash := PyData.keyHash P (Str.ofString "__static_attributes__"), key := Value.str (Str.ofString "__static_attributes__") 219, val := Value.ref 36 }] 5 }
noncomputable def hd.o_77 (P : Params) : Obj := { cls := Value.type "super", data := Data.fields #[Value.ref 38, Value.ref 38, Value.ref 38] }
noncomputable def hd.o_113 (P : Params) : Obj := { cls := Value.type "frame", slots := #[some (Value.ref 71), some (Value.ref 3), some (Value.ref 68), none, some (Value.str (Str.ofString "emacs.objects") 227), none, some (Value.ref 0)] }
noncomputable def hd.o_183 (P : Params) : Obj := { cls := Value.type "frame", slots := #[some (Value.ref 135), some (Value.ref 3), some (Value.ref 132), none, some (Value.str (Str.ofString "emacs.objects") 227), none, some (Value.ref 0)] }
noncomputable def hd.o_315 (P : Params) : Obj := { cls := Value.type "tuple", data := Data.seq #[Value.str (Str.ofString "one") 529, Value.str (Str.ofString "other") 530, Value.str (Str.ofString "word") 531] }
noncomputable def hd.o_447 (P : Params) : Obj := { cls := Value.type "function", data := Data.func { name := hd.fName (hd.stA 47), qualname := Str.ofString "lisp_append", params := hd.fPar (hd.stA 47), body := FuncBody.stmts (hd.fBody (hd.stA 47)), scope := hd.fScope (hd.stA 47), globals := 3, closure := [], defaults := Value.none, kwdefaults := Value.none, pyModule := Value.str (Str.ofString "emacs.sequences") 590, code := Value.ref 391 } }
noncomputable def hd.o_249 (P : Params) : Obj := { cls := Value.type "function", data := Data.func { name := hd.fName (hd.stA 12), qualname := Str.ofString "split_list", params := hd.fPar (hd.stA 12), body := FuncBody.stmts (hd.fBody (hd.stA 12)), scope := hd.fScope (hd.stA 12), globals := 3, closure := [], defaults := Value.none, kwdefaults := Value.none, pyModule := Value.str (Str.ofString "emacs.objects") 227, code := Value.ref 199 } }
noncomputable def hd.o_381 (P : Params) : Obj := { cls := Value.type "tuple", data := Data.seq #[] }
noncomputable def hd.o_513 (P : Params) : Obj := { cls := Value.none, data := Data.fields #[] }
noncomputable def hd.o_147 (P : Params) : Obj := { cls := Value.type "type", data := Data.cls { name := Str.ofString "Text", bases := [Value.type "object"], mro := [Value.ref 104, Value.type "object"], ns := 103, qualname := Str.ofString "Text" }, slots := #[none, none, some (Value.str (Str.ofString "Text") 301), some (Value.str (Str.ofString "Text") 309), some (Value.builtin "object.__new__"), some (Value.bool true)] }
noncomputable def hd.o_217 (P : Params) : Obj := { cls := Value.type "tuple", data := Data.seq #[] }
noncomputable def hd.o_349 (P : Params) : Obj := { cls := Value.type "function", data := Data.func { name := hd.fName (hd.stA 31), qualname := Str.ofString "ring_of", params := hd.fPar (hd.stA 31), body := FuncBody.stmts (hd.fBody (hd.stA 31)), scope := hd.fScope (hd.stA 31), globals := 3, closure := [], defaults := Value.none, kwdefaults := Value.none, pyModule := Value.str (Str.ofString "emacs.listprims") 565, code := Value.ref 295 } }
noncomputable def hd.o_479 (P : Params) : Obj := { cls := Value.type "code", data := Data.fields #[Value.str (Str.ofString "lisp_delete") 735, Value.str (Str.ofString "lisp_delete") 736, Value.str (Str.ofString "/claim/cut.py") 737, Value.int 246 0, Value.int 2 0, Value.int 0 0, Value.int 0 0, Value.int 3 0, Value.ref 421, Value.bool true, Value.int 181 0, Value.ref 422, Value.none, Value.none, Value.none, Value.ref 423, Value.int 738 0, Value.int 246 0, Value.str (Str.ofString "/claim/cut.py") 739] }
noncomputable def hd.o_283 (P : Params) : Obj := { cls := Value.type "tuple", data := Data.seq #[] }
noncomputable def hd.o_413 (P : Params) : Obj := { cls := Value.type "tuple", data := Data.seq #[Value.str (Str.ofString "world") 657, Value.str (Str.ofString "args") 658, Value.str (Str.ofString "things") 659] }
noncomputable def hd.o_545 (P : Params) : Obj := { cls := Value.type "tuple", data := Data.seq #[] }
noncomputable def hd.o_95 (P : Params) : Obj := { cls := Value.type "tuple", data := Data.seq #[Value.str (Str.ofString "name") 250, Value.str (Str.ofString "number") 251] }
noncomputable def hd.o_131 (P : Params) : Obj := { cls := Value.type "builtin_function_or_method", data := Data.fields #[Value.builtin "type.__prepare__", Value.type "type"] }
noncomputable def hd.o_201 (P : Params) : Obj := { cls := Value.type "builtin_function_or_method", data := Data.fields #[Value.builtin "type.__prepare__", Value.type "type"] }
noncomputable def hd.o_331 (P : Params) : Obj := { cls := Value.none, data := Data.func { name := hd.fName (hd.stA 28), qualname := Str.ofString "are_any", params := hd.fPar (hd.stA 28), body := FuncBody.stmts (hd.fBody (hd.stA 28)), scope := hd.fScope (hd.stA 28), globals := 0, closure := [], defaults := Value.none, kwdefaults := Value.none } }
noncomputable def hd.o_463 (P : Params) : Obj := { cls := Value.none, data := Data.fields #[] }
noncomputable def hd.o_267 (P : Params) : Obj := { cls := Value.none, data := Data.fields #[] }
noncomputable def hd.o_397 (P : Params) : Obj := { cls := Value.type "tuple", data := Data.seq #[] }
noncomputable def hd.o_529 (P : Params) : Obj := { cls := Value.type "tuple", data := Data.seq #[] }
noncomputable def hd.o_165 (P : Params) : Obj := { cls := Value.none, data := Data.func { name := hd.fName (hd.stB 8 0), qualname := Str.ofString "Vector.__init__", params := hd.fPar (hd.stB 8 0), body := FuncBody.stmts (hd.fBody (hd.stB 8 0)), scope := hd.fScope (hd.stB 8 0), globals := 0, closure := [], defaults := Value.none, kwdefaults := Value.none } }
noncomputable def hd.o_233 (P : Params) : Obj := { cls := Value.type "super", data := Data.fields #[Value.ref 181, Value.ref 181, Value.ref 181] }
noncomputable def hd.o_365 (P : Params) : Obj := { cls := Value.none, data := Data.fields #[] }
noncomputable def hd.o_495 (P : Params) : Obj := { cls := Value.type "function", data := Data.func { name := hd.fName (hd.stA 56), qualname := Str.ofString "_law_deck", params := hd.fPar (hd.stA 56), body := FuncBody.stmts (hd.fBody (hd.stA 56)), scope := hd.fScope (hd.stA 56), globals := 3, closure := [], defaults := Value.none, kwdefaults := Value.none, pyModule := Value.str (Str.ofString "law_np0060_01") 753, code := Value.ref 439 } }
noncomputable def hd.o_299 (P : Params) : Obj := { cls := Value.type "code", data := Data.fields #[Value.str (Str.ofString "cdr_of") 501, Value.str (Str.ofString "cdr_of") 502, Value.str (Str.ofString "/claim/cut.py") 503, Value.int 86 0, Value.int 1 0, Value.int 0 0, Value.int 0 0, Value.int 3 0, Value.ref 243, Value.bool true, Value.int 181 0, Value.ref 244, Value.none, Value.ref 245, Value.ref 246, Value.ref 247, Value.int 505 0, Value.int 86 0, Value.str (Str.ofString "/claim/cut.py") 506] }
noncomputable def hd.o_431 (P : Params) : Obj := { cls := Value.none, data := Data.func { name := hd.fName (hd.stA 45), qualname := Str.ofString "lisp_fillarray", params := hd.fPar (hd.stA 45), body := FuncBody.stmts (hd.fBody (hd.stA 45)), scope := hd.fScope (hd.stA 45), globals := 0, closure := [], defaults := Value.none, kwdefaults := Value.none } }
noncomputable def hd.o_561 (P : Params) : Obj := { cls := Value.type "function", data := Data.func { name := hd.fName (hd.stA 66), qualname := Str.ofString "law", params := hd.fPar (hd.stA 66), body := FuncBody.stmts (hd.fBody (hd.stA 66)), scope := hd.fScope (hd.stA 66), globals := 3, closure := [], defaults := Value.none, kwdefaults := Value.none, pyModule := Value.str (Str.ofString "law_np0060_01") 753, code := Value.ref 503 } }
noncomputable def hd.o_511 (P : Params) : Obj := { cls := Value.none, data := Data.fields #[Value.int 1 0, Value.int 0 0, Value.ref 20, Value.int 5 0, Value.int 0 0, Value.ref 27, Value.int 11 0, Value.int 0 0, Value.ref 47, Value.int 17 0, Value.int 0 0, Value.ref 71, Value.int 22 0, Value.int 0 0, Value.ref 92, Value.int 27 0, Value.int 0 0, Value.ref 114, Value.int 31 0, Value.int 0 0, Value.ref 135, Value.int 35 0, Value.int 0 0, Value.ref 156, Value.int 45 0, Value.int 0 0, Value.ref 192, Value.int 50 0, Value.int 0 0, Value.ref 199, Value.int 62 0, Value.int 0 0, Value.ref 206, Value.int 64 0, Value.int 0 0, Value.ref 213, Value.int 68 0, Value.int 0 0, Value.ref 220, Value.int 70 0, Value.int 0 0, Value.ref 227, Value.int 74 0, Value.int 0 0, Value.ref 234, Value.int 78 0, Value.int 0 0, Value.ref 241, Value.int 86 0, Value.int 0 0, Value.ref 248, Value.int 90 0, Value.int 0 0, Value.ref 255, Value.int 94 0, Value.int 0 0, Value.ref 260, Value.int 104 0, Value.int 0 0, Value.ref 267, Value.int 109 0, Value.int 0 0, Value.ref 274, Value.int 126 0, Value.int 0 0, Value.ref 281, Value.int 128 0, Value.int 0 0, Value.ref 288, Value.int 131 0, Value.int 0 0, Value.ref 295, Value.int 144 0, Value.int 0 0, Value.ref 302, Value.int 156 0, Value.int 0 0, Value.ref 309, Value.int 158 0, Value.int 0 0, Value.ref 316, Value.int 162 0, Value.int 0 0, Value.ref 323, Value.int 164 0, Value.int 0 0, Value.ref 330, Value.int 172 0, Value.int 0 0, Value.ref 335, Value.int 176 0, Value.int 0 0, Value.ref 342, Value.int 180 0, Value.int 0 0, Value.ref 349, Value.int 182 0, Value.int 0 0, Value.ref 356, Value.int 191 0, Value.int 0 0, Value.ref 363, Value.int 196 0, Value.int 0 0, Value.ref 370, Value.int 205 0, Value.int 0 0, Value.ref 377, Value.int 213 0, Value.int 0 0, Value.ref 384, Value.int 217 0, Value.int 0 0, Value.ref 391, Value.int 222 0, Value.int 0 0, Value.ref 398, Value.int 227 0, Value.int 0 0, Value.ref 405, Value.int 231 0, Value.int 0 0, Value.ref 412, Value.int 233 0, Value.int 0 0, Value.ref 419, Value.int 246 0, Value.int 0 0, Value.ref 424, Value.int 261 0, Value.int 0 0, Value.ref 429, Value.int 263 0, Value.int 0 0, Value.ref 434, Value.int 275 0, Value.int 0 0, Value.ref 439, Value.int 277 0, Value.int 0 0, Value.ref 446, Value.int 283 0, Value.int 0 0, Value.ref 453, Value.int 293 0, Value.int 0 0, Value.ref 460, Value.int 297 0, Value.int 0 0, Value.ref 467, Value.int 302 0, Value.int 0 0, Value.ref 474, Value.int 306 0, Value.int 0 0, Value.ref 481, Value.int 323 0, Value.int 0 0, Value.ref 486, Value.int 344 0, Value.int 0 0, Value.ref 491, Value.int 360 0, Value.int 0 0, Value.ref 498, Value.int 378 0, Value.int 0 0, Value.ref 503] }
noncomputable def hd.o_57 (P : Params) : Obj := { cls := Value.type "code", data := Data.fields #[Value.str (Str.ofString "_wall") 187, Value.str (Str.ofString "_wall") 188, Value.str (Str.ofString "/claim/cut.py") 189, Value.int 1 0, Value.int 1 0, Value.int 0 0, Value.int 0 0, Value.int 3 0, Value.ref 15, Value.bool true, Value.int 181 0, Value.ref 16, Value.none, Value.ref 17, Value.ref 18, Value.ref 19, Value.int 191 0, Value.int 1 0, Value.str (Str.ofString "/claim/cut.py") 192] }
noncomputable def hd.o_73 (P : Params) : Obj := { cls := Value.type "tuple", data := Data.seq #[Value.str (Str.ofString "data") 217, Value.str (Str.ofString "symbol") 218] }
noncomputable def hd.o_109 (P : Params) : Obj := { cls := Value.type "dict", data := Data.dict #[{ hash := PyData.keyHash P (Str.ofString "__module__"), key := Value.str (Str.ofString "__module__") 277, val := Value.str (Str.ofString "emacs.objects") 227 }, { hash := PyData.keyHash P (Str.ofString "__qualname__"), key := Value.str (Str.ofString "__qualname__") 279, val := Value.str (Str.ofString "Cons") 278 }, { hash := PyData.keyHash P (Str.ofString "__firstlineno__"), key := Value.str (Str.ofString "__firstlineno__") 281, val := Value.int 17 280 }, { hash := PyData.keyHash P (Str.ofString "__init__"), key := Value.str (Str.ofString "__init__") 290, val := Value.ref 79 }, { hash := PyData.keyHash P (Str.ofString "__static_attributes__"), key := Value.str (Str.ofString "__static_attributes__") 293, val := Value.ref 80 }] 5 }
noncomputable def hd.o_179 (P : Params) : Obj := { cls := Value.type "dict", data := Data.dict #[{ hash := PyData.keyHash P (Str.ofString "__module__"), key := Value.str (Str.ofString "__module__") 368, val := Value.str (Str.ofString "emacs.objects") 227 }, { hash := PyData.keyHash P (Str.ofString "__qualname__"), key := Value.str (Str.ofString "__qualname__") 370, val := Value.str (Str.ofString "ByteCode") 369 }, { hash := PyData.keyHash P (Str.ofString "__firstlineno__"), key := Value.str (Str.ofString "__firstlineno__") 372, val := Value.int 31 371 }, { hash := PyData.keyHash P (Str.ofString "__init__"), key := Value.str (Str.ofString "__init__") 380, val := Value.ref 143 }, { hash := PyData.keyHash P (Str.ofString "__static_attributes__"), key := Value.str (Str.ofString "__static_attributes__") 382, val := Value.ref 144 }] 5 }
noncomputable def hd.o_311 (P : Params) : Obj := { cls := Value.type "code", data := Data.fields #[Value.str (Str.ofString "parts_of") 520, Value.str (Str.ofString "parts_of") 521, Value.str (Str.ofString "/claim/cut.py") 522, Value.int 94 0, Value.int 2 0, Value.int 0 0, Value.int 0 0, Value.int 3 0, Value.ref 257, Value.bool true, Value.int 181 0, Value.ref 258, Value.none, Value.none, Value.none, Value.ref 259, Value.int 523 0, Value.int 94 0, Value.str (Str.ofString "/claim/cut.py") 524] }
noncomputable def hd.o_443 (P : Params) : Obj := { cls := Value.type "tuple", data := Data.seq #[Value.str (Str.ofString "world") 691, Value.str (Str.ofString "args") 692, Value.str (Str.ofString "found") 693, Value.str (Str.ofString "place") 694] }
noncomputable def hd.o_245 (P : Params) : Obj := { cls := Value.type "tuple", data := Data.seq #[Value.str (Str.ofString "datum") 445, Value.str (Str.ofString "things") 446, Value.str (Str.ofString "at") 447, Value.str (Str.ofString "slow") 448] }
noncomputable def hd.o_377 (P : Params) : Obj := { cls := Value.type "function", data := Data.func { name := hd.fName (hd.stA 37), qualname := Str.ofString "is_array", params := hd.fPar (hd.stA 37), body := FuncBody.stmts (hd.fBody (hd.stA 37)), scope := hd.fScope (hd.stA 37), globals := 3, closure := [], defaults := Value.none, kwdefaults := Value.none, pyModule := Value.str (Str.ofString "emacs.sequences") 590, code := Value.ref 323 } }
noncomputable def hd.o_507 (P : Params) : Obj := { cls := Value.none, data := Data.func { name := hd.fName (hd.stA 58), qualname := Str.ofString "_law_row", params := hd.fPar (hd.stA 58), body := FuncBody.stmts (hd.fBody (hd.stA 58)), scope := hd.fScope (hd.stA 58), globals := 0, closure := [], defaults := Value.none, kwdefaults := Value.none } }
noncomputable def hd.o_143 (P : Params) : Obj := { cls := Value.type "code", data := Data.fields #[Value.str (Str.ofString "__init__") 313, Value.str (Str.ofString "Text.__init__") 314, Value.str (Str.ofString "/claim/cut.py") 315, Value.int 24 0, Value.int 3 0, Value.int 0 0, Value.int 0 0, Value.int 3 0, Value.ref 95, Value.bool true, Value.int 181 0, Value.ref 96, Value.none, Value.ref 97, Value.ref 98, Value.ref 99, Value.int 319 0, Value.int 24 0, Value.str (Str.ofString "/claim/cut.py") 320] }
noncomputable def hd.o_213 (P : Params) : Obj := { cls := Value.type "function", data := Data.func { name := hd.fName (hd.stB 10 0), qualname := Str.ofString "Opaque.shown", params := hd.fPar (hd.stB 10 0), body := FuncBody.stmts (hd.fBody (hd.stB 10 0)), scope := hd.fScope (hd.stB 10 0), globals := 3, closure := [], defaults := Value.none, kwdefaults := Value.none, pyModule := Value.str (Str.ofString "emacs.objects") 227, code := Value.ref 163 } }
noncomputable def hd.o_345 (P : Params) : Obj := { cls := Value.type "tuple", data := Data.seq #[Value.str (Str.ofString "value") 570, Value.str (Str.ofString "slow") 571, Value.str (Str.ofString "fast") 572, Value.str (Str.ofString "ahead") 573, Value.str (Str.ofString "here") 574, Value.str (Str.ofString "many") 575] }
noncomputable def hd.o_475 (P : Params) : Obj := { cls := Value.type "function", data := Data.func { name := hd.fName (hd.stA 51), qualname := Str.ofString "lisp_nreverse", params := hd.fPar (hd.stA 51), body := FuncBody.stmts (hd.fBody (hd.stA 51)), scope := hd.fScope (hd.stA 51), globals := 3, closure := [], defaults := Value.none, kwdefaults := Value.none, pyModule := Value.str (Str.ofString "emacs.sequences") 590, code := Value.ref 419 } }
noncomputable def hd.o_279 (P : Params) : Obj := { cls := Value.type "function", data := Data.func { name := hd.fName (hd.stA 18), qualname := Str.ofString "need_list", params := hd.fPar (hd.stA 18), body := FuncBody.stmts (hd.fBody (hd.stA 18)), scope := hd.fScope (hd.stA 18), globals := 3, closure := [], defaults := Value.none, kwdefaults := Value.none, pyModule := Value.str (Str.ofString "emacs.dataprims") 466, code := Value.ref 227 } }
noncomputable def hd.o_409 (P : Params) : Obj := { cls := Value.type "code", data := Data.fields #[Value.str (Str.ofString "lisp_elt") 645, Value.str (Str.ofString "lisp_elt") 646, Value.str (Str.ofString "/claim/cut.py") 647, Value.int 182 0, Value.int 2 0, Value.int 0 0, Value.int 0 0, Value.int 3 0, Value.ref 351, Value.bool true, Value.int 181 0, Value.ref 352, Value.none, Value.ref 353, Value.ref 354, Value.ref 355, Value.int 651 0, Value.int 182 0, Value.str (Str.ofString "/claim/cut.py") 652] }
noncomputable def hd.o_541 (P : Params) : Obj := { cls := Value.none, data := Data.fields #[] }
noncomputable def hd.o_91 (P : Params) : Obj := { cls := Value.type "tuple", data := Data.seq #[] }
noncomputable def hd.o_125 (P : Params) : Obj := { cls := Value.type "getset_descriptor", data := Data.fields #[Value.str (Str.ofString "__weakref__") 296, Value.ref 82, Value.builtin "ExceptionGroup.__weakref__", Value.none] }
noncomputable def hd.o_195 (P : Params) : Obj := { cls := Value.type "getset_descriptor", data := Data.fields #[Value.str (Str.ofString "__weakref__") 385, Value.ref 146, Value.builtin "ExceptionGroup.__weakref__", Value.none] }
noncomputable def hd.o_327 (P : Params) : Obj := { cls := Value.type "tuple", data := Data.seq #[] }
noncomputable def hd.o_459 (P : Params) : Obj := { cls := Value.none, data := Data.func { name := hd.fName (hd.stA 49), qualname := Str.ofString "lisp_copy_sequence", params := hd.fPar (hd.stA 49), body := FuncBody.stmts (hd.fBody (hd.stA 49)), scope := hd.fScope (hd.stA 49), globals := 0, closure := [], defaults := Value.none, kwdefaults := Value.none } }
noncomputable def hd.o_263 (P : Params) : Obj := { cls := Value.none, data := Data.func { name := hd.fName (hd.stA 14), qualname := Str.ofString "is_list", params := hd.fPar (hd.stA 14), body := FuncBody.stmts (hd.fBody (hd.stA 14)), scope := hd.fScope (hd.stA 14), globals := 0, closure := [], defaults := Value.none, kwdefaults := Value.none } }
noncomputable def hd.o_393 (P : Params) : Obj := { cls := Value.type "tuple", data := Data.seq #[] }
noncomputable def hd.o_525 (P : Params) : Obj := { cls := Value.type "function", data := Data.func { name := hd.fName (hd.stA 60), qualname := Str.ofString "_law_told", params := hd.fPar (hd.stA 60), body := FuncBody.stmts (hd.fBody (hd.stA 60)), scope := hd.fScope (hd.stA 60), globals := 3, closure := [], defaults := Value.none, kwdefaults := Value.none, pyModule := Value.str (Str.ofString "law_np0060_01") 753, code := Value.ref 467 } }
noncomputable def hd.o_161 (P : Params) : Obj := { cls := Value.type "tuple", data := Data.seq #[] }
noncomputable def hd.o_229 (P : Params) : Obj := { cls := Value.type "dict", data := Data.dict #[{ hash := PyData.keyHash P (Str.ofString "__module__"), key := Value.str (Str.ofString "__module__") 397, val := Value.str (Str.ofString "emacs.objects") 227 }, { hash := PyData.keyHash P (Str.ofString "__firstlineno__"), key := Value.str (Str.ofString "__firstlineno__") 401, val := Value.int 35 400 }, { hash := PyData.keyHash P (Str.ofString "shown"), key := Value.str (Str.ofString "shown") 408, val := Value.ref 164 }, { hash := PyData.keyHash P (Str.ofString "kind"), key := Value.str (Str.ofString "kind") 415, val := Value.ref 171 }, { hash := PyData.keyHash P (Str.ofString "same_as"), key := Value.str (Str.ofString "same_as") 423, val := Value.ref 178 }, { hash := PyData.keyHash P (Str.ofString "__static_attributes__"), key := Value.str (Str.ofString "__static_attributes__") 424, val := Value.ref 179 }, { hash := PyData.keyHash P (Str.ofString "__dict__"), key := Value.str (Str.ofString "__dict__") 426, val := Value.ref 182 }, { hash := PyData.keyHash P (Str.ofString "__weakref__"), key := Value.str (Str.ofString "__weakref__") 428, val := Value.ref 183 }, { hash := PyData.keyHash P (Str.ofString "__doc__"), key := Value.str (Str.ofString "__doc__") 429, val := Value.none }] 4 }
noncomputable def hd.o_361 (P : Params) : Obj := { cls := Value.none, data := Data.func { name := hd.fName (hd.stA 35), qualname := Str.ofString "is_code", params := hd.fPar (hd.stA 35), body := FuncBody.stmts (hd.fBody (hd.stA 35)), scope := hd.fScope (hd.stA 35), globals := 0, closure := [], defaults := Value.none, kwdefaults := Value.none } }
noncomputable def hd.o_491 (P : Params) : Obj := { cls := Value.type "tuple", data := Data.seq #[] }
noncomputable def hd.o_295 (P : Params) : Obj := { cls := Value.none, data := Data.fields #[] }
noncomputable def hd.o_427 (P : Params) : Obj := { cls := Value.type "tuple", data := Data.seq #[] }
noncomputable def hd.o_557 (P : Params) : Obj := { cls := Value.type "tuple", data := Data.seq #[] }
noncomputable def hd.o_65 (P : Params) : Obj := { cls := Value.type "frame", slots := #[some (Value.ref 27), some (Value.ref 3), some (Value.ref 24), none, some (Value.str (Str.ofString "emacs.errors") 194), none, some (Value.ref 0)] }
noncomputable def hd.o_83 (P : Params) : Obj := { cls := Value.type "dict", data := Data.dict #[{ hash := PyData.keyHash P (Str.ofString "__module__"), key := Value.str (Str.ofString "__module__") 236, val := Value.str (Str.ofString "emacs.objects") 227 }, { hash := PyData.keyHash P (Str.ofString "__qualname__"), key := Value.str (Str.ofString "__qualname__") 238, val := Value.str (Str.ofString "Symbol") 237 }, { hash := PyData.keyHash P (Str.ofString "__firstlineno__"), key := Value.str (Str.ofString "__firstlineno__") 240, val := Value.int 11 239 }, { hash := PyData.keyHash P (Str.ofString "__init__"), key := Value.str (Str.ofString "__init__") 249, val := Value.ref 55 }, { hash := PyData.keyHash P (Str.ofString "__static_attributes__"), key := Value.str (Str.ofString "__static_attributes__") 252, val := Value.ref 56 }] 5 }
noncomputable def hd.o_117 (P : Params) : Obj := { cls := Value.type "tuple", data := Data.seq #[] }
noncomputable def hd.o_187 (P : Params) : Obj := { cls := Value.type "tuple", data := Data.seq #[] }
noncomputable def hd.o_319 (P : Params) : Obj := { cls := Value.type "function", data := Data.func { name := hd.fName (hd.stA 26), qualname := Str.ofString "are_of_one_class", params := hd.fPar (hd.stA 26), body := FuncBody.stmts (hd.fBody (hd.stA 26)), scope := hd.fScope (hd.stA 26), globals := 3, closure := [], defaults := Value.none, kwdefaults := Value.none, pyModule := Value.str (Str.ofString "emacs.equality") 508, code := Value.ref 267 } }
noncomputable def hd.o_451 (P : Params) : Obj := { cls := Value.type "tuple", data := Data.seq #[] }
noncomputable def hd.o_253 (P : Params) : Obj := { cls := Value.type "tuple", data := Data.seq #[] }
noncomputable def hd.o_385 (P : Params) : Obj := { cls := Value.type "tuple", data := Data.seq #[] }
noncomputable def hd.o_517 (P : Params) : Obj := { cls := Value.type "code", data := Data.fields #[Value.str (Str.ofString "_law_new") 778, Value.str (Str.ofString "_law_new") 779, Value.str (Str.ofString "/claim/cut.py") 780, Value.int 293 0, Value.int 2 0, Value.int 0 0, Value.int 0 0, Value.int 3 0, Value.ref 455, Value.bool true, Value.int 181 0, Value.ref 456, Value.none, Value.ref 457, Value.ref 458, Value.ref 459, Value.int 783 0, Value.int 293 0, Value.str (Str.ofString "/claim/cut.py") 784] }
noncomputable def hd.o_151 (P : Params) : Obj := { cls := Value.type "builtin_function_or_method", data := Data.fields #[Value.builtin "object.__init_subclass__", Value.ref 104] }
noncomputable def hd.o_221 (P : Params) : Obj := { cls := Value.type "tuple", data := Data.seq #[] }
noncomputable def hd.o_353 (P : Params) : Obj := { cls := Value.type "tuple", data := Data.seq #[] }
noncomputable def hd.o_483 (P : Params) : Obj := { cls := Value.none, data := Data.func { name := hd.fName (hd.stA 53), qualname := Str.ofString "lisp_remove", params := hd.fPar (hd.stA 53), body := FuncBody.stmts (hd.fBody (hd.stA 53)), scope := hd.fScope (hd.stA 53), globals := 0, closure := [], defaults := Value.none, kwdefaults := Value.none } }
noncomputable def hd.o_287 (P : Params) : Obj := { cls := Value.type "tuple", data := Data.seq #[] }
noncomputable def hd.o_417 (P : Params) : Obj := { cls := Value.type "function", data := Data.func { name := hd.fName (hd.stA 43), qualname := Str.ofString "lisp_aref", params := hd.fPar (hd.stA 43), body := FuncBody.stmts (hd.fBody (hd.stA 43)), scope := hd.fScope (hd.stA 43), globals := 3, closure := [], defaults := Value.none, kwdefaults := Value.none, pyModule := Value.str (Str.ofString "emacs.sequences") 590, code := Value.ref 363 } }
noncomputable def hd.o_549 (P : Params) : Obj := { cls := Value.type "function", data := Data.func { name := hd.fName (hd.stA 64), qualname := Str.ofString "_law_joined", params := hd.fPar (hd.stA 64), body := FuncBody.stmts (hd.fBody (hd.stA 64)), scope := hd.fScope (hd.stA 64), globals := 3, closure := [], defaults := Value.none, kwdefaults := Value.none, pyModule := Value.str (Str.ofString "law_np0060_01") 753, code := Value.ref 491 } }
noncomputable def hd.o_99 (P : Params) : Obj := { cls := Value.type "getset_descriptor", data := Data.fields #[Value.str (Str.ofString "__weakref__") 255, Value.ref 58, Value.builtin "ExceptionGroup.__weakref__", Value.none] }
noncomputable def hd.o_135 (P : Params) : Obj := { cls := Value.type "code", data := Data.fields #[Value.str (Str.ofString "Text") 303, Value.str (Str.ofString "Text") 304, Value.str (Str.ofString "/claim/cut.py") 305, Value.int 22 0, Value.int 0 0, Value.int 0 0, Value.int 0 0, Value.int 0 0, Value.ref 90, Value.bool false, Value.int 181 0, Value.ref 91, Value.none, Value.none, Value.none, Value.none, Value.int 306 0, Value.int 22 0, Value.str (Str.ofString "/claim/cut.py") 307] }
noncomputable def hd.o_205 (P : Params) : Obj := { cls := Value.type "code", data := Data.fields #[Value.str (Str.ofString "Opaque") 392, Value.str (Str.ofString "Opaque") 393, Value.str (Str.ofString "/claim/cut.py") 394, Value.int 35 0, Value.int 0 0, Value.int 0 0, Value.int 0 0, Value.int 0 0, Value.ref 154, Value.bool false, Value.int 181 0, Value.ref 155, Value.none, Value.none, Value.none, Value.none, Value.int 395 0, Value.int 35 0, Value.str (Str.ofString "/claim/cut.py") 396] }
noncomputable def hd.o_335 (P : Params) : Obj := { cls := Value.none, data := Data.fields #[] }
noncomputable def hd.o_467 (P : Params) : Obj := { cls := Value.type "code", data := Data.fields #[Value.str (Str.ofString "lisp_reverse") 716, Value.str (Str.ofString "lisp_reverse") 717, Value.str (Str.ofString "/claim/cut.py") 718, Value.int 231 0, Value.int 2 0, Value.int 0 0, Value.int 0 0, Value.int 3 0, Value.ref 407, Value.bool true, Value.int 181 0, Value.ref 408, Value.none, Value.ref 409, Value.ref 410, Value.ref 411, Value.int 721 0, Value.int 231 0, Value.str (Str.ofString "/claim/cut.py") 722] }
noncomputable def hd.o_271 (P : Params) : Obj := { cls := Value.type "code", data := Data.fields #[Value.str (Str.ofString "wrong") 470, Value.str (Str.ofString "wrong") 471, Value.str (Str.ofString "/claim/cut.py") 472, Value.int 68 0, Value.int 2 0, Value.int 0 0, Value.int 0 0, Value.int 3 0, Value.ref 215, Value.bool true, Value.int 181 0, Value.ref 216, Value.none, Value.ref 217, Value.ref 218, Value.ref 219, Value.int 475 0, Value.int 68 0, Value.str (Str.ofString "/claim/cut.py") 476] }
noncomputable def hd.o_401 (P : Params) : Obj := { cls := Value.none, data := Data.func { name := hd.fName (hd.stA 41), qualname := Str.ofString "lisp_length", params := hd.fPar (hd.stA 41), body := FuncBody.stmts (hd.fBody (hd.stA 41)), scope := hd.fScope (hd.stA 41), globals := 0, closure := [], defaults := Value.none, kwdefaults := Value.none } }
noncomputable def hd.o_533 (P : Params) : Obj := { cls := Value.type "tuple", data := Data.seq #[] }
noncomputable def hd.o_169 (P : Params) : Obj := { cls := Value.type "dict", data := Data.dict #[{ hash := PyData.keyHash P (Str.ofString "__module__"), key := Value.str (Str.ofString "__module__") 339, val := Value.str (Str.ofString "emacs.objects") 227 }, { hash := PyData.keyHash P (Str.ofString "__firstlineno__"), key := Value.str (Str.ofString "__firstlineno__") 343, val := Value.int 27 342 }, { hash := PyData.keyHash P (Str.ofString "__init__"), key := Value.str (Str.ofString "__init__") 351, val := Value.ref 122 }, { hash := PyData.keyHash P (Str.ofString "__static_attributes__"), key := Value.str (Str.ofString "__static_attributes__") 353, val := Value.ref 123 }, { hash := PyData.keyHash P (Str.ofString "__dict__"), key := Value.str (Str.ofString "__dict__") 355, val := Value.ref 126 }, { hash := PyData.keyHash P (Str.ofString "__weakref__"), key := Value.str (Str.ofString "__weakref__") 357, val := Value.ref 127 }, { hash := PyData.keyHash P (Str.ofString "__doc__"), key := Value.str (Str.ofString "__doc__") 358, val := Value.none }] 4 }
noncomputable def hd.o_237 (P : Params) : Obj := { cls := Value.none, data := Data.fields #[] }
noncomputable def hd.o_369 (P : Params) : Obj := { cls := Value.type "code", data := Data.fields #[Value.str (Str.ofString "need_code") 601, Value.str (Str.ofString "need_code") 602, Value.str (Str.ofString "/claim/cut.py") 603, Value.int 158 0, Value.int 1 0, Value.int 0 0, Value.int 0 0, Value.int 3 0, Value.ref 311, Value.bool true, Value.int 181 0, Value.ref 312, Value.none, Value.ref 313, Value.ref 314, Value.ref 315, Value.int 605 0, Value.int 158 0, Value.str (Str.ofString "/claim/cut.py") 606] }
noncomputable def hd.o_499 (P : Params) : Obj := { cls := Value.type "tuple", data := Data.seq #[] }
noncomputable def hd.o_303 (P : Params) : Obj := { cls := Value.type "tuple", data := Data.seq #[Value.str (Str.ofString "one") 515, Value.str (Str.ofString "other") 516] }
noncomputable def hd.o_435 (P : Params) : Obj := { cls := Value.none, data := Data.fields #[] }
noncomputable def hd.o_55 (P : Params) : Obj := { cls := Value.type "tuple", data := Data.seq #[] }
noncomputable def hd.o_71 (P : Params) : Obj := { cls := Value.type "code", data := Data.fields #[Value.str (Str.ofString "__init__") 208, Value.str (Str.ofString "LispSignal.__init__") 209, Value.str (Str.ofString "/claim/cut.py") 210, Value.int 7 0, Value.int 3 0, Value.int 0 0, Value.int 0 0, Value.int 3 0, Value.ref 29, Value.bool true, Value.int 181 0, Value.ref 30, Value.none, Value.ref 31, Value.ref 32, Value.ref 33, Value.int 214 0, Value.int 7 0, Value.str (Str.ofString "/claim/cut.py") 215] }
noncomputable def hd.o_107 (P : Params) : Obj := { cls := Value.type "tuple", data := Data.seq #[] }
noncomputable def hd.o_177 (P : Params) : Obj := { cls := Value.type "tuple", data := Data.seq #[] }
noncomputable def hd.o_309 (P : Params) : Obj := { cls := Value.none, data := Data.fields #[] }
noncomputable def hd.o_441 (P : Params) : Obj := { cls := Value.type "tuple", data := Data.seq #[] }
noncomputable def hd.o_243 (P : Params) : Obj := { cls := Value.type "tuple", data := Data.seq #[] }
noncomputable def hd.o_375 (P : Params) : Obj := { cls := Value.none, data := Data.func { name := hd.fName (hd.stA 37), qualname := Str.ofString "is_array", params := hd.fPar (hd.stA 37), body := FuncBody.stmts (hd.fBody (hd.stA 37)), scope := hd.fScope (hd.stA 37), globals := 0, closure := [], defaults := Value.none, kwdefaults := Value.none } }
noncomputable def hd.o_505 (P : Params) : Obj := { cls := Value.type "tuple", data := Data.seq #[Value.str (Str.ofString "value") 773, Value.str (Str.ofString "found") 774] }
noncomputable def hd.o_141 (P : Params) : Obj := { cls := Value.type "tuple", data := Data.seq #[] }
noncomputable def hd.o_211 (P : Params) : Obj := { cls := Value.none, data := Data.func { name := hd.fName (hd.stB 10 0), qualname := Str.ofString "Opaque.shown", params := hd.fPar (hd.stB 10 0), body := FuncBody.stmts (hd.fBody (hd.stB 10 0)), scope := hd.fScope (hd.stB 10 0), globals := 0, closure := [], defaults := Value.none, kwdefaults := Value.none } }
noncomputable def hd.o_343 (P : Params) : Obj := { cls := Value.type "tuple", data := Data.seq #[] }
noncomputable def hd.o_473 (P : Params) : Obj := { cls := Value.none, data := Data.func { name := hd.fName (hd.stA 51), qualname := Str.ofString "lisp_nreverse", params := hd.fPar (hd.stA 51), body := FuncBody.stmts (hd.fBody (hd.stA 51)), scope := hd.fScope (hd.stA 51), globals := 0, closure := [], defaults := Value.none, kwdefaults := Value.none } }
noncomputable def hd.o_277 (P : Params) : Obj := { cls := Value.none, data := Data.func { name := hd.fName (hd.stA 18), qualname := Str.ofString "need_list", params := hd.fPar (hd.stA 18), body := FuncBody.stmts (hd.fBody (hd.stA 18)), scope := hd.fScope (hd.stA 18), globals := 0, closure := [], defaults := Value.none, kwdefaults := Value.none } }
noncomputable def hd.o_407 (P : Params) : Obj := { cls := Value.type "tuple", data := Data.seq #[] }
noncomputable def hd.o_539 (P : Params) : Obj := { cls := Value.type "function", data := Data.func { name := hd.fName (hd.stA 62), qualname := Str.ofString "_law_places", params := hd.fPar (hd.stA 62), body := FuncBody.stmts (hd.fBody (hd.stA 62)), scope := hd.fScope (hd.stA 62), globals := 3, closure := [], defaults := Value.none, kwdefaults := Value.none, pyModule := Value.str (Str.ofString "law_np0060_01") 753, code := Value.ref 481 } }
noncomputable def hd.o_89 (P : Params) : Obj := { cls := Value.none, data := Data.fields #[] }
noncomputable def hd.o_123 (P : Params) : Obj := { cls := Value.type "type", data := Data.cls { name := Str.ofString "Cons", bases := [Value.type "object"], mro := [Value.ref 82, Value.type "object"], ns := 81, qualname := Str.ofString "Cons" }, slots := #[none, none, some (Value.str (Str.ofString "Cons") 270), some (Value.str (Str.ofString "Cons") 278), some (Value.builtin "object.__new__"), some (Value.bool true)] }
noncomputable def hd.o_193 (P : Params) : Obj := { cls := Value.type "type", data := Data.cls { name := Str.ofString "ByteCode", bases := [Value.type "object"], mro := [Value.ref 146, Value.type "object"], ns := 145, qualname := Str.ofString "ByteCode" }, slots := #[none, none, some (Value.str (Str.ofString "ByteCode") 361), some (Value.str (Str.ofString "ByteCode") 369), some (Value.builtin "object.__new__"), some (Value.bool true)] }
noncomputable def hd.o_325 (P : Params) : Obj := { cls := Value.type "code", data := Data.fields #[Value.str (Str.ofString "equal_by") 535, Value.str (Str.ofString "equal_by") 536, Value.str (Str.ofString "/claim/cut.py") 537, Value.int 109 0, Value.int 3 0, Value.int 0 0, Value.int 0 0, Value.int 3 0, Value.ref 269, Value.bool true, Value.int 181 0, Value.ref 270, Value.none, Value.ref 271, Value.ref 272, Value.ref 273, Value.int 546 0, Value.int 109 0, Value.str (Str.ofString "/claim/cut.py") 547] }
noncomputable def hd.o_457 (P : Params) : Obj := { cls := Value.type "tuple", data := Data.seq #[Value.str (Str.ofString "world") 711, Value.str (Str.ofString "args") 712] }
noncomputable def hd.o_261 (P : Params) : Obj := { cls := Value.type "tuple", data := Data.seq #[Value.str (Str.ofString "datum") 462] }
noncomputable def hd.o_391 (P : Params) : Obj := { cls := Value.none, data := Data.fields #[] }
noncomputable def hd.o_523 (P : Params) : Obj := { cls := Value.none, data := Data.func { name := hd.fName (hd.stA 60), qualname := Str.ofString "_law_told", params := hd.fPar (hd.stA 60), body := FuncBody.stmts (hd.fBody (hd.stA 60)), scope := hd.fScope (hd.stA 60), globals := 0, closure := [], defaults := Value.none, kwdefaults := Value.none } }
noncomputable def hd.o_159 (P : Params) : Obj := { cls := Value.type "code", data := Data.fields #[Value.str (Str.ofString "Vector") 334, Value.str (Str.ofString "Vector") 335, Value.str (Str.ofString "/claim/cut.py") 336, Value.int 27 0, Value.int 0 0, Value.int 0 0, Value.int 0 0, Value.int 0 0, Value.ref 112, Value.bool false, Value.int 181 0, Value.ref 113, Value.none, Value.none, Value.none, Value.none, Value.int 337 0, Value.int 27 0, Value.str (Str.ofString "/claim/cut.py") 338] }
noncomputable def hd.o_227 (P : Params) : Obj := { cls := Value.type "function", data := Data.func { name := hd.fName (hd.stB 10 2), qualname := Str.ofString "Opaque.same_as", params := hd.fPar (hd.stB 10 2), body := FuncBody.stmts (hd.fBody (hd.stB 10 2)), scope := hd.fScope (hd.stB 10 2), globals := 3, closure := [], defaults := Value.none, kwdefaults := Value.none, pyModule := Value.str (Str.ofString "emacs.objects") 227, code := Value.ref 177 } }
noncomputable def hd.o_359 (P : Params) : Obj := { cls := Value.type "tuple", data := Data.seq #[Value.str (Str.ofString "thing") 597] }
noncomputable def hd.o_489 (P : Params) : Obj := { cls := Value.type "code", data := Data.fields #[Value.str (Str.ofString "lisp_number_sequence") 747, Value.str (Str.ofString "lisp_number_sequence") 748, Value.str (Str.ofString "/claim/cut.py") 749, Value.int 263 0, Value.int 2 0, Value.int 0 0, Value.int 0 0, Value.int 3 0, Value.ref 431, Value.bool true, Value.int 181 0, Value.ref 432, Value.none, Value.none, Value.none, Value.ref 433, Value.int 750 0, Value.int 263 0, Value.str (Str.ofString "/claim/cut.py") 751] }
noncomputable def hd.o_293 (P : Params) : Obj := { cls := Value.type "function", data := Data.func { name := hd.fName (hd.stA 20), qualname := Str.ofString "things_of", params := hd.fPar (hd.stA 20), body := FuncBody.stmts (hd.fBody (hd.stA 20)), scope := hd.fScope (hd.stA 20), globals := 3, closure := [], defaults := Value.none, kwdefaults := Value.none, pyModule := Value.str (Str.ofString "emacs.dataprims") 466, code := Value.ref 241 } }
noncomputable def hd.o_423 (P : Params) : Obj := { cls := Value.type "code", data := Data.fields #[Value.str (Str.ofString "lisp_aset") 663, Value.str (Str.ofString "lisp_aset") 664, Value.str (Str.ofString "/claim/cut.py") 665, Value.int 196 0, Value.int 2 0, Value.int 0 0, Value.int 0 0, Value.int 3 0, Value.ref 365, Value.bool true, Value.int 181 0, Value.ref 366, Value.none, Value.ref 367, Value.ref 368, Value.ref 369, Value.int 669 0, Value.int 196 0, Value.str (Str.ofString "/claim/cut.py") 670] }
noncomputable def hd.o_555 (P : Params) : Obj := { cls := Value.type "code", data := Data.fields #[Value.str (Str.ofString "_law_counted") 833, Value.str (Str.ofString "_law_counted") 834, Value.str (Str.ofString "/claim/cut.py") 835, Value.int 360 0, Value.int 1 0, Value.int 0 0, Value.int 0 0, Value.int 3 0, Value.ref 493, Value.bool true, Value.int 181 0, Value.ref 494, Value.none, Value.ref 495, Value.ref 496, Value.ref 497, Value.int 843 0, Value.int 360 0, Value.str (Str.ofString "/claim/cut.py") 844] }
noncomputable def hd.o_63 (P : Params) : Obj := { cls := Value.none, data := Data.fields #[Value.int 7 0, Value.int 4 0, Value.ref 34] }
noncomputable def hd.o_81 (P : Params) : Obj := { cls := Value.type "tuple", data := Data.seq #[] }
noncomputable def hd.o_115 (P : Params) : Obj := { cls := Value.none, data := Data.fields #[] }
noncomputable def hd.o_185 (P : Params) : Obj := { cls := Value.none, data := Data.fields #[] }
noncomputable def hd.o_317 (P : Params) : Obj := { cls := Value.none, data := Data.func { name := hd.fName (hd.stA 26), qualname := Str.ofString "are_of_one_class", params := hd.fPar (hd.stA 26), body := FuncBody.stmts (hd.fBody (hd.stA 26)), scope := hd.fScope (hd.stA 26), globals := 0, closure := [], defaults := Value.none, kwdefaults := Value.none } }
noncomputable def hd.o_449 (P : Params) : Obj := { cls := Value.none, data := Data.fields #[] }
noncomputable def hd.o_251 (P : Params) : Obj := { cls := Value.none, data := Data.fields #[] }
noncomputable def hd.o_383 (P : Params) : Obj := { cls := Value.type "code", data := Data.fields #[Value.str (Str.ofString "things_in") 615, Value.str (Str.ofString "things_in") 616, Value.str (Str.ofString "/claim/cut.py") 617, Value.int 164 0, Value.int 1 0, Value.int 0 0, Value.int 0 0, Value.int 3 0, Value.ref 325, Value.bool true, Value.int 181 0, Value.ref 326, Value.none, Value.ref 327, Value.ref 328, Value.ref 329, Value.int 619 0, Value.int 164 0, Value.str (Str.ofString "/claim/cut.py") 620] }
noncomputable def hd.o_515 (P : Params) : Obj := { cls := Value.type "tuple", data := Data.seq #[] }
noncomputable def hd.o_149 (P : Params) : Obj := { cls := Value.type "getset_descriptor", data := Data.fields #[Value.str (Str.ofString "__weakref__") 327, Value.ref 104, Value.builtin "ExceptionGroup.__weakref__", Value.none] }
noncomputable def hd.o_219 (P : Params) : Obj := { cls := Value.type "code", data := Data.fields #[Value.str (Str.ofString "kind") 409, Value.str (Str.ofString "Opaque.kind") 410, Value.str (Str.ofString "/claim/cut.py") 411, Value.int 40 0, Value.int 1 0, Value.int 0 0, Value.int 0 0, Value.int 3 0, Value.ref 165, Value.bool true, Value.int 181 0, Value.ref 166, Value.none, Value.ref 167, Value.ref 168, Value.ref 169, Value.int 413 0, Value.int 40 0, Value.str (Str.ofString "/claim/cut.py") 414] }
noncomputable def hd.o_351 (P : Params) : Obj := { cls := Value.none, data := Data.fields #[] }
noncomputable def hd.o_481 (P : Params) : Obj := { cls := Value.type "tuple", data := Data.seq #[] }
noncomputable def hd.o_285 (P : Params) : Obj := { cls := Value.type "code", data := Data.fields #[Value.str (Str.ofString "need_whole") 485, Value.str (Str.ofString "need_whole") 486, Value.str (Str.ofString "/claim/cut.py") 487, Value.int 74 0, Value.int 1 0, Value.int 0 0, Value.int 0 0, Value.int 3 0, Value.ref 229, Value.bool true, Value.int 181 0, Value.ref 230, Value.none, Value.ref 231, Value.ref 232, Value.ref 233, Value.int 489 0, Value.int 74 0, Value.str (Str.ofString "/claim/cut.py") 490] }
noncomputable def hd.o_415 (P : Params) : Obj := { cls := Value.none, data := Data.func { name := hd.fName (hd.stA 43), qualname := Str.ofString "lisp_aref", params := hd.fPar (hd.stA 43), body := FuncBody.stmts (hd.fBody (hd.stA 43)), scope := hd.fScope (hd.stA 43), globals := 0, closure := [], defaults := Value.none, kwdefaults := Value.none } }
noncomputable def hd.o_547 (P : Params) : Obj := { cls := Value.none, data := Data.func { name := hd.fName (hd.stA 64), qualname := Str.ofString "_law_joined", params := hd.fPar (hd.stA 64), body := FuncBody.stmts (hd.fBody (hd.stA 64)), scope := hd.fScope (hd.stA 64), globals := 0, closure := [], defaults := Value.none, kwdefaults := Value.none } }
noncomputable def hd.o_97 (P : Params) : Obj := { cls := Value.type "type", data := Data.cls { name := Str.ofString "Symbol", bases := [Value.type "object"], mro := [Value.ref 58, Value.type "object"], ns := 57, qualname := Str.ofString "Symbol" }, slots := #[none, none, some (Value.str (Str.ofString "Symbol") 229), some (Value.str (Str.ofString "Symbol") 237), some (Value.builtin "object.__new__"), some (Value.bool true)] }
noncomputable def hd.o_133 (P : Params) : Obj := { cls := Value.type "tuple", data := Data.seq #[] }
noncomputable def hd.o_203 (P : Params) : Obj := { cls := Value.type "tuple", data := Data.seq #[] }
noncomputable def hd.o_333 (P : Params) : Obj := { cls := Value.type "function", data := Data.func { name := hd.fName (hd.stA 28), qualname := Str.ofString "are_any", params := hd.fPar (hd.stA 28), body := FuncBody.stmts (hd.fBody (hd.stA 28)), scope := hd.fScope (hd.stA 28), globals := 3, closure := [], defaults := Value.none, kwdefaults := Value.none, pyModule := Value.str (Str.ofString "emacs.equality") 508, code := Value.ref 281 } }
noncomputable def hd.o_465 (P : Params) : Obj := { cls := Value.type "tuple", data := Data.seq #[] }
noncomputable def hd.o_269 (P : Params) : Obj := { cls := Value.type "tuple", data := Data.seq #[] }
noncomputable def hd.o_399 (P : Params) : Obj := { cls := Value.type "tuple", data := Data.seq #[Value.str (Str.ofString "world") 640, Value.str (Str.ofString "args") 641] }
noncomputable def hd.o_531 (P : Params) : Obj := { cls := Value.type "code", data := Data.fields #[Value.str (Str.ofString "_law_is_fresh") 795, Value.str (Str.ofString "_law_is_fresh") 796, Value.str (Str.ofString "/claim/cut.py") 797, Value.int 302 0, Value.int 4 0, Value.int 0 0, Value.int 0 0, Value.int 3 0, Value.ref 469, Value.bool true, Value.int 181 0, Value.ref 470, Value.none, Value.ref 471, Value.ref 472, Value.ref 473, Value.int 804 0, Value.int 302 0, Value.str (Str.ofString "/claim/cut.py") 805] }
noncomputable def hd.o_167 (P : Params) : Obj := { cls := Value.type "function", data := Data.func { name := hd.fName (hd.stB 8 0), qualname := Str.ofString "Vector.__init__", params := hd.fPar (hd.stB 8 0), body := FuncBody.stmts (hd.fBody (hd.stB 8 0)), scope := hd.fScope (hd.stB 8 0), globals := 3, closure := [], defaults := Value.none, kwdefaults := Value.none, pyModule := Value.str (Str.ofString "emacs.objects") 227, code := Value.ref 121 } }
noncomputable def hd.o_235 (P : Params) : Obj := { cls := Value.type "tuple", data := Data.seq #[Value.ref 64] }
noncomputable def hd.o_367 (P : Params) : Obj := { cls := Value.type "tuple", data := Data.seq #[] }
noncomputable def hd.o_497 (P : Params) : Obj := { cls := Value.none, data := Data.fields #[] }
noncomputable def hd.o_301 (P : Params) : Obj := { cls := Value.type "tuple", data := Data.seq #[] }
noncomputable def hd.o_433 (P : Params) : Obj := { cls := Value.type "function", data := Data.func { name := hd.fName (hd.stA 45), qualname := Str.ofString "lisp_fillarray", params := hd.fPar (hd.stA 45), body := FuncBody.stmts (hd.fBody (hd.stA 45)), scope := hd.fScope (hd.stA 45), globals := 3, closure := [], defaults := Value.none, kwdefaults := Value.none, pyModule := Value.str (Str.ofString "emacs.sequences") 590, code := Value.ref 377 } }
noncomputable def hd.o_59 (P : Params) : Obj := { cls := Value.type "tuple", data := Data.seq #[Value.type "Exception"] }
noncomputable def hd.o_75 (P : Params) : Obj := { cls := Value.type "type", data := Data.cls { name := Str.ofString "LispSignal", bases := [Value.type "Exception"], mro := [Value.ref 38, Value.type "Exception", Value.type "BaseException", Value.type "object"], ns := 37, qualname := Str.ofString "LispSignal" }, slots := #[some (Value.ref 22), none, some (Value.str (Str.ofString "LispSignal") 196), some (Value.str (Str.ofString "LispSignal") 204), some (Value.builtin "Exception.__new__"), some (Value.bool true)] }
noncomputable def hd.o_111 (P : Params) : Obj := { cls := Value.none, data := Data.fields #[Value.int 19 0, Value.int 4 0, Value.ref 78] }
noncomputable def hd.o_181 (P : Params) : Obj := { cls := Value.none, data := Data.fields #[Value.int 33 0, Value.int 4 0, Value.ref 142] }
noncomputable def hd.o_313 (P : Params) : Obj := { cls := Value.type "tuple", data := Data.seq #[] }
noncomputable def hd.o_445 (P : Params) : Obj := { cls := Value.none, data := Data.func { name := hd.fName (hd.stA 47), qualname := Str.ofString "lisp_append", params := hd.fPar (hd.stA 47), body := FuncBody.stmts (hd.fBody (hd.stA 47)), scope := hd.fScope (hd.stA 47), globals := 0, closure := [], defaults := Value.none, kwdefaults := Value.none } }
noncomputable def hd.o_247 (P : Params) : Obj := { cls := Value.none, data := Data.func { name := hd.fName (hd.stA 12), qualname := Str.ofString "split_list", params := hd.fPar (hd.stA 12), body := FuncBody.stmts (hd.fBody (hd.stA 12)), scope := hd.fScope (hd.stA 12), globals := 0, closure := [], defaults := Value.none, kwdefaults := Value.none } }
noncomputable def hd.o_379 (P : Params) : Obj := { cls := Value.none, data := Data.fields #[] }
noncomputable def hd.o_509 (P : Params) : Obj := { cls := Value.type "function", data := Data.func { name := hd.fName (hd.stA 58), qualname := Str.ofString "_law_row", params := hd.fPar (hd.stA 58), body := FuncBody.stmts (hd.fBody (hd.stA 58)), scope := hd.fScope (hd.stA 58), globals := 3, closure := [], defaults := Value.none, kwdefaults := Value.none, pyModule := Value.str (Str.ofString "law_np0060_01") 753, code := Value.ref 453 } }
noncomputable def hd.o_145 (P : Params) : Obj := { cls := Value.type "tuple", data := Data.seq #[Value.str (Str.ofString "codes") 322, Value.str (Str.ofString "spans") 323] }
noncomputable def hd.o_215 (P : Params) : Obj := { cls := Value.none, data := Data.fields #[] }
noncomputable def hd.o_347 (P : Params) : Obj := { cls := Value.none, data := Data.func { name := hd.fName (hd.stA 31), qualname := Str.ofString "ring_of", params := hd.fPar (hd.stA 31), body := FuncBody.stmts (hd.fBody (hd.stA 31)), scope := hd.fScope (hd.stA 31), globals := 0, closure := [], defaults := Value.none, kwdefaults := Value.none } }
noncomputable def hd.o_477 (P : Params) : Obj := { cls := Value.none, data := Data.fields #[] }
noncomputable def hd.o_281 (P : Params) : Obj := { cls := Value.none, data := Data.fields #[] }
noncomputable def hd.o_411 (P : Params) : Obj := { cls := Value.type "tuple", data := Data.seq #[] }
noncomputable def hd.o_543 (P : Params) : Obj := { cls := Value.type "code", data := Data.fields #[Value.str (Str.ofString "_law_changed") 821, Value.str (Str.ofString "_law_changed") 822, Value.str (Str.ofString "/claim/cut.py") 823, Value.int 323 0, Value.int 3 0, Value.int 0 0, Value.int 0 0, Value.int 3 0, Value.ref 483, Value.bool true, Value.int 181 0, Value.ref 484, Value.none, Value.none, Value.none, Value.ref 485, Value.int 824 0, Value.int 323 0, Value.str (Str.ofString "/claim/cut.py") 825] }
noncomputable def hd.o_93 (P : Params) : Obj := { cls := Value.type "code", data := Data.fields #[Value.str (Str.ofString "__init__") 241, Value.str (Str.ofString "Symbol.__init__") 242, Value.str (Str.ofString "/claim/cut.py") 243, Value.int 13 0, Value.int 3 0, Value.int 0 0, Value.int 0 0, Value.int 3 0, Value.ref 49, Value.bool true, Value.int 181 0, Value.ref 50, Value.none, Value.ref 51, Value.ref 52, Value.ref 53, Value.int 247 0, Value.int 13 0, Value.str (Str.ofString "/claim/cut.py") 248] }
noncomputable def hd.o_127 (P : Params) : Obj := { cls := Value.type "builtin_function_or_method", data := Data.fields #[Value.builtin "object.__init_subclass__", Value.ref 82] }
noncomputable def hd.o_197 (P : Params) : Obj := { cls := Value.type "builtin_function_or_method", data := Data.fields #[Value.builtin "object.__init_subclass__", Value.ref 146] }
noncomputable def hd.o_329 (P : Params) : Obj := { cls := Value.type "tuple", data := Data.seq #[Value.str (Str.ofString "one") 552, Value.str (Str.ofString "other") 553] }
noncomputable def hd.o_461 (P : Params) : Obj := { cls := Value.type "function", data := Data.func { name := hd.fName (hd.stA 49), qualname := Str.ofString "lisp_copy_sequence", params := hd.fPar (hd.stA 49), body := FuncBody.stmts (hd.fBody (hd.stA 49)), scope := hd.fScope (hd.stA 49), globals := 3, closure := [], defaults := Value.none, kwdefaults := Value.none, pyModule := Value.str (Str.ofString "emacs.sequences") 590, code := Value.ref 405 } }
noncomputable def hd.o_265 (P : Params) : Obj := { cls := Value.type "function", data := Data.func { name := hd.fName (hd.stA 14), qualname := Str.ofString "is_list", params := hd.fPar (hd.stA 14), body := FuncBody.stmts (hd.fBody (hd.stA 14)), scope := hd.fScope (hd.stA 14), globals := 3, closure := [], defaults := Value.none, kwdefaults := Value.none, pyModule := Value.str (Str.ofString "emacs.objects") 227, code := Value.ref 213 } }
noncomputable def hd.o_395 (P : Params) : Obj := { cls := Value.type "code", data := Data.fields #[Value.str (Str.ofString "need_place") 628, Value.str (Str.ofString "need_place") 629, Value.str (Str.ofString "/claim/cut.py") 630, Value.int 176 0, Value.int 3 0, Value.int 0 0, Value.int 0 0, Value.int 3 0, Value.ref 337, Value.bool true, Value.int 181 0, Value.ref 338, Value.none, Value.ref 339, Value.ref 340, Value.ref 341, Value.int 634 0, Value.int 176 0, Value.str (Str.ofString "/claim/cut.py") 635] }
noncomputable def hd.o_527 (P : Params) : Obj := { cls := Value.none, data := Data.fields #[] }
noncomputable def hd.o_163 (P : Params) : Obj := { cls := Value.type "tuple", data := Data.seq #[Value.str (Str.ofString "self") 347, Value.str (Str.ofString "things") 348] }
noncomputable def hd.o_231 (P : Params) : Obj := { cls := Value.type "getset_descriptor", data := Data.fields #[Value.str (Str.ofString "__dict__") 425, Value.ref 181, Value.builtin "function.__dict__", Value.builtin "function.__dict__#set"] }
noncomputable def hd.o_363 (P : Params) : Obj := { cls := Value.type "function", data := Data.func { name := hd.fName (hd.stA 35), qualname := Str.ofString "is_code", params := hd.fPar (hd.stA 35), body := FuncBody.stmts (hd.fBody (hd.stA 35)), scope := hd.fScope (hd.stA 35), globals := 3, closure := [], defaults := Value.none, kwdefaults := Value.none, pyModule := Value.str (Str.ofString "emacs.sequences") 590, code := Value.ref 309 } }
noncomputable def hd.o_493 (P : Params) : Obj := { cls := Value.none, data := Data.func { name := hd.fName (hd.stA 56), qualname := Str.ofString "_law_deck", params := hd.fPar (hd.stA 56), body := FuncBody.stmts (hd.fBody (hd.stA 56)), scope := hd.fScope (hd.stA 56), globals := 0, closure := [], defaults := Value.none, kwdefaults := Value.none } }
noncomputable def hd.o_297 (P : Params) : Obj := { cls := Value.type "tuple", data := Data.seq #[] }
noncomputable def hd.o_429 (P : Params) : Obj := { cls := Value.type "tuple", data := Data.seq #[Value.str (Str.ofString "world") 675, Value.str (Str.ofString "args") 676] }
noncomputable def hd.o_559 (P : Params) : Obj := { cls := Value.none, data := Data.func { name := hd.fName (hd.stA 66), qualname := Str.ofString "law", params := hd.fPar (hd.stA 66), body := FuncBody.stmts (hd.fBody (hd.stA 66)), scope := hd.fScope (hd.stA 66), globals := 0, closure := [], defaults := Value.none, kwdefaults := Value.none } }
noncomputable def hd.o_67 (P : Params) : Obj := { cls := Value.none, data := Data.fields #[] }
noncomputable def hd.o_85 (P : Params) : Obj := { cls := Value.none, data := Data.fields #[Value.int 13 0, Value.int 4 0, Value.ref 54] }
noncomputable def hd.o_119 (P : Params) : Obj := { cls := Value.type "code", data := Data.fields #[Value.str (Str.ofString "__init__") 282, Value.str (Str.ofString "Cons.__init__") 283, Value.str (Str.ofString "/claim/cut.py") 284, Value.int 19 0, Value.int 3 0, Value.int 0 0, Value.int 0 0, Value.int 3 0, Value.ref 73, Value.bool true, Value.int 181 0, Value.ref 74, Value.none, Value.ref 75, Value.ref 76, Value.ref 77, Value.int 288 0, Value.int 19 0, Value.str (Str.ofString "/claim/cut.py") 289] }
noncomputable def hd.o_189 (P : Params) : Obj := { cls := Value.type "code", data := Data.fields #[Value.str (Str.ofString "__init__") 373, Value.str (Str.ofString "ByteCode.__init__") 374, Value.str (Str.ofString "/claim/cut.py") 375, Value.int 33 0, Value.int 2 0, Value.int 0 0, Value.int 0 0, Value.int 3 0, Value.ref 137, Value.bool true, Value.int 181 0, Value.ref 138, Value.none, Value.ref 139, Value.ref 140, Value.ref 141, Value.int 378 0, Value.int 33 0, Value.str (Str.ofString "/claim/cut.py") 379] }
noncomputable def hd.o_321 (P : Params) : Obj := { cls := Value.none, data := Data.fields #[] }
noncomputable def hd.o_453 (P : Params) : Obj := { cls := Value.type "code", data := Data.fields #[Value.str (Str.ofString "lisp_vconcat") 698, Value.str (Str.ofString "lisp_vconcat") 699, Value.str (Str.ofString "/claim/cut.py") 700, Value.int 222 0, Value.int 2 0, Value.int 0 0, Value.int 0 0, Value.int 3 0, Value.ref 393, Value.bool true, Value.int 181 0, Value.ref 394, Value.none, Value.ref 395, Value.ref 396, Value.ref 397, Value.int 705 0, Value.int 222 0, Value.str (Str.ofString "/claim/cut.py") 706] }
noncomputable def hd.o_255 (P : Params) : Obj := { cls := Value.type "code", data := Data.fields #[Value.str (Str.ofString "is_whole") 452, Value.str (Str.ofString "is_whole") 453, Value.str (Str.ofString "/claim/cut.py") 454, Value.int 62 0, Value.int 1 0, Value.int 0 0, Value.int 0 0, Value.int 3 0, Value.ref 201, Value.bool true, Value.int 181 0, Value.ref 202, Value.none, Value.ref 203, Value.ref 204, Value.ref 205, Value.int 456 0, Value.int 62 0, Value.str (Str.ofString "/claim/cut.py") 457] }
noncomputable def hd.o_387 (P : Params) : Obj := { cls := Value.none, data := Data.func { name := hd.fName (hd.stA 39), qualname := Str.ofString "alike", params := hd.fPar (hd.stA 39), body := FuncBody.stmts (hd.fBody (hd.stA 39)), scope := hd.fScope (hd.stA 39), globals := 0, closure := [], defaults := Value.none, kwdefaults := Value.none } }
noncomputable def hd.o_519 (P : Params) : Obj := { cls := Value.type "tuple", data := Data.seq #[] }
noncomputable def hd.o_155 (P : Params) : Obj := { cls := Value.type "builtin_function_or_method", data := Data.fields #[Value.builtin "type.__prepare__", Value.type "type"] }
noncomputable def hd.o_223 (P : Params) : Obj := { cls := Value.type "tuple", data := Data.seq #[Value.str (Str.ofString "self") 419, Value.str (Str.ofString "other") 420] }
noncomputable def hd.o_355 (P : Params) : Obj := { cls := Value.type "code", data := Data.fields #[Value.str (Str.ofString "rest_at") 579, Value.str (Str.ofString "rest_at") 580, Value.str (Str.ofString "/claim/cut.py") 581, Value.int 144 0, Value.int 2 0, Value.int 0 0, Value.int 0 0, Value.int 3 0, Value.ref 297, Value.bool true, Value.int 181 0, Value.ref 298, Value.none, Value.ref 299, Value.ref 300, Value.ref 301, Value.int 587 0, Value.int 144 0, Value.str (Str.ofString "/claim/cut.py") 588] }
noncomputable def hd.o_485 (P : Params) : Obj := { cls := Value.type "function", data := Data.func { name := hd.fName (hd.stA 53), qualname := Str.ofString "lisp_remove", params := hd.fPar (hd.stA 53), body := FuncBody.stmts (hd.fBody (hd.stA 53)), scope := hd.fScope (hd.stA 53), globals := 3, closure := [], defaults := Value.none, kwdefaults := Value.none, pyModule := Value.str (Str.ofString "emacs.sequences") 590, code := Value.ref 429 } }
noncomputable def hd.o_289 (P : Params) : Obj := { cls := Value.type "tuple", data := Data.seq #[Value.str (Str.ofString "value") 495, Value.str (Str.ofString "things") 496, Value.str (Str.ofString "tail") 497] }
noncomputable def hd.o_419 (P : Params) : Obj := { cls := Value.none, data := Data.fields #[] }
noncomputable def hd.o_551 (P : Params) : Obj := { cls := Value.none, data := Data.fields #[] }
noncomputable def hd.o_101 (P : Params) : Obj := { cls := Value.type "builtin_function_or_method", data := Data.fields #[Value.builtin "object.__init_subclass__", Value.ref 58] }
noncomputable def hd.o_137 (P : Params) : Obj := { cls := Value.type "tuple", data := Data.seq #[Value.none] }
noncomputable def hd.o_207 (P : Params) : Obj := { cls := Value.type "tuple", data := Data.seq #[] }
noncomputable def hd.o_337 (P : Params) : Obj := { cls := Value.type "tuple", data := Data.seq #[] }
noncomputable def hd.o_469 (P : Params) : Obj := { cls := Value.type "tuple", data := Data.seq #[] }
noncomputable def hd.o_273 (P : Params) : Obj := { cls := Value.type "tuple", data := Data.seq #[] }
noncomputable def hd.o_403 (P : Params) : Obj := { cls := Value.type "function", data := Data.func { name := hd.fName (hd.stA 41), qualname := Str.ofString "lisp_length", params := hd.fPar (hd.stA 41), body := FuncBody.stmts (hd.fBody (hd.stA 41)), scope := hd.fScope (hd.stA 41), globals := 3, closure := [], defaults := Value.none, kwdefaults := Value.none, pyModule := Value.str (Str.ofString "emacs.sequences") 590, code := Value.ref 349 } }
noncomputable def hd.o_535 (P : Params) : Obj := { cls := Value.type "tuple", data := Data.seq #[Value.str (Str.ofString "deck") 810, Value.str (Str.ofString "sort") 811, Value.str (Str.ofString "numbers") 812, Value.str (Str.ofString "place") 813, Value.str (Str.ofString "new") 814, Value.str (Str.ofString "value") 815, Value.str (Str.ofString "is_there") 816, Value.str (Str.ofString "due") 817] }
noncomputable def hd.o_171 (P : Params) : Obj := { cls := Value.type "getset_descriptor", data := Data.fields #[Value.str (Str.ofString "__dict__") 354, Value.ref 125, Value.builtin "function.__dict__", Value.builtin "function.__dict__#set"] }
noncomputable def hd.o_239 (P : Params) : Obj := { cls := Value.type "tuple", data := Data.seq #[] }
noncomputable def hd.o_371 (P : Params) : Obj := { cls := Value.type "tuple", data := Data.seq #[] }
noncomputable def hd.o_501 (P : Params) : Obj := { cls := Value.type "code", data := Data.fields #[Value.str (Str.ofString "_law_draw") 761, Value.str (Str.ofString "_law_draw") 762, Value.str (Str.ofString "/claim/cut.py") 763, Value.int 277 0, Value.int 2 0, Value.int 0 0, Value.int 0 0, Value.int 3 0, Value.ref 441, Value.bool true, Value.int 181 0, Value.ref 442, Value.none, Value.ref 443, Value.ref 444, Value.ref 445, Value.int 767 0, Value.int 277 0, Value.str (Str.ofString "/claim/cut.py") 768] }
noncomputable def hd.o_305 (P : Params) : Obj := { cls := Value.none, data := Data.func { name := hd.fName (hd.stA 24), qualname := Str.ofString "eq", params := hd.fPar (hd.stA 24), body := FuncBody.stmts (hd.fBody (hd.stA 24)), scope := hd.fScope (hd.stA 24), globals := 0, closure := [], defaults := Value.none, kwdefaults := Value.none } }
noncomputable def hd.o_437 (P : Params) : Obj := { cls := Value.type "tuple", data := Data.seq #[] }
noncomputable def hd.tree_561 (P : Params) : BT := BT.node (boot_o_0 P) (BT.node (boot_o_1 P) (BT.node (hd.o_510 P) (BT.node (boot_o_7 P) (BT.node (hd.o_52 P) (BT.node (hd.o_68 P) (BT.node (hd.o_102 P) (BT.node (hd.o_172 P) (BT.node (hd.o_306 P) BT.nil BT.nil) (BT.node (hd.o_438 P) BT.nil BT.nil)) (BT.node (hd.o_240 P) (BT.node (hd.o_372 P) BT.nil BT.nil) (BT.node (hd.o_502 P) BT.nil BT.nil))) (BT.node (hd.o_138 P) (BT.node (hd.o_208 P) (BT.node (hd.o_338 P) BT.nil BT.nil) (BT.node (hd.o_470 P) BT.nil BT.nil)) (BT.node (hd.o_274 P) (BT.node (hd.o_404 P) BT.nil BT.nil) (BT.node (hd.o_536 P) BT.nil BT.nil)))) (BT.node (hd.o_86 P) (BT.node (hd.o_120 P) (BT.node (hd.o_190 P) (BT.node (hd.o_322 P) BT.nil BT.nil) (BT.node (hd.o_454 P) BT.nil BT.nil)) (BT.node (hd.o_256 P) (BT.node (hd.o_388 P) BT.nil BT.nil) (BT.node (hd.o_520 P) BT.nil BT.nil))) (BT.node (hd.o_156 P) (BT.node (hd.o_224 P) (BT.node (hd.o_356 P) BT.nil BT.nil) (BT.node (hd.o_486 P) BT.nil BT.nil)) (BT.node (hd.o_290 P) (BT.node (hd.o_420 P) BT.nil BT.nil) (BT.node (hd.o_552 P) BT.nil BT.nil))))) (BT.node (hd.o_60 P) (BT.node (hd.o_76 P) (BT.node (hd.o_112 P) (BT.node (hd.o_182 P) (BT.node (hd.o_314 P) BT.nil BT.nil) (BT.node (hd.o_446 P) BT.nil BT.nil)) (BT.node (hd.o_248 P) (BT.node (hd.o_380 P) BT.nil BT.nil) (BT.node (hd.o_512 P) BT.nil BT.nil))) (BT.node (hd.o_146 P) (BT.node (hd.o_216 P) (BT.node (hd.o_348 P) BT.nil BT.nil) (BT.node (hd.o_478 P) BT.nil BT.nil)) (BT.node (hd.o_282 P) (BT.node (hd.o_412 P) BT.nil BT.nil) (BT.node (hd.o_544 P) BT.nil BT.nil)))) (BT.node (hd.o_94 P) (BT.node (hd.o_130 P) (BT.node (hd.o_200 P) (BT.node (hd.o_330 P) BT.nil BT.nil) (BT.node (hd.o_462 P) BT.nil BT.nil)) (BT.node (hd.o_266 P) (BT.node (hd.o_396 P) BT.nil BT.nil) (BT.node (hd.o_528 P) BT.nil BT.nil))) (BT.node (hd.o_164 P) (BT.node (hd.o_232 P) (BT.node (hd.o_364 P) BT.nil BT.nil) (BT.node (hd.o_494 P) BT.nil BT.nil)) (BT.node (hd.o_298 P) (BT.node (hd.o_430 P) BT.nil BT.nil) (BT.node (hd.o_560 P) BT.nil BT.nil)))))) (BT.node (hd.o_43 P) (BT.node (hd.o_56 P) (BT.node (hd.o_72 P) (BT.node (hd.o_108 P) (BT.node (hd.o_178 P) (BT.node (hd.o_310 P) BT.nil BT.nil) (BT.node (hd.o_442 P) BT.nil BT.nil)) (BT.node (hd.o_244 P) (BT.node (hd.o_376 P) BT.nil BT.nil) (BT.node (hd.o_506 P) BT.nil BT.nil))) (BT.node (hd.o_142 P) (BT.node (hd.o_212 P) (BT.node (hd.o_344 P) BT.nil BT.nil) (BT.node (hd.o_474 P) BT.nil BT.nil)) (BT.node (hd.o_278 P) (BT.node (hd.o_408 P) BT.nil BT.nil) (BT.node (hd.o_540 P) BT.nil BT.nil)))) (BT.node (hd.o_90 P) (BT.node (hd.o_124 P) (BT.node (hd.o_194 P) (BT.node (hd.o_326 P) BT.nil BT.nil) (BT.node (hd.o_458 P) BT.nil BT.nil)) (BT.node (hd.o_262 P) (BT.node (hd.o_392 P) BT.nil BT.nil) (BT.node (hd.o_524 P) BT.nil BT.nil))) (BT.node (hd.o_160 P) (BT.node (hd.o_228 P) (BT.node (hd.o_360 P) BT.nil BT.nil) (BT.node (hd.o_490 P) BT.nil BT.nil)) (BT.node (hd.o_294 P) (BT.node (hd.o_424 P) BT.nil BT.nil) (BT.node (hd.o_556 P) BT.nil BT.nil))))) (BT.node (hd.o_64 P) (BT.node (hd.o_82 P) (BT.node (hd.o_116 P) (BT.node (hd.o_186 P) (BT.node (hd.o_318 P) BT.nil BT.nil) (BT.node (hd.o_450 P) BT.nil BT.nil)) (BT.node (hd.o_252 P) (BT.node (hd.o_384 P) BT.nil BT.nil) (BT.node (hd.o_516 P) BT.nil BT.nil))) (BT.node (hd.o_150 P) (BT.node (hd.o_220 P) (BT.node (hd.o_352 P) BT.nil BT.nil) (BT.node (hd.o_482 P) BT.nil BT.nil)) (BT.node (hd.o_286 P) (BT.node (hd.o_416 P) BT.nil BT.nil) (BT.node (hd.o_548 P) BT.nil BT.nil)))) (BT.node (hd.o_98 P) (BT.node (hd.o_134 P) (BT.node (hd.o_204 P) (BT.node (hd.o_334 P) BT.nil BT.nil) (BT.node (hd.o_466 P) BT.nil BT.nil)) (BT.node (hd.o_270 P) (BT.node (hd.o_400 P) BT.nil BT.nil) (BT.node (hd.o_532 P) BT.nil BT.nil))) (BT.node (hd.o_168 P) (BT.node (hd.o_236 P) (BT.node (hd.o_368 P) BT.nil BT.nil) (BT.node (hd.o_498 P) BT.nil BT.nil)) (BT.node (hd.o_302 P) (BT.node (hd.o_434 P) BT.nil BT.nil) BT.nil)))))) (BT.node (boot_o_5 P) (BT.node (boot_o_9 P) (BT.node (hd.o_54 P) (BT.node (hd.o_70 P) (BT.node (hd.o_104 P) (BT.node (hd.o_174 P) (BT.node (hd.o_308 P) BT.nil BT.nil) (BT.node (hd.o_440 P) BT.nil BT.nil)) (BT.node (hd.o_242 P) (BT.node (hd.o_374 P) BT.nil BT.nil) (BT.node (hd.o_504 P) BT.nil BT.nil))) (BT.node (hd.o_140 P) (BT.node (hd.o_210 P) (BT.node (hd.o_340 P) BT.nil BT.nil) (BT.node (hd.o_472 P) BT.nil BT.nil)) (BT.node (hd.o_276 P) (BT.node (hd.o_406 P) BT.nil BT.nil) (BT.node (hd.o_538 P) BT.nil BT.nil)))) (BT.node (hd.o_88 P) (BT.node (hd.o_122 P) (BT.node (hd.o_192 P) (BT.node (hd.o_324 P) BT.nil BT.nil) (BT.node (hd.o_456 P) BT.nil BT.nil)) (BT.node (hd.o_260 P) (BT.node (hd.o_390 P) BT.nil BT.nil) (BT.node (hd.o_522 P) BT.nil BT.nil))) (BT.node (hd.o_158 P) (BT.node (hd.o_226 P) (BT.node (hd.o_358 P) BT.nil BT.nil) (BT.node (hd.o_488 P) BT.nil BT.nil)) (BT.node (hd.o_292 P) (BT.node (hd.o_422 P) BT.nil BT.nil) (BT.node (hd.o_554 P) BT.nil BT.nil))))) (BT.node (hd.o_62 P) (BT.node (hd.o_78 P) (BT.node (hd.o_114 P) (BT.node (hd.o_184 P) (BT.node (hd.o_316 P) BT.nil BT.nil) (BT.node (hd.o_448 P) BT.nil BT.nil)) (BT.node (hd.o_250 P) (BT.node (hd.o_382 P) BT.nil BT.nil) (BT.node (hd.o_514 P) BT.nil BT.nil))) (BT.node (hd.o_148 P) (BT.node (hd.o_218 P) (BT.node (hd.o_350 P) BT.nil BT.nil) (BT.node (hd.o_480 P) BT.nil BT.nil)) (BT.node (hd.o_284 P) (BT.node (hd.o_414 P) BT.nil BT.nil) (BT.node (hd.o_546 P) BT.nil BT.nil)))) (BT.node (hd.o_96 P) (BT.node (hd.o_132 P) (BT.node (hd.o_202 P) (BT.node (hd.o_332 P) BT.nil BT.nil) (BT.node (hd.o_464 P) BT.nil BT.nil)) (BT.node (hd.o_268 P) (BT.node (hd.o_398 P) BT.nil BT.nil) (BT.node (hd.o_530 P) BT.nil BT.nil))) (BT.node (hd.o_166 P) (BT.node (hd.o_234 P) (BT.node (hd.o_366 P) BT.nil BT.nil) (BT.node (hd.o_496 P) BT.nil BT.nil)) (BT.node (hd.o_300 P) (BT.node (hd.o_432 P) BT.nil BT.nil) BT.nil))))) (BT.node (hd.o_45 P) (BT.node (hd.o_58 P) (BT.node (hd.o_74 P) (BT.node (hd.o_110 P) (BT.node (hd.o_180 P) (BT.node (hd.o_312 P) BT.nil BT.nil) (BT.node (hd.o_444 P) BT.nil BT.nil)) (BT.node (hd.o_246 P) (BT.node (hd.o_378 P) BT.nil BT.nil) (BT.node (hd.o_508 P) BT.nil BT.nil))) (BT.node (hd.o_144 P) (BT.node (hd.o_214 P) (BT.node (hd.o_346 P) BT.nil BT.nil) (BT.node (hd.o_476 P) BT.nil BT.nil)) (BT.node (hd.o_280 P) (BT.node (hd.o_410 P) BT.nil BT.nil) (BT.node (hd.o_542 P) BT.nil BT.nil)))) (BT.node (hd.o_92 P) (BT.node (hd.o_126 P) (BT.node (hd.o_196 P) (BT.node (hd.o_328 P) BT.nil BT.nil) (BT.node (hd.o_460 P) BT.nil BT.nil)) (BT.node (hd.o_264 P) (BT.node (hd.o_394 P) BT.nil BT.nil) (BT.node (hd.o_526 P) BT.nil BT.nil))) (BT.node (hd.o_162 P) (BT.node (hd.o_230 P) (BT.node (hd.o_362 P) BT.nil BT.nil) (BT.node (hd.o_492 P) BT.nil BT.nil)) (BT.node (hd.o_296 P) (BT.node (hd.o_428 P) BT.nil BT.nil) (BT.node (hd.o_558 P) BT.nil BT.nil))))) (BT.node (hd.o_66 P) (BT.node (hd.o_84 P) (BT.node (hd.o_118 P) (BT.node (hd.o_188 P) (BT.node (hd.o_320 P) BT.nil BT.nil) (BT.node (hd.o_452 P) BT.nil BT.nil)) (BT.node (hd.o_254 P) (BT.node (hd.o_386 P) BT.nil BT.nil) (BT.node (hd.o_518 P) BT.nil BT.nil))) (BT.node (hd.o_154 P) (BT.node (hd.o_222 P) (BT.node (hd.o_354 P) BT.nil BT.nil) (BT.node (hd.o_484 P) BT.nil BT.nil)) (BT.node (hd.o_288 P) (BT.node (hd.o_418 P) BT.nil BT.nil) (BT.node (hd.o_550 P) BT.nil BT.nil)))) (BT.node (hd.o_100 P) (BT.node (hd.o_136 P) (BT.node (hd.o_206 P) (BT.node (hd.o_336 P) BT.nil BT.nil) (BT.node (hd.o_468 P) BT.nil BT.nil)) (BT.node (hd.o_272 P) (BT.node (hd.o_402 P) BT.nil BT.nil) (BT.node (hd.o_534 P) BT.nil BT.nil))) (BT.node (hd.o_170 P) (BT.node (hd.o_238 P) (BT.node (hd.o_370 P) BT.nil BT.nil) (BT.node (hd.o_500 P) BT.nil BT.nil)) (BT.node (hd.o_304 P) (BT.node (hd.o_436 P) BT.nil BT.nil) BT.nil))))))) (BT.node (hd.o_49 P) (BT.node (boot_o_4 P) (BT.node (boot_o_8 P) (BT.node (hd.o_53 P) (BT.node (hd.o_69 P) (BT.node (hd.o_103 P) (BT.node (hd.o_173 P) (BT.node (hd.o_307 P) BT.nil BT.nil) (BT.node (hd.o_439 P) BT.nil BT.nil)) (BT.node (hd.o_241 P) (BT.node (hd.o_373 P) BT.nil BT.nil) (BT.node (hd.o_503 P) BT.nil BT.nil))) (BT.node (hd.o_139 P) (BT.node (hd.o_209 P) (BT.node (hd.o_339 P) BT.nil BT.nil) (BT.node (hd.o_471 P) BT.nil BT.nil)) (BT.node (hd.o_275 P) (BT.node (hd.o_405 P) BT.nil BT.nil) (BT.node (hd.o_537 P) BT.nil BT.nil)))) (BT.node (hd.o_87 P) (BT.node (hd.o_121 P) (BT.node (hd.o_191 P) (BT.node (hd.o_323 P) BT.nil BT.nil) (BT.node (hd.o_455 P) BT.nil BT.nil)) (BT.node (hd.o_259 P) (BT.node (hd.o_389 P) BT.nil BT.nil) (BT.node (hd.o_521 P) BT.nil BT.nil))) (BT.node (hd.o_157 P) (BT.node (hd.o_225 P) (BT.node (hd.o_357 P) BT.nil BT.nil) (BT.node (hd.o_487 P) BT.nil BT.nil)) (BT.node (hd.o_291 P) (BT.node (hd.o_421 P) BT.nil BT.nil) (BT.node (hd.o_553 P) BT.nil BT.nil))))) (BT.node (hd.o_61 P) (BT.node (hd.o_77 P) (BT.node (hd.o_113 P) (BT.node (hd.o_183 P) (BT.node (hd.o_315 P) BT.nil BT.nil) (BT.node (hd.o_447 P) BT.nil BT.nil)) (BT.node (hd.o_249 P) (BT.node (hd.o_381 P) BT.nil BT.nil) (BT.node (hd.o_513 P) BT.nil BT.nil))) (BT.node (hd.o_147 P) (BT.node (hd.o_217 P) (BT.node (hd.o_349 P) BT.nil BT.nil) (BT.node (hd.o_479 P) BT.nil BT.nil)) (BT.node (hd.o_283 P) (BT.node (hd.o_413 P) BT.nil BT.nil) (BT.node (hd.o_545 P) BT.nil BT.nil)))) (BT.node (hd.o_95 P) (BT.node (hd.o_131 P) (BT.node (hd.o_201 P) (BT.node (hd.o_331 P) BT.nil BT.nil) (BT.node (hd.o_463 P) BT.nil BT.nil)) (BT.node (hd.o_267 P) (BT.node (hd.o_397 P) BT.nil BT.nil) (BT.node (hd.o_529 P) BT.nil BT.nil))) (BT.node (hd.o_165 P) (BT.node (hd.o_233 P) (BT.node (hd.o_365 P) BT.nil BT.nil) (BT.node (hd.o_495 P) BT.nil BT.nil)) (BT.node (hd.o_299 P) (BT.node (hd.o_431 P) BT.nil BT.nil) (BT.node (hd.o_561 P) BT.nil BT.nil)))))) (BT.node (hd.o_511 P) (BT.node (hd.o_57 P) (BT.node (hd.o_73 P) (BT.node (hd.o_109 P) (BT.node (hd.o_179 P) (BT.node (hd.o_311 P) BT.nil BT.nil) (BT.node (hd.o_443 P) BT.nil BT.nil)) (BT.node (hd.o_245 P) (BT.node (hd.o_377 P) BT.nil BT.nil) (BT.node (hd.o_507 P) BT.nil BT.nil))) (BT.node (hd.o_143 P) (BT.node (hd.o_213 P) (BT.node (hd.o_345 P) BT.nil BT.nil) (BT.node (hd.o_475 P) BT.nil BT.nil)) (BT.node (hd.o_279 P) (BT.node (hd.o_409 P) BT.nil BT.nil) (BT.node (hd.o_541 P) BT.nil BT.nil)))) (BT.node (hd.o_91 P) (BT.node (hd.o_125 P) (BT.node (hd.o_195 P) (BT.node (hd.o_327 P) BT.nil BT.nil) (BT.node (hd.o_459 P) BT.nil BT.nil)) (BT.node (hd.o_263 P) (BT.node (hd.o_393 P) BT.nil BT.nil) (BT.node (hd.o_525 P) BT.nil BT.nil))) (BT.node (hd.o_161 P) (BT.node (hd.o_229 P) (BT.node (hd.o_361 P) BT.nil BT.nil) (BT.node (hd.o_491 P) BT.nil BT.nil)) (BT.node (hd.o_295 P) (BT.node (hd.o_427 P) BT.nil BT.nil) (BT.node (hd.o_557 P) BT.nil BT.nil))))) (BT.node (hd.o_65 P) (BT.node (hd.o_83 P) (BT.node (hd.o_117 P) (BT.node (hd.o_187 P) (BT.node (hd.o_319 P) BT.nil BT.nil) (BT.node (hd.o_451 P) BT.nil BT.nil)) (BT.node (hd.o_253 P) (BT.node (hd.o_385 P) BT.nil BT.nil) (BT.node (hd.o_517 P) BT.nil BT.nil))) (BT.node (hd.o_151 P) (BT.node (hd.o_221 P) (BT.node (hd.o_353 P) BT.nil BT.nil) (BT.node (hd.o_483 P) BT.nil BT.nil)) (BT.node (hd.o_287 P) (BT.node (hd.o_417 P) BT.nil BT.nil) (BT.node (hd.o_549 P) BT.nil BT.nil)))) (BT.node (hd.o_99 P) (BT.node (hd.o_135 P) (BT.node (hd.o_205 P) (BT.node (hd.o_335 P) BT.nil BT.nil) (BT.node (hd.o_467 P) BT.nil BT.nil)) (BT.node (hd.o_271 P) (BT.node (hd.o_401 P) BT.nil BT.nil) (BT.node (hd.o_533 P) BT.nil BT.nil))) (BT.node (hd.o_169 P) (BT.node (hd.o_237 P) (BT.node (hd.o_369 P) BT.nil BT.nil) (BT.node (hd.o_499 P) BT.nil BT.nil)) (BT.node (hd.o_303 P) (BT.node (hd.o_435 P) BT.nil BT.nil) BT.nil)))))) (BT.node (boot_o_6 P) (BT.node (boot_o_10 P) (BT.node (hd.o_55 P) (BT.node (hd.o_71 P) (BT.node (hd.o_107 P) (BT.node (hd.o_177 P) (BT.node (hd.o_309 P) BT.nil BT.nil) (BT.node (hd.o_441 P) BT.nil BT.nil)) (BT.node (hd.o_243 P) (BT.node (hd.o_375 P) BT.nil BT.nil) (BT.node (hd.o_505 P) BT.nil BT.nil))) (BT.node (hd.o_141 P) (BT.node (hd.o_211 P) (BT.node (hd.o_343 P) BT.nil BT.nil) (BT.node (hd.o_473 P) BT.nil BT.nil)) (BT.node (hd.o_277 P) (BT.node (hd.o_407 P) BT.nil BT.nil) (BT.node (hd.o_539 P) BT.nil BT.nil)))) (BT.node (hd.o_89 P) (BT.node (hd.o_123 P) (BT.node (hd.o_193 P) (BT.node (hd.o_325 P) BT.nil BT.nil) (BT.node (hd.o_457 P) BT.nil BT.nil)) (BT.node (hd.o_261 P) (BT.node (hd.o_391 P) BT.nil BT.nil) (BT.node (hd.o_523 P) BT.nil BT.nil))) (BT.node (hd.o_159 P) (BT.node (hd.o_227 P) (BT.node (hd.o_359 P) BT.nil BT.nil) (BT.node (hd.o_489 P) BT.nil BT.nil)) (BT.node (hd.o_293 P) (BT.node (hd.o_423 P) BT.nil BT.nil) (BT.node (hd.o_555 P) BT.nil BT.nil))))) (BT.node (hd.o_63 P) (BT.node (hd.o_81 P) (BT.node (hd.o_115 P) (BT.node (hd.o_185 P) (BT.node (hd.o_317 P) BT.nil BT.nil) (BT.node (hd.o_449 P) BT.nil BT.nil)) (BT.node (hd.o_251 P) (BT.node (hd.o_383 P) BT.nil BT.nil) (BT.node (hd.o_515 P) BT.nil BT.nil))) (BT.node (hd.o_149 P) (BT.node (hd.o_219 P) (BT.node (hd.o_351 P) BT.nil BT.nil) (BT.node (hd.o_481 P) BT.nil BT.nil)) (BT.node (hd.o_285 P) (BT.node (hd.o_415 P) BT.nil BT.nil) (BT.node (hd.o_547 P) BT.nil BT.nil)))) (BT.node (hd.o_97 P) (BT.node (hd.o_133 P) (BT.node (hd.o_203 P) (BT.node (hd.o_333 P) BT.nil BT.nil) (BT.node (hd.o_465 P) BT.nil BT.nil)) (BT.node (hd.o_269 P) (BT.node (hd.o_399 P) BT.nil BT.nil) (BT.node (hd.o_531 P) BT.nil BT.nil))) (BT.node (hd.o_167 P) (BT.node (hd.o_235 P) (BT.node (hd.o_367 P) BT.nil BT.nil) (BT.node (hd.o_497 P) BT.nil BT.nil)) (BT.node (hd.o_301 P) (BT.node (hd.o_433 P) BT.nil BT.nil) BT.nil))))) (BT.node (hd.o_46 P) (BT.node (hd.o_59 P) (BT.node (hd.o_75 P) (BT.node (hd.o_111 P) (BT.node (hd.o_181 P) (BT.node (hd.o_313 P) BT.nil BT.nil) (BT.node (hd.o_445 P) BT.nil BT.nil)) (BT.node (hd.o_247 P) (BT.node (hd.o_379 P) BT.nil BT.nil) (BT.node (hd.o_509 P) BT.nil BT.nil))) (BT.node (hd.o_145 P) (BT.node (hd.o_215 P) (BT.node (hd.o_347 P) BT.nil BT.nil) (BT.node (hd.o_477 P) BT.nil BT.nil)) (BT.node (hd.o_281 P) (BT.node (hd.o_411 P) BT.nil BT.nil) (BT.node (hd.o_543 P) BT.nil BT.nil)))) (BT.node (hd.o_93 P) (BT.node (hd.o_127 P) (BT.node (hd.o_197 P) (BT.node (hd.o_329 P) BT.nil BT.nil) (BT.node (hd.o_461 P) BT.nil BT.nil)) (BT.node (hd.o_265 P) (BT.node (hd.o_395 P) BT.nil BT.nil) (BT.node (hd.o_527 P) BT.nil BT.nil))) (BT.node (hd.o_163 P) (BT.node (hd.o_231 P) (BT.node (hd.o_363 P) BT.nil BT.nil) (BT.node (hd.o_493 P) BT.nil BT.nil)) (BT.node (hd.o_297 P) (BT.node (hd.o_429 P) BT.nil BT.nil) (BT.node (hd.o_559 P) BT.nil BT.nil))))) (BT.node (hd.o_67 P) (BT.node (hd.o_85 P) (BT.node (hd.o_119 P) (BT.node (hd.o_189 P) (BT.node (hd.o_321 P) BT.nil BT.nil) (BT.node (hd.o_453 P) BT.nil BT.nil)) (BT.node (hd.o_255 P) (BT.node (hd.o_387 P) BT.nil BT.nil) (BT.node (hd.o_519 P) BT.nil BT.nil))) (BT.node (hd.o_155 P) (BT.node (hd.o_223 P) (BT.node (hd.o_355 P) BT.nil BT.nil) (BT.node (hd.o_485 P) BT.nil BT.nil)) (BT.node (hd.o_289 P) (BT.node (hd.o_419 P) BT.nil BT.nil) (BT.node (hd.o_551 P) BT.nil BT.nil)))) (BT.node (hd.o_101 P) (BT.node (hd.o_137 P) (BT.node (hd.o_207 P) (BT.node (hd.o_337 P) BT.nil BT.nil) (BT.node (hd.o_469 P) BT.nil BT.nil)) (BT.node (hd.o_273 P) (BT.node (hd.o_403 P) BT.nil BT.nil) (BT.node (hd.o_535 P) BT.nil BT.nil))) (BT.node (hd.o_171 P) (BT.node (hd.o_239 P) (BT.node (hd.o_371 P) BT.nil BT.nil) (BT.node (hd.o_501 P) BT.nil BT.nil)) (BT.node (hd.o_305 P) (BT.node (hd.o_437 P) BT.nil BT.nil) BT.nil)))))))
noncomputable def hd.heap_562 (P : Params) : Heap := { objs := { toList := [boot_o_0 P, boot_o_1 P, hd.o_49 P, hd.o_510 P, boot_o_4 P, boot_o_5 P, boot_o_6 P, boot_o_7 P, boot_o_8 P, boot_o_9 P, boot_o_10 P, hd.o_43 P, hd.o_511 P, hd.o_45 P, hd.o_46 P, hd.o_52 P, hd.o_53 P, hd.o_54 P, hd.o_55 P, hd.o_56 P, hd.o_57 P, hd.o_58 P, hd.o_59 P, hd.o_60 P, hd.o_61 P, hd.o_62 P, hd.o_63 P, hd.o_64 P, hd.o_65 P, hd.o_66 P, hd.o_67 P, hd.o_68 P, hd.o_69 P, hd.o_70 P, hd.o_71 P, hd.o_72 P, hd.o_73 P, hd.o_74 P, hd.o_75 P, hd.o_76 P, hd.o_77 P, hd.o_78 P, hd.o_81 P, hd.o_82 P, hd.o_83 P, hd.o_84 P, hd.o_85 P, hd.o_86 P, hd.o_87 P, hd.o_88 P, hd.o_89 P, hd.o_90 P, hd.o_91 P, hd.o_92 P, hd.o_93 P, hd.o_94 P, hd.o_95 P, hd.o_96 P, hd.o_97 P, hd.o_98 P, hd.o_99 P, hd.o_100 P, hd.o_101 P, hd.o_102 P, hd.o_103 P, hd.o_104 P, hd.o_107 P, hd.o_108 P, hd.o_109 P, hd.o_110 P, hd.o_111 P, hd.o_112 P, hd.o_113 P, hd.o_114 P, hd.o_115 P, hd.o_116 P, hd.o_117 P, hd.o_118 P, hd.o_119 P, hd.o_120 P, hd.o_121 P, hd.o_122 P, hd.o_123 P, hd.o_124 P, hd.o_125 P, hd.o_126 P, hd.o_127 P, hd.o_130 P, hd.o_131 P, hd.o_132 P, hd.o_133 P, hd.o_134 P, hd.o_135 P, hd.o_136 P, hd.o_137 P, hd.o_138 P, hd.o_139 P, hd.o_140 P, hd.o_141 P, hd.o_142 P, hd.o_143 P, hd.o_144 P, hd.o_145 P, hd.o_146 P, hd.o_147 P, hd.o_148 P, hd.o_149 P, hd.o_150 P, hd.o_151 P, hd.o_154 P, hd.o_155 P, hd.o_156 P, hd.o_157 P, hd.o_158 P, hd.o_159 P, hd.o_160 P, hd.o_161 P, hd.o_162 P, hd.o_163 P, hd.o_164 P, hd.o_165 P, hd.o_166 P, hd.o_167 P, hd.o_168 P, hd.o_169 P, hd.o_170 P, hd.o_171 P, hd.o_172 P, hd.o_173 P, hd.o_174 P, hd.o_177 P, hd.o_178 P, hd.o_179 P, hd.o_180 P, hd.o_181 P, hd.o_182 P, hd.o_183 P, hd.o_184 P, hd.o_185 P, hd.o_186 P, hd.o_187 P, hd.o_188 P, hd.o_189 P, hd.o_190 P, hd.o_191 P, hd.o_192 P, hd.o_193 P, hd.o_194 P, hd.o_195 P, hd.o_196 P, hd.o_197 P, hd.o_200 P, hd.o_201 P, hd.o_202 P, hd.o_203 P, hd.o_204 P, hd.o_205 P, hd.o_206 P, hd.o_207 P, hd.o_208 P, hd.o_209 P, hd.o_210 P, hd.o_211 P, hd.o_212 P, hd.o_213 P, hd.o_214 P, hd.o_215 P, hd.o_216 P, hd.o_217 P, hd.o_218 P, hd.o_219 P, hd.o_220 P, hd.o_221 P, hd.o_222 P, hd.o_223 P, hd.o_224 P, hd.o_225 P, hd.o_226 P, hd.o_227 P, hd.o_228 P, hd.o_229 P, hd.o_230 P, hd.o_231 P, hd.o_232 P, hd.o_233 P, hd.o_234 P, hd.o_235 P, hd.o_236 P, hd.o_237 P, hd.o_238 P, hd.o_239 P, hd.o_240 P, hd.o_241 P, hd.o_242 P, hd.o_243 P, hd.o_244 P, hd.o_245 P, hd.o_246 P, hd.o_247 P, hd.o_248 P, hd.o_249 P, hd.o_250 P, hd.o_251 P, hd.o_252 P, hd.o_253 P, hd.o_254 P, hd.o_255 P, hd.o_256 P, hd.o_259 P, hd.o_260 P, hd.o_261 P, hd.o_262 P, hd.o_263 P, hd.o_264 P, hd.o_265 P, hd.o_266 P, hd.o_267 P, hd.o_268 P, hd.o_269 P, hd.o_270 P, hd.o_271 P, hd.o_272 P, hd.o_273 P, hd.o_274 P, hd.o_275 P, hd.o_276 P, hd.o_277 P, hd.o_278 P, hd.o_279 P, hd.o_280 P, hd.o_281 P, hd.o_282 P, hd.o_283 P, hd.o_284 P, hd.o_285 P, hd.o_286 P, hd.o_287 P, hd.o_288 P, hd.o_289 P, hd.o_290 P, hd.o_291 P, hd.o_292 P, hd.o_293 P, hd.o_294 P, hd.o_295 P, hd.o_296 P, hd.o_297 P, hd.o_298 P, hd.o_299 P, hd.o_300 P, hd.o_301 P, hd.o_302 P, hd.o_303 P, hd.o_304 P, hd.o_305 P, hd.o_306 P, hd.o_307 P, hd.o_308 P, hd.o_309 P, hd.o_310 P, hd.o_311 P, hd.o_312 P, hd.o_313 P, hd.o_314 P, hd.o_315 P, hd.o_316 P, hd.o_317 P, hd.o_318 P, hd.o_319 P, hd.o_320 P, hd.o_321 P, hd.o_322 P, hd.o_323 P, hd.o_324 P, hd.o_325 P, hd.o_326 P, hd.o_327 P, hd.o_328 P, hd.o_329 P, hd.o_330 P, hd.o_331 P, hd.o_332 P, hd.o_333 P, hd.o_334 P, hd.o_335 P, hd.o_336 P, hd.o_337 P, hd.o_338 P, hd.o_339 P, hd.o_340 P, hd.o_343 P, hd.o_344 P, hd.o_345 P, hd.o_346 P, hd.o_347 P, hd.o_348 P, hd.o_349 P, hd.o_350 P, hd.o_351 P, hd.o_352 P, hd.o_353 P, hd.o_354 P, hd.o_355 P, hd.o_356 P, hd.o_357 P, hd.o_358 P, hd.o_359 P, hd.o_360 P, hd.o_361 P, hd.o_362 P, hd.o_363 P, hd.o_364 P, hd.o_365 P, hd.o_366 P, hd.o_367 P, hd.o_368 P, hd.o_369 P, hd.o_370 P, hd.o_371 P, hd.o_372 P, hd.o_373 P, hd.o_374 P, hd.o_375 P, hd.o_376 P, hd.o_377 P, hd.o_378 P, hd.o_379 P, hd.o_380 P, hd.o_381 P, hd.o_382 P, hd.o_383 P, hd.o_384 P, hd.o_385 P, hd.o_386 P, hd.o_387 P, hd.o_388 P, hd.o_389 P, hd.o_390 P, hd.o_391 P, hd.o_392 P, hd.o_393 P, hd.o_394 P, hd.o_395 P, hd.o_396 P, hd.o_397 P, hd.o_398 P, hd.o_399 P, hd.o_400 P, hd.o_401 P, hd.o_402 P, hd.o_403 P, hd.o_404 P, hd.o_405 P, hd.o_406 P, hd.o_407 P, hd.o_408 P, hd.o_409 P, hd.o_410 P, hd.o_411 P, hd.o_412 P, hd.o_413 P, hd.o_414 P, hd.o_415 P, hd.o_416 P, hd.o_417 P, hd.o_418 P, hd.o_419 P, hd.o_420 P, hd.o_421 P, hd.o_422 P, hd.o_423 P, hd.o_424 P, hd.o_427 P, hd.o_428 P, hd.o_429 P, hd.o_430 P, hd.o_431 P, hd.o_432 P, hd.o_433 P, hd.o_434 P, hd.o_435 P, hd.o_436 P, hd.o_437 P, hd.o_438 P, hd.o_439 P, hd.o_440 P, hd.o_441 P, hd.o_442 P, hd.o_443 P, hd.o_444 P, hd.o_445 P, hd.o_446 P, hd.o_447 P, hd.o_448 P, hd.o_449 P, hd.o_450 P, hd.o_451 P, hd.o_452 P, hd.o_453 P, hd.o_454 P, hd.o_455 P, hd.o_456 P, hd.o_457 P, hd.o_458 P, hd.o_459 P, hd.o_460 P, hd.o_461 P, hd.o_462 P, hd.o_463 P, hd.o_464 P, hd.o_465 P, hd.o_466 P, hd.o_467 P, hd.o_468 P, hd.o_469 P, hd.o_470 P, hd.o_471 P, hd.o_472 P, hd.o_473 P, hd.o_474 P, hd.o_475 P, hd.o_476 P, hd.o_477 P, hd.o_478 P, hd.o_479 P, hd.o_480 P, hd.o_481 P, hd.o_482 P, hd.o_483 P, hd.o_484 P, hd.o_485 P, hd.o_486 P, hd.o_487 P, hd.o_488 P, hd.o_489 P, hd.o_490 P, hd.o_491 P, hd.o_492 P, hd.o_493 P, hd.o_494 P, hd.o_495 P, hd.o_496 P, hd.o_497 P, hd.o_498 P, hd.o_499 P, hd.o_500 P, hd.o_501 P, hd.o_502 P, hd.o_503 P, hd.o_504 P, hd.o_505 P, hd.o_506 P, hd.o_507 P, hd.o_508 P, hd.o_509 P, hd.o_512 P, hd.o_513 P, hd.o_514 P, hd.o_515 P, hd.o_516 P, hd.o_517 P, hd.o_518 P, hd.o_519 P, hd.o_520 P, hd.o_521 P, hd.o_522 P, hd.o_523 P, hd.o_524 P, hd.o_525 P, hd.o_526 P, hd.o_527 P, hd.o_528 P, hd.o_529 P, hd.o_530 P, hd.o_531 P, hd.o_532 P, hd.o_533 P, hd.o_534 P, hd.o_535 P, hd.o_536 P, hd.o_537 P, hd.o_538 P, hd.o_539 P, hd.o_540 P, hd.o_541 P, hd.o_542 P, hd.o_543 P, hd.o_544 P, hd.o_545 P, hd.o_546 P, hd.o_547 P, hd.o_548 P, hd.o_549 P, hd.o_550 P, hd.o_551 P, hd.o_552 P, hd.o_553 P, hd.o_554 P, hd.o_555 P, hd.o_556 P, hd.o_557 P, hd.o_558 P, hd.o_559 P, hd.o_560 P, hd.o_561 P] } }
noncomputable def hd.heap_39 (P : Params) : Frag := (nat_lit 2, hd.o_49 P) :: (nat_lit 3, hd.o_510 P) :: (nat_lit 15, hd.o_52 P) :: (nat_lit 17, hd.o_54 P) :: (nat_lit 18, hd.o_55 P) :: (nat_lit 20, hd.o_57 P) :: (nat_lit 21, hd.o_58 P) :: (nat_lit 22, hd.o_59 P) :: (nat_lit 29, hd.o_66 P) :: (nat_lit 31, hd.o_68 P) :: (nat_lit 32, hd.o_69 P) :: (nat_lit 34, hd.o_71 P) :: (nat_lit 35, hd.o_72 P) :: (nat_lit 36, hd.o_73 P) :: (nat_lit 37, hd.o_74 P) :: (nat_lit 38, hd.o_75 P) :: (nat_lit 39, hd.o_76 P) :: (nat_lit 49, hd.o_88 P) :: (nat_lit 51, hd.o_90 P) :: (nat_lit 52, hd.o_91 P) :: (nat_lit 54, hd.o_93 P) :: (nat_lit 55, hd.o_94 P) :: (nat_lit 56, hd.o_95 P) :: (nat_lit 57, hd.o_96 P) :: (nat_lit 58, hd.o_97 P) :: (nat_lit 59, hd.o_98 P) :: (nat_lit 60, hd.o_99 P) :: (nat_lit 63, hd.o_102 P) :: (nat_lit 64, hd.o_103 P) :: (nat_lit 73, hd.o_114 P) :: (nat_lit 75, hd.o_116 P) :: (nat_lit 76, hd.o_117 P) :: (nat_lit 78, hd.o_119 P) :: (nat_lit 79, hd.o_120 P) :: (nat_lit 80, hd.o_121 P) :: (nat_lit 81, hd.o_122 P) :: (nat_lit 82, hd.o_123 P) :: (nat_lit 83, hd.o_124 P) :: (nat_lit 84, hd.o_125 P) :: (nat_lit 94, hd.o_137 P) :: (nat_lit 95, hd.o_138 P) :: (nat_lit 97, hd.o_140 P) :: (nat_lit 98, hd.o_141 P) :: (nat_lit 100, hd.o_143 P) :: (nat_lit 101, hd.o_144 P) :: (nat_lit 102, hd.o_145 P) :: (nat_lit 103, hd.o_146 P) :: (nat_lit 104, hd.o_147 P) :: (nat_lit 105, hd.o_148 P) :: (nat_lit 106, hd.o_149 P) :: (nat_lit 116, hd.o_161 P) :: (nat_lit 118, hd.o_163 P) :: (nat_lit 119, hd.o_164 P) :: (nat_lit 121, hd.o_166 P) :: (nat_lit 122, hd.o_167 P) :: (nat_lit 123, hd.o_168 P) :: (nat_lit 124, hd.o_169 P) :: (nat_lit 125, hd.o_170 P) :: (nat_lit 126, hd.o_171 P) :: (nat_lit 127, hd.o_172 P) :: (nat_lit 137, hd.o_184 P) :: (nat_lit 139, hd.o_186 P) :: (nat_lit 140, hd.o_187 P) :: (nat_lit 142, hd.o_189 P) :: (nat_lit 143, hd.o_190 P) :: (nat_lit 144, hd.o_191 P) :: (nat_lit 145, hd.o_192 P) :: (nat_lit 146, hd.o_193 P) :: (nat_lit 147, hd.o_194 P) :: (nat_lit 148, hd.o_195 P) :: (nat_lit 158, hd.o_207 P) :: (nat_lit 160, hd.o_209 P) :: (nat_lit 161, hd.o_210 P) :: (nat_lit 163, hd.o_212 P) :: (nat_lit 164, hd.o_213 P) :: (nat_lit 165, hd.o_214 P) :: (nat_lit 167, hd.o_216 P) :: (nat_lit 168, hd.o_217 P) :: (nat_lit 170, hd.o_219 P) :: (nat_lit 171, hd.o_220 P) :: (nat_lit 172, hd.o_221 P) :: (nat_lit 174, hd.o_223 P) :: (nat_lit 175, hd.o_224 P) :: (nat_lit 177, hd.o_226 P) :: (nat_lit 178, hd.o_227 P) :: (nat_lit 179, hd.o_228 P) :: (nat_lit 180, hd.o_229 P) :: (nat_lit 181, hd.o_230 P) :: (nat_lit 182, hd.o_231 P) :: (nat_lit 183, hd.o_232 P) :: (nat_lit 186, hd.o_235 P) :: (nat_lit 187, hd.o_236 P) :: (nat_lit 189, hd.o_238 P) :: (nat_lit 190, hd.o_239 P) :: (nat_lit 192, hd.o_241 P) :: (nat_lit 193, hd.o_242 P) :: (nat_lit 194, hd.o_243 P) :: (nat_lit 196, hd.o_245 P) :: (nat_lit 197, hd.o_246 P) :: (nat_lit 199, hd.o_248 P) :: (nat_lit 200, hd.o_249 P) :: (nat_lit 201, hd.o_250 P) :: (nat_lit 203, hd.o_252 P) :: (nat_lit 204, hd.o_253 P) :: (nat_lit 206, hd.o_255 P) :: (nat_lit 207, hd.o_256 P) :: (nat_lit 208, hd.o_259 P) :: (nat_lit 210, hd.o_261 P) :: (nat_lit 211, hd.o_262 P) :: (nat_lit 213, hd.o_264 P) :: (nat_lit 214, hd.o_265 P) :: (nat_lit 215, hd.o_266 P) :: (nat_lit 217, hd.o_268 P) :: (nat_lit 218, hd.o_269 P) :: (nat_lit 220, hd.o_271 P) :: (nat_lit 221, hd.o_272 P) :: (nat_lit 222, hd.o_273 P) :: (nat_lit 224, hd.o_275 P) :: (nat_lit 225, hd.o_276 P) :: (nat_lit 227, hd.o_278 P) :: (nat_lit 228, hd.o_279 P) :: (nat_lit 229, hd.o_280 P) :: (nat_lit 231, hd.o_282 P) :: (nat_lit 232, hd.o_283 P) :: (nat_lit 234, hd.o_285 P) :: (nat_lit 235, hd.o_286 P) :: (nat_lit 236, hd.o_287 P) :: (nat_lit 238, hd.o_289 P) :: (nat_lit 239, hd.o_290 P) :: (nat_lit 241, hd.o_292 P) :: (nat_lit 242, hd.o_293 P) :: (nat_lit 243, hd.o_294 P) :: (nat_lit 245, hd.o_296 P) :: (nat_lit 246, hd.o_297 P) :: (nat_lit 248, hd.o_299 P) :: (nat_lit 249, hd.o_300 P) :: (nat_lit 250, hd.o_301 P) :: (nat_lit 252, hd.o_303 P) :: (nat_lit 253, hd.o_304 P) :: (nat_lit 255, hd.o_306 P) :: (nat_lit 256, hd.o_307 P) :: (nat_lit 257, hd.o_308 P) :: (nat_lit 260, hd.o_311 P) :: (nat_lit 261, hd.o_312 P) :: (nat_lit 262, hd.o_313 P) :: (nat_lit 264, hd.o_315 P) :: (nat_lit 265, hd.o_316 P) :: (nat_lit 267, hd.o_318 P) :: (nat_lit 268, hd.o_319 P) :: (nat_lit 269, hd.o_320 P) :: (nat_lit 271, hd.o_322 P) :: (nat_lit 272, hd.o_323 P) :: (nat_lit 274, hd.o_325 P) :: (nat_lit 275, hd.o_326 P) :: (nat_lit 276, hd.o_327 P) :: (nat_lit 278, hd.o_329 P) :: (nat_lit 279, hd.o_330 P) :: (nat_lit 281, hd.o_332 P) :: (nat_lit 282, hd.o_333 P) :: (nat_lit 283, hd.o_334 P) :: (nat_lit 285, hd.o_336 P) :: (nat_lit 286, hd.o_337 P) :: (nat_lit 288, hd.o_339 P) :: (nat_lit 289, hd.o_340 P) :: (nat_lit 290, hd.o_343 P) :: (nat_lit 292, hd.o_345 P) :: (nat_lit 293, hd.o_346 P) :: (nat_lit 295, hd.o_348 P) :: (nat_lit 296, hd.o_349 P) :: (nat_lit 297, hd.o_350 P) :: (nat_lit 299, hd.o_352 P) :: (nat_lit 300, hd.o_353 P) :: (nat_lit 302, hd.o_355 P) :: (nat_lit 303, hd.o_356 P) :: (nat_lit 304, hd.o_357 P) :: (nat_lit 306, hd.o_359 P) :: (nat_lit 307, hd.o_360 P) :: (nat_lit 309, hd.o_362 P) :: (nat_lit 310, hd.o_363 P) :: (nat_lit 311, hd.o_364 P) :: (nat_lit 313, hd.o_366 P) :: (nat_lit 314, hd.o_367 P) :: (nat_lit 316, hd.o_369 P) :: (nat_lit 317, hd.o_370 P) :: (nat_lit 318, hd.o_371 P) :: (nat_lit 320, hd.o_373 P) :: (nat_lit 321, hd.o_374 P) :: (nat_lit 323, hd.o_376 P) :: (nat_lit 324, hd.o_377 P) :: (nat_lit 325, hd.o_378 P) :: (nat_lit 327, hd.o_380 P) :: (nat_lit 328, hd.o_381 P) :: (nat_lit 330, hd.o_383 P) :: (nat_lit 331, hd.o_384 P) :: (nat_lit 332, hd.o_385 P) :: (nat_lit 335, hd.o_388 P) :: (nat_lit 336, hd.o_389 P) :: (nat_lit 337, hd.o_390 P) :: (nat_lit 339, hd.o_392 P) :: (nat_lit 340, hd.o_393 P) :: (nat_lit 342, hd.o_395 P) :: (nat_lit 343, hd.o_396 P) :: (nat_lit 344, hd.o_397 P) :: (nat_lit 346, hd.o_399 P) :: (nat_lit 347, hd.o_400 P) :: (nat_lit 349, hd.o_402 P) :: (nat_lit 350, hd.o_403 P) :: (nat_lit 351, hd.o_404 P) :: (nat_lit 353, hd.o_406 P) :: (nat_lit 354, hd.o_407 P) :: (nat_lit 356, hd.o_409 P) :: (nat_lit 357, hd.o_410 P) :: (nat_lit 358, hd.o_411 P) :: (nat_lit 360, hd.o_413 P) :: (nat_lit 361, hd.o_414 P) :: (nat_lit 363, hd.o_416 P) :: (nat_lit 364, hd.o_417 P) :: (nat_lit 365, hd.o_418 P) :: (nat_lit 367, hd.o_420 P) :: (nat_lit 368, hd.o_421 P) :: (nat_lit 370, hd.o_423 P) :: (nat_lit 371, hd.o_424 P) :: (nat_lit 372, hd.o_427 P) :: (nat_lit 374, hd.o_429 P) :: (nat_lit 375, hd.o_430 P) :: (nat_lit 377, hd.o_432 P) :: (nat_lit 378, hd.o_433 P) :: (nat_lit 379, hd.o_434 P) :: (nat_lit 381, hd.o_436 P) :: (nat_lit 382, hd.o_437 P) :: (nat_lit 384, hd.o_439 P) :: (nat_lit 385, hd.o_440 P) :: (nat_lit 386, hd.o_441 P) :: (nat_lit 388, hd.o_443 P) :: (nat_lit 389, hd.o_444 P) :: (nat_lit 391, hd.o_446 P) :: (nat_lit 392, hd.o_447 P) :: (nat_lit 393, hd.o_448 P) :: (nat_lit 395, hd.o_450 P) :: (nat_lit 396, hd.o_451 P) :: (nat_lit 398, hd.o_453 P) :: (nat_lit 399, hd.o_454 P) :: (nat_lit 400, hd.o_455 P) :: (nat_lit 402, hd.o_457 P) :: (nat_lit 403, hd.o_458 P) :: (nat_lit 405, hd.o_460 P) :: (nat_lit 406, hd.o_461 P) :: (nat_lit 407, hd.o_462 P) :: (nat_lit 409, hd.o_464 P) :: (nat_lit 410, hd.o_465 P) :: (nat_lit 412, hd.o_467 P) :: (nat_lit 413, hd.o_468 P) :: (nat_lit 414, hd.o_469 P) :: (nat_lit 416, hd.o_471 P) :: (nat_lit 417, hd.o_472 P) :: (nat_lit 419, hd.o_474 P) :: (nat_lit 420, hd.o_475 P) :: (nat_lit 421, hd.o_476 P) :: (nat_lit 424, hd.o_479 P) :: (nat_lit 425, hd.o_480 P) :: (nat_lit 426, hd.o_481 P) :: (nat_lit 429, hd.o_484 P) :: (nat_lit 430, hd.o_485 P) :: (nat_lit 431, hd.o_486 P) :: (nat_lit 434, hd.o_489 P) :: (nat_lit 435, hd.o_490 P) :: (nat_lit 436, hd.o_491 P) :: (nat_lit 439, hd.o_494 P) :: (nat_lit 440, hd.o_495 P) :: (nat_lit 441, hd.o_496 P) :: (nat_lit 443, hd.o_498 P) :: (nat_lit 444, hd.o_499 P) :: (nat_lit 446, hd.o_501 P) :: (nat_lit 447, hd.o_502 P) :: (nat_lit 448, hd.o_503 P) :: (nat_lit 450, hd.o_505 P) :: (nat_lit 451, hd.o_506 P) :: (nat_lit 453, hd.o_508 P) :: (nat_lit 454, hd.o_509 P) :: (nat_lit 455, hd.o_512 P) :: (nat_lit 457, hd.o_514 P) :: (nat_lit 458, hd.o_515 P) :: (nat_lit 460, hd.o_517 P) :: (nat_lit 461, hd.o_518 P) :: (nat_lit 462, hd.o_519 P) :: (nat_lit 464, hd.o_521 P) :: (nat_lit 465, hd.o_522 P) :: (nat_lit 467, hd.o_524 P) :: (nat_lit 468, hd.o_525 P) :: (nat_lit 469, hd.o_526 P) :: (nat_lit 471, hd.o_528 P) :: (nat_lit 472, hd.o_529 P) :: (nat_lit 474, hd.o_531 P) :: (nat_lit 475, hd.o_532 P) :: (nat_lit 476, hd.o_533 P) :: (nat_lit 478, hd.o_535 P) :: (nat_lit 479, hd.o_536 P) :: (nat_lit 481, hd.o_538 P) :: (nat_lit 482, hd.o_539 P) :: (nat_lit 483, hd.o_540 P) :: (nat_lit 486, hd.o_543 P) :: (nat_lit 487, hd.o_544 P) :: (nat_lit 488, hd.o_545 P) :: (nat_lit 491, hd.o_548 P) :: (nat_lit 492, hd.o_549 P) :: (nat_lit 493, hd.o_550 P) :: (nat_lit 495, hd.o_552 P) :: (nat_lit 496, hd.o_553 P) :: (nat_lit 498, hd.o_555 P) :: (nat_lit 499, hd.o_556 P) :: (nat_lit 500, hd.o_557 P) :: (nat_lit 503, hd.o_560 P) :: (nat_lit 504, hd.o_561 P) :: []
def hd.as39 : List Addr := [2, 3, 15, 17, 18, 20, 21, 22, 29, 31, 32, 34, 35, 36, 37, 38, 39, 49, 51, 52, 54, 55, 56, 57, 58, 59, 60, 63, 64, 73, 75, 76, 78, 79, 80, 81, 82, 83, 84, 94, 95, 97, 98, 100, 101, 102, 103, 104, 105, 106, 116, 118, 119, 121, 122, 123, 124, 125, 126, 127, 137, 139, 140, 142, 143, 144, 145, 146, 147, 148, 158, 160, 161, 163, 164, 165, 167, 168, 170, 171, 172, 174, 175, 177, 178, 179, 180, 181, 182, 183, 186, 187, 189, 190, 192, 193, 194, 196, 197, 199, 200, 201, 203, 204, 206, 207, 208, 210, 211, 213, 214, 215, 217, 218, 220, 221, 222, 224, 225, 227, 228, 229, 231, 232, 234, 235, 236, 238, 239, 241, 242, 243, 245, 246, 248, 249, 250, 252, 253, 255, 256, 257, 260, 261, 262, 264, 265, 267, 268, 269, 271, 272, 274, 275, 276, 278, 279, 281, 282, 283, 285, 286, 288, 289, 290, 292, 293, 295, 296, 297, 299, 300, 302, 303, 304, 306, 307, 309, 310, 311, 313, 314, 316, 317, 318, 320, 321, 323, 324, 325, 327, 328, 330, 331, 332, 335, 336, 337, 339, 340, 342, 343, 344, 346, 347, 349, 350, 351, 353, 354, 356, 357, 358, 360, 361, 363, 364, 365, 367, 368, 370, 371, 372, 374, 375, 377, 378, 379, 381, 382, 384, 385, 386, 388, 389, 391, 392, 393, 395, 396, 398, 399, 400, 402, 403, 405, 406, 407, 409, 410, 412, 413, 414, 416, 417, 419, 420, 421, 424, 425, 426, 429, 430, 431, 434, 435, 436, 439, 440, 441, 443, 444, 446, 447, 448, 450, 451, 453, 454, 455, 457, 458, 460, 461, 462, 464, 465, 467, 468, 469, 471, 472, 474, 475, 476, 478, 479, 481, 482, 483, 486, 487, 488, 491, 492, 493, 495, 496, 498, 499, 500, 503, 504]
noncomputable def hd.o_128 (P : Params) : Obj := { cls := Value.type "dict", data := Data.dict #[{ hash := PyData.keyHash P (Str.ofString "__name__"), key := Value.str (Str.ofString "__name__") 165, val := Value.str (Str.ofString "emacs.objects") 227 }, { hash := PyData.keyHash P (Str.ofString "__doc__"), key := Value.str (Str.ofString "__doc__") 166, val := Value.none }, { hash := PyData.keyHash P (Str.ofString "__package__"), key := Value.str (Str.ofString "__package__") 167, val := Value.none }, { hash := PyData.keyHash P (Str.ofString "__loader__"), key := Value.str (Str.ofString "__loader__") 168, val := Value.builtin "__main__.__loader__#opaque" }, { hash := PyData.keyHash P (Str.ofString "__spec__"), key := Value.str (Str.ofString "__spec__") 169, val := Value.none }, { hash := PyData.keyHash P (Str.ofString "__annotations__"), key := Value.str (Str.ofString "__annotations__") 170, val := Value.ref 6 }, { hash := PyData.keyHash P (Str.ofString "__builtins__"), key := Value.str (Str.ofString "__builtins__") 171, val := Value.ref 4 }, { hash := PyData.keyHash P (Str.ofString "__file__"), key := Value.str (Str.ofString "__file__") 173, val := Value.str (Str.ofString "/claim/cut.py") 172 }, { hash := PyData.keyHash P (Str.ofString "__cached__"), key := Value.str (Str.ofString "__cached__") 174, val := Value.none }, { hash := PyData.keyHash P (Str.ofString "_wall"), key := Value.str (Str.ofString "_wall") 193, val := Value.ref 21 }, { hash := PyData.keyHash P (Str.ofString "LispSignal"), key := Value.str (Str.ofString "LispSignal") 226, val := Value.ref 38 }, { hash := PyData.keyHash P (Str.ofString "Symbol"), key := Value.str (Str.ofString "Symbol") 259, val := Value.ref 58 }, { hash := PyData.keyHash P (Str.ofString "NIL"), key := Value.str (Str.ofString "NIL") 269, val := Value.ref 64 }, { hash := PyData.keyHash P (Str.ofString "Cons"), key := Value.str (Str.ofString "Cons") 300, val := Value.ref 82 }, { hash := PyData.keyHash P (Str.ofString "Text"), key := Value.str (Str.ofString "Text") 331, val := Value.ref 104 }] 15 }
noncomputable def hd.o_129 (P : Params) : Obj := { cls := Value.none, data := Data.fields #[Value.int 1 0, Value.int 0 0, Value.ref 20, Value.int 5 0, Value.int 0 0, Value.ref 27, Value.int 11 0, Value.int 0 0, Value.ref 47, Value.int 17 0, Value.int 0 0, Value.ref 71, Value.int 22 0, Value.int 0 0, Value.ref 92] }
noncomputable def hd.tree_151 (P : Params) : BT := BT.node (boot_o_0 P) (BT.node (boot_o_1 P) (BT.node (hd.o_128 P) (BT.node (boot_o_7 P) (BT.node (hd.o_52 P) (BT.node (hd.o_68 P) (BT.node (hd.o_102 P) BT.nil BT.nil) (BT.node (hd.o_138 P) BT.nil BT.nil)) (BT.node (hd.o_86 P) (BT.node (hd.o_120 P) BT.nil BT.nil) BT.nil)) (BT.node (hd.o_60 P) (BT.node (hd.o_76 P) (BT.node (hd.o_112 P) BT.nil BT.nil) (BT.node (hd.o_146 P) BT.nil BT.nil)) (BT.node (hd.o_94 P) (BT.node (hd.o_130 P) BT.nil BT.nil) BT.nil))) (BT.node (hd.o_43 P) (BT.node (hd.o_56 P) (BT.node (hd.o_72 P) (BT.node (hd.o_108 P) BT.nil BT.nil) (BT.node (hd.o_142 P) BT.nil BT.nil)) (BT.node (hd.o_90 P) (BT.node (hd.o_124 P) BT.nil BT.nil) BT.nil)) (BT.node (hd.o_64 P) (BT.node (hd.o_82 P) (BT.node (hd.o_116 P) BT.nil BT.nil) (BT.node (hd.o_150 P) BT.nil BT.nil)) (BT.node (hd.o_98 P) (BT.node (hd.o_134 P) BT.nil BT.nil) BT.nil)))) (BT.node (boot_o_5 P) (BT.node (boot_o_9 P) (BT.node (hd.o_54 P) (BT.node (hd.o_70 P) (BT.node (hd.o_104 P) BT.nil BT.nil) (BT.node (hd.o_140 P) BT.nil BT.nil)) (BT.node (hd.o_88 P) (BT.node (hd.o_122 P) BT.nil BT.nil) BT.nil)) (BT.node (hd.o_62 P) (BT.node (hd.o_78 P) (BT.node (hd.o_114 P) BT.nil BT.nil) (BT.node (hd.o_148 P) BT.nil BT.nil)) (BT.node (hd.o_96 P) (BT.node (hd.o_132 P) BT.nil BT.nil) BT.nil))) (BT.node (hd.o_45 P) (BT.node (hd.o_58 P) (BT.node (hd.o_74 P) (BT.node (hd.o_110 P) BT.nil BT.nil) (BT.node (hd.o_144 P) BT.nil BT.nil)) (BT.node (hd.o_92 P) (BT.node (hd.o_126 P) BT.nil BT.nil) BT.nil)) (BT.node (hd.o_66 P) (BT.node (hd.o_84 P) (BT.node (hd.o_118 P) BT.nil BT.nil) BT.nil) (BT.node (hd.o_100 P) (BT.node (hd.o_136 P) BT.nil BT.nil) BT.nil))))) (BT.node (hd.o_49 P) (BT.node (boot_o_4 P) (BT.node (boot_o_8 P) (BT.node (hd.o_53 P) (BT.node (hd.o_69 P) (BT.node (hd.o_103 P) BT.nil BT.nil) (BT.node (hd.o_139 P) BT.nil BT.nil)) (BT.node (hd.o_87 P) (BT.node (hd.o_121 P) BT.nil BT.nil) BT.nil)) (BT.node (hd.o_61 P) (BT.node (hd.o_77 P) (BT.node (hd.o_113 P) BT.nil BT.nil) (BT.node (hd.o_147 P) BT.nil BT.nil)) (BT.node (hd.o_95 P) (BT.node (hd.o_131 P) BT.nil BT.nil) BT.nil))) (BT.node (hd.o_129 P) (BT.node (hd.o_57 P) (BT.node (hd.o_73 P) (BT.node (hd.o_109 P) BT.nil BT.nil) (BT.node (hd.o_143 P) BT.nil BT.nil)) (BT.node (hd.o_91 P) (BT.node (hd.o_125 P) BT.nil BT.nil) BT.nil)) (BT.node (hd.o_65 P) (BT.node (hd.o_83 P) (BT.node (hd.o_117 P) BT.nil BT.nil) (BT.node (hd.o_151 P) BT.nil BT.nil)) (BT.node (hd.o_99 P) (BT.node (hd.o_135 P) BT.nil BT.nil) BT.nil)))) (BT.node (boot_o_6 P) (BT.node (boot_o_10 P) (BT.node (hd.o_55 P) (BT.node (hd.o_71 P) (BT.node (hd.o_107 P) BT.nil BT.nil) (BT.node (hd.o_141 P) BT.nil BT.nil)) (BT.node (hd.o_89 P) (BT.node (hd.o_123 P) BT.nil BT.nil) BT.nil)) (BT.node (hd.o_63 P) (BT.node (hd.o_81 P) (BT.node (hd.o_115 P) BT.nil BT.nil) (BT.node (hd.o_149 P) BT.nil BT.nil)) (BT.node (hd.o_97 P) (BT.node (hd.o_133 P) BT.nil BT.nil) BT.nil))) (BT.node (hd.o_46 P) (BT.node (hd.o_59 P) (BT.node (hd.o_75 P) (BT.node (hd.o_111 P) BT.nil BT.nil) (BT.node (hd.o_145 P) BT.nil BT.nil)) (BT.node (hd.o_93 P) (BT.node (hd.o_127 P) BT.nil BT.nil) BT.nil)) (BT.node (hd.o_67 P) (BT.node (hd.o_85 P) (BT.node (hd.o_119 P) BT.nil BT.nil) BT.nil) (BT.node (hd.o_101 P) (BT.node (hd.o_137 P) BT.nil BT.nil) BT.nil)))))
noncomputable def hd.o_198 (P : Params) : Obj := { cls := Value.type "dict", data := Data.dict #[{ hash := PyData.keyHash P (Str.ofString "__name__"), key := Value.str (Str.ofString "__name__") 165, val := Value.str (Str.ofString "emacs.objects") 227 }, { hash := PyData.keyHash P (Str.ofString "__doc__"), key := Value.str (Str.ofString "__doc__") 166, val := Value.none }, { hash := PyData.keyHash P (Str.ofString "__package__"), key := Value.str (Str.ofString "__package__") 167, val := Value.none }, { hash := PyData.keyHash P (Str.ofString "__loader__"), key := Value.str (Str.ofString "__loader__") 168, val := Value.builtin "__main__.__loader__#opaque" }, { hash := PyData.keyHash P (Str.ofString "__spec__"), key := Value.str (Str.ofString "__spec__") 169, val := Value.none }, { hash := PyData.keyHash P (Str.ofString "__annotations__"), key := Value.str (Str.ofString "__annotations__") 170, val := Value.ref 6 }, { hash := PyData.keyHash P (Str.ofString "__builtins__"), key := Value.str (Str.ofString "__builtins__") 171, val := Value.ref 4 }, { hash := PyData.keyHash P (Str.ofString "__file__"), key := Value.str (Str.ofString "__file__") 173, val := Value.str (Str.ofString "/claim/cut.py") 172 }, { hash := PyData.keyHash P (Str.ofString "__cached__"), key := Value.str (Str.ofString "__cached__") 174, val := Value.none }, { hash := PyData.keyHash P (Str.ofString "_wall"), key := Value.str (Str.ofString "_wall") 193, val := Value.ref 21 }, { hash := PyData.keyHash P (Str.ofString "LispSignal"), key := Value.str (Str.ofString "LispSignal") 226, val := Value.ref 38 }, { hash := PyData.keyHash P (Str.ofString "Symbol"), key := Value.str (Str.ofString "Symbol") 259, val := Value.ref 58 }, { hash := PyData.keyHash P (Str.ofString "NIL"), key := Value.str (Str.ofString "NIL") 269, val := Value.ref 64 }, { hash := PyData.keyHash P (Str.ofString "Cons"), key := Value.str (Str.ofString "Cons") 300, val := Value.ref 82 }, { hash := PyData.keyHash P (Str.ofString "Text"), key := Value.str (Str.ofString "Text") 331, val := Value.ref 104 }, { hash := PyData.keyHash P (Str.ofString "Vector"), key := Value.str (Str.ofString "Vector") 360, val := Value.ref 125 }, { hash := PyData.keyHash P (Str.ofString "ByteCode"), key := Value.str (Str.ofString "ByteCode") 389, val := Value.ref 146 }, { hash := PyData.keyHash P (Str.ofString "Opaque"), key := Value.str (Str.ofString "Opaque") 431, val := Value.ref 181 }, { hash := PyData.keyHash P (Str.ofString "list_of"), key := Value.str (Str.ofString "list_of") 441, val := Value.ref 193 }, { hash := PyData.keyHash P (Str.ofString "split_list"), key := Value.str (Str.ofString "split_list") 451, val := Value.ref 200 }, { hash := PyData.keyHash P (Str.ofString "is_whole"), key := Value.str (Str.ofString "is_whole") 458, val := Value.ref 207 }] 21 }
noncomputable def hd.o_199 (P : Params) : Obj := { cls := Value.none, data := Data.fields #[Value.int 1 0, Value.int 0 0, Value.ref 20, Value.int 5 0, Value.int 0 0, Value.ref 27, Value.int 11 0, Value.int 0 0, Value.ref 47, Value.int 17 0, Value.int 0 0, Value.ref 71, Value.int 22 0, Value.int 0 0, Value.ref 92, Value.int 27 0, Value.int 0 0, Value.ref 114, Value.int 31 0, Value.int 0 0, Value.ref 135, Value.int 35 0, Value.int 0 0, Value.ref 156, Value.int 45 0, Value.int 0 0, Value.ref 192, Value.int 50 0, Value.int 0 0, Value.ref 199, Value.int 62 0, Value.int 0 0, Value.ref 206] }
noncomputable def hd.tree_256 (P : Params) : BT := BT.node (boot_o_0 P) (BT.node (boot_o_1 P) (BT.node (hd.o_198 P) (BT.node (boot_o_7 P) (BT.node (hd.o_52 P) (BT.node (hd.o_68 P) (BT.node (hd.o_102 P) (BT.node (hd.o_172 P) BT.nil BT.nil) (BT.node (hd.o_240 P) BT.nil BT.nil)) (BT.node (hd.o_138 P) (BT.node (hd.o_208 P) BT.nil BT.nil) BT.nil)) (BT.node (hd.o_86 P) (BT.node (hd.o_120 P) (BT.node (hd.o_190 P) BT.nil BT.nil) (BT.node (hd.o_256 P) BT.nil BT.nil)) (BT.node (hd.o_156 P) (BT.node (hd.o_224 P) BT.nil BT.nil) BT.nil))) (BT.node (hd.o_60 P) (BT.node (hd.o_76 P) (BT.node (hd.o_112 P) (BT.node (hd.o_182 P) BT.nil BT.nil) (BT.node (hd.o_248 P) BT.nil BT.nil)) (BT.node (hd.o_146 P) (BT.node (hd.o_216 P) BT.nil BT.nil) BT.nil)) (BT.node (hd.o_94 P) (BT.node (hd.o_130 P) (BT.node (hd.o_200 P) BT.nil BT.nil) BT.nil) (BT.node (hd.o_164 P) (BT.node (hd.o_232 P) BT.nil BT.nil) BT.nil)))) (BT.node (hd.o_43 P) (BT.node (hd.o_56 P) (BT.node (hd.o_72 P) (BT.node (hd.o_108 P) (BT.node (hd.o_178 P) BT.nil BT.nil) (BT.node (hd.o_244 P) BT.nil BT.nil)) (BT.node (hd.o_142 P) (BT.node (hd.o_212 P) BT.nil BT.nil) BT.nil)) (BT.node (hd.o_90 P) (BT.node (hd.o_124 P) (BT.node (hd.o_194 P) BT.nil BT.nil) BT.nil) (BT.node (hd.o_160 P) (BT.node (hd.o_228 P) BT.nil BT.nil) BT.nil))) (BT.node (hd.o_64 P) (BT.node (hd.o_82 P) (BT.node (hd.o_116 P) (BT.node (hd.o_186 P) BT.nil BT.nil) (BT.node (hd.o_252 P) BT.nil BT.nil)) (BT.node (hd.o_150 P) (BT.node (hd.o_220 P) BT.nil BT.nil) BT.nil)) (BT.node (hd.o_98 P) (BT.node (hd.o_134 P) (BT.node (hd.o_204 P) BT.nil BT.nil) BT.nil) (BT.node (hd.o_168 P) (BT.node (hd.o_236 P) BT.nil BT.nil) BT.nil))))) (BT.node (boot_o_5 P) (BT.node (boot_o_9 P) (BT.node (hd.o_54 P) (BT.node (hd.o_70 P) (BT.node (hd.o_104 P) (BT.node (hd.o_174 P) BT.nil BT.nil) (BT.node (hd.o_242 P) BT.nil BT.nil)) (BT.node (hd.o_140 P) (BT.node (hd.o_210 P) BT.nil BT.nil) BT.nil)) (BT.node (hd.o_88 P) (BT.node (hd.o_122 P) (BT.node (hd.o_192 P) BT.nil BT.nil) BT.nil) (BT.node (hd.o_158 P) (BT.node (hd.o_226 P) BT.nil BT.nil) BT.nil))) (BT.node (hd.o_62 P) (BT.node (hd.o_78 P) (BT.node (hd.o_114 P) (BT.node (hd.o_184 P) BT.nil BT.nil) (BT.node (hd.o_250 P) BT.nil BT.nil)) (BT.node (hd.o_148 P) (BT.node (hd.o_218 P) BT.nil BT.nil) BT.nil)) (BT.node (hd.o_96 P) (BT.node (hd.o_132 P) (BT.node (hd.o_202 P) BT.nil BT.nil) BT.nil) (BT.node (hd.o_166 P) (BT.node (hd.o_234 P) BT.nil BT.nil) BT.nil)))) (BT.node (hd.o_45 P) (BT.node (hd.o_58 P) (BT.node (hd.o_74 P) (BT.node (hd.o_110 P) (BT.node (hd.o_180 P) BT.nil BT.nil) (BT.node (hd.o_246 P) BT.nil BT.nil)) (BT.node (hd.o_144 P) (BT.node (hd.o_214 P) BT.nil BT.nil) BT.nil)) (BT.node (hd.o_92 P) (BT.node (hd.o_126 P) (BT.node (hd.o_196 P) BT.nil BT.nil) BT.nil) (BT.node (hd.o_162 P) (BT.node (hd.o_230 P) BT.nil BT.nil) BT.nil))) (BT.node (hd.o_66 P) (BT.node (hd.o_84 P) (BT.node (hd.o_118 P) (BT.node (hd.o_188 P) BT.nil BT.nil) (BT.node (hd.o_254 P) BT.nil BT.nil)) (BT.node (hd.o_154 P) (BT.node (hd.o_222 P) BT.nil BT.nil) BT.nil)) (BT.node (hd.o_100 P) (BT.node (hd.o_136 P) (BT.node (hd.o_206 P) BT.nil BT.nil) BT.nil) (BT.node (hd.o_170 P) (BT.node (hd.o_238 P) BT.nil BT.nil) BT.nil)))))) (BT.node (hd.o_49 P) (BT.node (boot_o_4 P) (BT.node (boot_o_8 P) (BT.node (hd.o_53 P) (BT.node (hd.o_69 P) (BT.node (hd.o_103 P) (BT.node (hd.o_173 P) BT.nil BT.nil) (BT.node (hd.o_241 P) BT.nil BT.nil)) (BT.node (hd.o_139 P) (BT.node (hd.o_209 P) BT.nil BT.nil) BT.nil)) (BT.node (hd.o_87 P) (BT.node (hd.o_121 P) (BT.node (hd.o_191 P) BT.nil BT.nil) BT.nil) (BT.node (hd.o_157 P) (BT.node (hd.o_225 P) BT.nil BT.nil) BT.nil))) (BT.node (hd.o_61 P) (BT.node (hd.o_77 P) (BT.node (hd.o_113 P) (BT.node (hd.o_183 P) BT.nil BT.nil) (BT.node (hd.o_249 P) BT.nil BT.nil)) (BT.node (hd.o_147 P) (BT.node (hd.o_217 P) BT.nil BT.nil) BT.nil)) (BT.node (hd.o_95 P) (BT.node (hd.o_131 P) (BT.node (hd.o_201 P) BT.nil BT.nil) BT.nil) (BT.node (hd.o_165 P) (BT.node (hd.o_233 P) BT.nil BT.nil) BT.nil)))) (BT.node (hd.o_199 P) (BT.node (hd.o_57 P) (BT.node (hd.o_73 P) (BT.node (hd.o_109 P) (BT.node (hd.o_179 P) BT.nil BT.nil) (BT.node (hd.o_245 P) BT.nil BT.nil)) (BT.node (hd.o_143 P) (BT.node (hd.o_213 P) BT.nil BT.nil) BT.nil)) (BT.node (hd.o_91 P) (BT.node (hd.o_125 P) (BT.node (hd.o_195 P) BT.nil BT.nil) BT.nil) (BT.node (hd.o_161 P) (BT.node (hd.o_229 P) BT.nil BT.nil) BT.nil))) (BT.node (hd.o_65 P) (BT.node (hd.o_83 P) (BT.node (hd.o_117 P) (BT.node (hd.o_187 P) BT.nil BT.nil) (BT.node (hd.o_253 P) BT.nil BT.nil)) (BT.node (hd.o_151 P) (BT.node (hd.o_221 P) BT.nil BT.nil) BT.nil)) (BT.node (hd.o_99 P) (BT.node (hd.o_135 P) (BT.node (hd.o_205 P) BT.nil BT.nil) BT.nil) (BT.node (hd.o_169 P) (BT.node (hd.o_237 P) BT.nil BT.nil) BT.nil))))) (BT.node (boot_o_6 P) (BT.node (boot_o_10 P) (BT.node (hd.o_55 P) (BT.node (hd.o_71 P) (BT.node (hd.o_107 P) (BT.node (hd.o_177 P) BT.nil BT.nil) (BT.node (hd.o_243 P) BT.nil BT.nil)) (BT.node (hd.o_141 P) (BT.node (hd.o_211 P) BT.nil BT.nil) BT.nil)) (BT.node (hd.o_89 P) (BT.node (hd.o_123 P) (BT.node (hd.o_193 P) BT.nil BT.nil) BT.nil) (BT.node (hd.o_159 P) (BT.node (hd.o_227 P) BT.nil BT.nil) BT.nil))) (BT.node (hd.o_63 P) (BT.node (hd.o_81 P) (BT.node (hd.o_115 P) (BT.node (hd.o_185 P) BT.nil BT.nil) (BT.node (hd.o_251 P) BT.nil BT.nil)) (BT.node (hd.o_149 P) (BT.node (hd.o_219 P) BT.nil BT.nil) BT.nil)) (BT.node (hd.o_97 P) (BT.node (hd.o_133 P) (BT.node (hd.o_203 P) BT.nil BT.nil) BT.nil) (BT.node (hd.o_167 P) (BT.node (hd.o_235 P) BT.nil BT.nil) BT.nil)))) (BT.node (hd.o_46 P) (BT.node (hd.o_59 P) (BT.node (hd.o_75 P) (BT.node (hd.o_111 P) (BT.node (hd.o_181 P) BT.nil BT.nil) (BT.node (hd.o_247 P) BT.nil BT.nil)) (BT.node (hd.o_145 P) (BT.node (hd.o_215 P) BT.nil BT.nil) BT.nil)) (BT.node (hd.o_93 P) (BT.node (hd.o_127 P) (BT.node (hd.o_197 P) BT.nil BT.nil) BT.nil) (BT.node (hd.o_163 P) (BT.node (hd.o_231 P) BT.nil BT.nil) BT.nil))) (BT.node (hd.o_67 P) (BT.node (hd.o_85 P) (BT.node (hd.o_119 P) (BT.node (hd.o_189 P) BT.nil BT.nil) (BT.node (hd.o_255 P) BT.nil BT.nil)) (BT.node (hd.o_155 P) (BT.node (hd.o_223 P) BT.nil BT.nil) BT.nil)) (BT.node (hd.o_101 P) (BT.node (hd.o_137 P) (BT.node (hd.o_207 P) BT.nil BT.nil) BT.nil) (BT.node (hd.o_171 P) (BT.node (hd.o_239 P) BT.nil BT.nil) BT.nil))))))
noncomputable def hd.o_341 (P : Params) : Obj := { cls := Value.type "dict", data := Data.dict #[{ hash := PyData.keyHash P (Str.ofString "__name__"), key := Value.str (Str.ofString "__name__") 165, val := Value.str (Str.ofString "emacs.sequences") 590 }, { hash := PyData.keyHash P (Str.ofString "__doc__"), key := Value.str (Str.ofString "__doc__") 166, val := Value.none }, { hash := PyData.keyHash P (Str.ofString "__package__"), key := Value.str (Str.ofString "__package__") 167, val := Value.none }, { hash := PyData.keyHash P (Str.ofString "__loader__"), key := Value.str (Str.ofString "__loader__") 168, val := Value.builtin "__main__.__loader__#opaque" }, { hash := PyData.keyHash P (Str.ofString "__spec__"), key := Value.str (Str.ofString "__spec__") 169, val := Value.none }, { hash := PyData.keyHash P (Str.ofString "__annotations__"), key := Value.str (Str.ofString "__annotations__") 170, val := Value.ref 6 }, { hash := PyData.keyHash P (Str.ofString "__builtins__"), key := Value.str (Str.ofString "__builtins__") 171, val := Value.ref 4 }, { hash := PyData.keyHash P (Str.ofString "__file__"), key := Value.str (Str.ofString "__file__") 173, val := Value.str (Str.ofString "/claim/cut.py") 172 }, { hash := PyData.keyHash P (Str.ofString "__cached__"), key := Value.str (Str.ofString "__cached__") 174, val := Value.none }, { hash := PyData.keyHash P (Str.ofString "_wall"), key := Value.str (Str.ofString "_wall") 193, val := Value.ref 21 }, { hash := PyData.keyHash P (Str.ofString "LispSignal"), key := Value.str (Str.ofString "LispSignal") 226, val := Value.ref 38 }, { hash := PyData.keyHash P (Str.ofString "Symbol"), key := Value.str (Str.ofString "Symbol") 259, val := Value.ref 58 }, { hash := PyData.keyHash P (Str.ofString "NIL"), key := Value.str (Str.ofString "NIL") 269, val := Value.ref 64 }, { hash := PyData.keyHash P (Str.ofString "Cons"), key := Value.str (Str.ofString "Cons") 300, val := Value.ref 82 }, { hash := PyData.keyHash P (Str.ofString "Text"), key := Value.str (Str.ofString "Text") 331, val := Value.ref 104 }, { hash := PyData.keyHash P (Str.ofString "Vector"), key := Value.str (Str.ofString "Vector") 360, val := Value.ref 125 }, { hash := PyData.keyHash P (Str.ofString "ByteCode"), key := Value.str (Str.ofString "ByteCode") 389, val := Value.ref 146 }, { hash := PyData.keyHash P (Str.ofString "Opaque"), key := Value.str (Str.ofString "Opaque") 431, val := Value.ref 181 }, { hash := PyData.keyHash P (Str.ofString "list_of"), key := Value.str (Str.ofString "list_of") 441, val := Value.ref 193 }, { hash := PyData.keyHash P (Str.ofString "split_list"), key := Value.str (Str.ofString "split_list") 451, val := Value.ref 200 }, { hash := PyData.keyHash P (Str.ofString "is_whole"), key := Value.str (Str.ofString "is_whole") 458, val := Value.ref 207 }, { hash := PyData.keyHash P (Str.ofString "is_list"), key := Value.str (Str.ofString "is_list") 465, val := Value.ref 214 }, { hash := PyData.keyHash P (Str.ofString "LONGEST"), key := Value.str (Str.ofString "LONGEST") 469, val := Value.int 100000 468 }, { hash := PyData.keyHash P (Str.ofString "wrong"), key := Value.str (Str.ofString "wrong") 477, val := Value.ref 221 }, { hash := PyData.keyHash P (Str.ofString "need_list"), key := Value.str (Str.ofString "need_list") 484, val := Value.ref 228 }, { hash := PyData.keyHash P (Str.ofString "need_whole"), key := Value.str (Str.ofString "need_whole") 491, val := Value.ref 235 }, { hash := PyData.keyHash P (Str.ofString "things_of"), key := Value.str (Str.ofString "things_of") 500, val := Value.ref 242 }, { hash := PyData.keyHash P (Str.ofString "cdr_of"), key := Value.str (Str.ofString "cdr_of") 507, val := Value.ref 249 }, { hash := PyData.keyHash P (Str.ofString "MOST_STEPS"), key := Value.str (Str.ofString "MOST_STEPS") 511, val := Value.int 100000 510 }, { hash := PyData.keyHash P (Str.ofString "eq"), key := Value.str (Str.ofString "eq") 519, val := Value.ref 256 }, { hash := PyData.keyHash P (Str.ofString "parts_of"), key := Value.str (Str.ofString "parts_of") 525, val := Value.ref 261 }, { hash := PyData.keyHash P (Str.ofString "are_of_one_class"), key := Value.str (Str.ofString "are_of_one_class") 534, val := Value.ref 268 }, { hash := PyData.keyHash P (Str.ofString "equal_by"), key := Value.str (Str.ofString "equal_by") 548, val := Value.ref 275 }, { hash := PyData.keyHash P (Str.ofString "are_any"), key := Value.str (Str.ofString "are_any") 556, val := Value.ref 282 }, { hash := PyData.keyHash P (Str.ofString "equal"), key := Value.str (Str.ofString "equal") 564, val := Value.ref 289 }, { hash := PyData.keyHash P (Str.ofString "ring_of"), key := Value.str (Str.ofString "ring_of") 578, val := Value.ref 296 }, { hash := PyData.keyHash P (Str.ofString "rest_at"), key := Value.str (Str.ofString "rest_at") 589, val := Value.ref 303 }, { hash := PyData.keyHash P (Str.ofString "LAST_CODE"), key := Value.str (Str.ofString "LAST_CODE") 593, val := Value.int 4194303 592 }, { hash := PyData.keyHash P (Str.ofString "is_code"), key := Value.str (Str.ofString "is_code") 600, val := Value.ref 310 }, { hash := PyData.keyHash P (Str.ofString "need_code"), key := Value.str (Str.ofString "need_code") 607, val := Value.ref 317 }, { hash := PyData.keyHash P (Str.ofString "is_array"), key := Value.str (Str.ofString "is_array") 614, val := Value.ref 324 }, { hash := PyData.keyHash P (Str.ofString "things_in"), key := Value.str (Str.ofString "things_in") 621, val := Value.ref 331 }, { hash := PyData.keyHash P (Str.ofString "alike"), key := Value.str (Str.ofString "alike") 627, val := Value.ref 336 }, { hash := PyData.keyHash P (Str.ofString "need_place"), key := Value.str (Str.ofString "need_place") 636, val := Value.ref 343 }, { hash := PyData.keyHash P (Str.ofString "lisp_length"), key := Value.str (Str.ofString "lisp_length") 644, val := Value.ref 350 }, { hash := PyData.keyHash P (Str.ofString "lisp_elt"), key := Value.str (Str.ofString "lisp_elt") 653, val := Value.ref 357 }, { hash := PyData.keyHash P (Str.ofString "lisp_aref"), key := Value.str (Str.ofString "lisp_aref") 662, val := Value.ref 364 }, { hash := PyData.keyHash P (Str.ofString "lisp_aset"), key := Value.str (Str.ofString "lisp_aset") 671, val := Value.ref 371 }] 48 }
noncomputable def hd.o_342 (P : Params) : Obj := { cls := Value.none, data := Data.fields #[Value.int 1 0, Value.int 0 0, Value.ref 20, Value.int 5 0, Value.int 0 0, Value.ref 27, Value.int 11 0, Value.int 0 0, Value.ref 47, Value.int 17 0, Value.int 0 0, Value.ref 71, Value.int 22 0, Value.int 0 0, Value.ref 92, Value.int 27 0, Value.int 0 0, Value.ref 114, Value.int 31 0, Value.int 0 0, Value.ref 135, Value.int 35 0, Value.int 0 0, Value.ref 156, Value.int 45 0, Value.int 0 0, Value.ref 192, Value.int 50 0, Value.int 0 0, Value.ref 199, Value.int 62 0, Value.int 0 0, Value.ref 206, Value.int 64 0, Value.int 0 0, Value.ref 213, Value.int 68 0, Value.int 0 0, Value.ref 220, Value.int 70 0, Value.int 0 0, Value.ref 227, Value.int 74 0, Value.int 0 0, Value.ref 234, Value.int 78 0, Value.int 0 0, Value.ref 241, Value.int 86 0, Value.int 0 0, Value.ref 248, Value.int 90 0, Value.int 0 0, Value.ref 255, Value.int 94 0, Value.int 0 0, Value.ref 260, Value.int 104 0, Value.int 0 0, Value.ref 267, Value.int 109 0, Value.int 0 0, Value.ref 274, Value.int 126 0, Value.int 0 0, Value.ref 281, Value.int 128 0, Value.int 0 0, Value.ref 288, Value.int 131 0, Value.int 0 0, Value.ref 295, Value.int 144 0, Value.int 0 0, Value.ref 302, Value.int 156 0, Value.int 0 0, Value.ref 309, Value.int 158 0, Value.int 0 0, Value.ref 316, Value.int 162 0, Value.int 0 0, Value.ref 323, Value.int 164 0, Value.int 0 0, Value.ref 330, Value.int 172 0, Value.int 0 0, Value.ref 335, Value.int 176 0, Value.int 0 0, Value.ref 342, Value.int 180 0, Value.int 0 0, Value.ref 349, Value.int 182 0, Value.int 0 0, Value.ref 356, Value.int 191 0, Value.int 0 0, Value.ref 363, Value.int 196 0, Value.int 0 0, Value.ref 370] }
noncomputable def hd.tree_424 (P : Params) : BT := BT.node (boot_o_0 P) (BT.node (boot_o_1 P) (BT.node (hd.o_341 P) (BT.node (boot_o_7 P) (BT.node (hd.o_52 P) (BT.node (hd.o_68 P) (BT.node (hd.o_102 P) (BT.node (hd.o_172 P) (BT.node (hd.o_306 P) BT.nil BT.nil) BT.nil) (BT.node (hd.o_240 P) (BT.node (hd.o_372 P) BT.nil BT.nil) BT.nil)) (BT.node (hd.o_138 P) (BT.node (hd.o_208 P) (BT.node (hd.o_338 P) BT.nil BT.nil) BT.nil) (BT.node (hd.o_274 P) (BT.node (hd.o_404 P) BT.nil BT.nil) BT.nil))) (BT.node (hd.o_86 P) (BT.node (hd.o_120 P) (BT.node (hd.o_190 P) (BT.node (hd.o_322 P) BT.nil BT.nil) BT.nil) (BT.node (hd.o_256 P) (BT.node (hd.o_388 P) BT.nil BT.nil) BT.nil)) (BT.node (hd.o_156 P) (BT.node (hd.o_224 P) (BT.node (hd.o_356 P) BT.nil BT.nil) BT.nil) (BT.node (hd.o_290 P) (BT.node (hd.o_420 P) BT.nil BT.nil) BT.nil)))) (BT.node (hd.o_60 P) (BT.node (hd.o_76 P) (BT.node (hd.o_112 P) (BT.node (hd.o_182 P) (BT.node (hd.o_314 P) BT.nil BT.nil) BT.nil) (BT.node (hd.o_248 P) (BT.node (hd.o_380 P) BT.nil BT.nil) BT.nil)) (BT.node (hd.o_146 P) (BT.node (hd.o_216 P) (BT.node (hd.o_348 P) BT.nil BT.nil) BT.nil) (BT.node (hd.o_282 P) (BT.node (hd.o_412 P) BT.nil BT.nil) BT.nil))) (BT.node (hd.o_94 P) (BT.node (hd.o_130 P) (BT.node (hd.o_200 P) (BT.node (hd.o_330 P) BT.nil BT.nil) BT.nil) (BT.node (hd.o_266 P) (BT.node (hd.o_396 P) BT.nil BT.nil) BT.nil)) (BT.node (hd.o_164 P) (BT.node (hd.o_232 P) (BT.node (hd.o_364 P) BT.nil BT.nil) BT.nil) (BT.node (hd.o_298 P) BT.nil BT.nil))))) (BT.node (hd.o_43 P) (BT.node (hd.o_56 P) (BT.node (hd.o_72 P) (BT.node (hd.o_108 P) (BT.node (hd.o_178 P) (BT.node (hd.o_310 P) BT.nil BT.nil) BT.nil) (BT.node (hd.o_244 P) (BT.node (hd.o_376 P) BT.nil BT.nil) BT.nil)) (BT.node (hd.o_142 P) (BT.node (hd.o_212 P) (BT.node (hd.o_344 P) BT.nil BT.nil) BT.nil) (BT.node (hd.o_278 P) (BT.node (hd.o_408 P) BT.nil BT.nil) BT.nil))) (BT.node (hd.o_90 P) (BT.node (hd.o_124 P) (BT.node (hd.o_194 P) (BT.node (hd.o_326 P) BT.nil BT.nil) BT.nil) (BT.node (hd.o_262 P) (BT.node (hd.o_392 P) BT.nil BT.nil) BT.nil)) (BT.node (hd.o_160 P) (BT.node (hd.o_228 P) (BT.node (hd.o_360 P) BT.nil BT.nil) BT.nil) (BT.node (hd.o_294 P) (BT.node (hd.o_424 P) BT.nil BT.nil) BT.nil)))) (BT.node (hd.o_64 P) (BT.node (hd.o_82 P) (BT.node (hd.o_116 P) (BT.node (hd.o_186 P) (BT.node (hd.o_318 P) BT.nil BT.nil) BT.nil) (BT.node (hd.o_252 P) (BT.node (hd.o_384 P) BT.nil BT.nil) BT.nil)) (BT.node (hd.o_150 P) (BT.node (hd.o_220 P) (BT.node (hd.o_352 P) BT.nil BT.nil) BT.nil) (BT.node (hd.o_286 P) (BT.node (hd.o_416 P) BT.nil BT.nil) BT.nil))) (BT.node (hd.o_98 P) (BT.node (hd.o_134 P) (BT.node (hd.o_204 P) (BT.node (hd.o_334 P) BT.nil BT.nil) BT.nil) (BT.node (hd.o_270 P) (BT.node (hd.o_400 P) BT.nil BT.nil) BT.nil)) (BT.node (hd.o_168 P) (BT.node (hd.o_236 P) (BT.node (hd.o_368 P) BT.nil BT.nil) BT.nil) (BT.node (hd.o_302 P) BT.nil BT.nil)))))) (BT.node (boot_o_5 P) (BT.node (boot_o_9 P) (BT.node (hd.o_54 P) (BT.node (hd.o_70 P) (BT.node (hd.o_104 P) (BT.node (hd.o_174 P) (BT.node (hd.o_308 P) BT.nil BT.nil) BT.nil) (BT.node (hd.o_242 P) (BT.node (hd.o_374 P) BT.nil BT.nil) BT.nil)) (BT.node (hd.o_140 P) (BT.node (hd.o_210 P) (BT.node (hd.o_340 P) BT.nil BT.nil) BT.nil) (BT.node (hd.o_276 P) (BT.node (hd.o_406 P) BT.nil BT.nil) BT.nil))) (BT.node (hd.o_88 P) (BT.node (hd.o_122 P) (BT.node (hd.o_192 P) (BT.node (hd.o_324 P) BT.nil BT.nil) BT.nil) (BT.node (hd.o_260 P) (BT.node (hd.o_390 P) BT.nil BT.nil) BT.nil)) (BT.node (hd.o_158 P) (BT.node (hd.o_226 P) (BT.node (hd.o_358 P) BT.nil BT.nil) BT.nil) (BT.node (hd.o_292 P) (BT.node (hd.o_422 P) BT.nil BT.nil) BT.nil)))) (BT.node (hd.o_62 P) (BT.node (hd.o_78 P) (BT.node (hd.o_114 P) (BT.node (hd.o_184 P) (BT.node (hd.o_316 P) BT.nil BT.nil) BT.nil) (BT.node (hd.o_250 P) (BT.node (hd.o_382 P) BT.nil BT.nil) BT.nil)) (BT.node (hd.o_148 P) (BT.node (hd.o_218 P) (BT.node (hd.o_350 P) BT.nil BT.nil) BT.nil) (BT.node (hd.o_284 P) (BT.node (hd.o_414 P) BT.nil BT.nil) BT.nil))) (BT.node (hd.o_96 P) (BT.node (hd.o_132 P) (BT.node (hd.o_202 P) (BT.node (hd.o_332 P) BT.nil BT.nil) BT.nil) (BT.node (hd.o_268 P) (BT.node (hd.o_398 P) BT.nil BT.nil) BT.nil)) (BT.node (hd.o_166 P) (BT.node (hd.o_234 P) (BT.node (hd.o_366 P) BT.nil BT.nil) BT.nil) (BT.node (hd.o_300 P) BT.nil BT.nil))))) (BT.node (hd.o_45 P) (BT.node (hd.o_58 P) (BT.node (hd.o_74 P) (BT.node (hd.o_110 P) (BT.node (hd.o_180 P) (BT.node (hd.o_312 P) BT.nil BT.nil) BT.nil) (BT.node (hd.o_246 P) (BT.node (hd.o_378 P) BT.nil BT.nil) BT.nil)) (BT.node (hd.o_144 P) (BT.node (hd.o_214 P) (BT.node (hd.o_346 P) BT.nil BT.nil) BT.nil) (BT.node (hd.o_280 P) (BT.node (hd.o_410 P) BT.nil BT.nil) BT.nil))) (BT.node (hd.o_92 P) (BT.node (hd.o_126 P) (BT.node (hd.o_196 P) (BT.node (hd.o_328 P) BT.nil BT.nil) BT.nil) (BT.node (hd.o_264 P) (BT.node (hd.o_394 P) BT.nil BT.nil) BT.nil)) (BT.node (hd.o_162 P) (BT.node (hd.o_230 P) (BT.node (hd.o_362 P) BT.nil BT.nil) BT.nil) (BT.node (hd.o_296 P) BT.nil BT.nil)))) (BT.node (hd.o_66 P) (BT.node (hd.o_84 P) (BT.node (hd.o_118 P) (BT.node (hd.o_188 P) (BT.node (hd.o_320 P) BT.nil BT.nil) BT.nil) (BT.node (hd.o_254 P) (BT.node (hd.o_386 P) BT.nil BT.nil) BT.nil)) (BT.node (hd.o_154 P) (BT.node (hd.o_222 P) (BT.node (hd.o_354 P) BT.nil BT.nil) BT.nil) (BT.node (hd.o_288 P) (BT.node (hd.o_418 P) BT.nil BT.nil) BT.nil))) (BT.node (hd.o_100 P) (BT.node (hd.o_136 P) (BT.node (hd.o_206 P) (BT.node (hd.o_336 P) BT.nil BT.nil) BT.nil) (BT.node (hd.o_272 P) (BT.node (hd.o_402 P) BT.nil BT.nil) BT.nil)) (BT.node (hd.o_170 P) (BT.node (hd.o_238 P) (BT.node (hd.o_370 P) BT.nil BT.nil) BT.nil) (BT.node (hd.o_304 P) BT.nil BT.nil))))))) (BT.node (hd.o_49 P) (BT.node (boot_o_4 P) (BT.node (boot_o_8 P) (BT.node (hd.o_53 P) (BT.node (hd.o_69 P) (BT.node (hd.o_103 P) (BT.node (hd.o_173 P) (BT.node (hd.o_307 P) BT.nil BT.nil) BT.nil) (BT.node (hd.o_241 P) (BT.node (hd.o_373 P) BT.nil BT.nil) BT.nil)) (BT.node (hd.o_139 P) (BT.node (hd.o_209 P) (BT.node (hd.o_339 P) BT.nil BT.nil) BT.nil) (BT.node (hd.o_275 P) (BT.node (hd.o_405 P) BT.nil BT.nil) BT.nil))) (BT.node (hd.o_87 P) (BT.node (hd.o_121 P) (BT.node (hd.o_191 P) (BT.node (hd.o_323 P) BT.nil BT.nil) BT.nil) (BT.node (hd.o_259 P) (BT.node (hd.o_389 P) BT.nil BT.nil) BT.nil)) (BT.node (hd.o_157 P) (BT.node (hd.o_225 P) (BT.node (hd.o_357 P) BT.nil BT.nil) BT.nil) (BT.node (hd.o_291 P) (BT.node (hd.o_421 P) BT.nil BT.nil) BT.nil)))) (BT.node (hd.o_61 P) (BT.node (hd.o_77 P) (BT.node (hd.o_113 P) (BT.node (hd.o_183 P) (BT.node (hd.o_315 P) BT.nil BT.nil) BT.nil) (BT.node (hd.o_249 P) (BT.node (hd.o_381 P) BT.nil BT.nil) BT.nil)) (BT.node (hd.o_147 P) (BT.node (hd.o_217 P) (BT.node (hd.o_349 P) BT.nil BT.nil) BT.nil) (BT.node (hd.o_283 P) (BT.node (hd.o_413 P) BT.nil BT.nil) BT.nil))) (BT.node (hd.o_95 P) (BT.node (hd.o_131 P) (BT.node (hd.o_201 P) (BT.node (hd.o_331 P) BT.nil BT.nil) BT.nil) (BT.node (hd.o_267 P) (BT.node (hd.o_397 P) BT.nil BT.nil) BT.nil)) (BT.node (hd.o_165 P) (BT.node (hd.o_233 P) (BT.node (hd.o_365 P) BT.nil BT.nil) BT.nil) (BT.node (hd.o_299 P) BT.nil BT.nil))))) (BT.node (hd.o_342 P) (BT.node (hd.o_57 P) (BT.node (hd.o_73 P) (BT.node (hd.o_109 P) (BT.node (hd.o_179 P) (BT.node (hd.o_311 P) BT.nil BT.nil) BT.nil) (BT.node (hd.o_245 P) (BT.node (hd.o_377 P) BT.nil BT.nil) BT.nil)) (BT.node (hd.o_143 P) (BT.node (hd.o_213 P) (BT.node (hd.o_345 P) BT.nil BT.nil) BT.nil) (BT.node (hd.o_279 P) (BT.node (hd.o_409 P) BT.nil BT.nil) BT.nil))) (BT.node (hd.o_91 P) (BT.node (hd.o_125 P) (BT.node (hd.o_195 P) (BT.node (hd.o_327 P) BT.nil BT.nil) BT.nil) (BT.node (hd.o_263 P) (BT.node (hd.o_393 P) BT.nil BT.nil) BT.nil)) (BT.node (hd.o_161 P) (BT.node (hd.o_229 P) (BT.node (hd.o_361 P) BT.nil BT.nil) BT.nil) (BT.node (hd.o_295 P) BT.nil BT.nil)))) (BT.node (hd.o_65 P) (BT.node (hd.o_83 P) (BT.node (hd.o_117 P) (BT.node (hd.o_187 P) (BT.node (hd.o_319 P) BT.nil BT.nil) BT.nil) (BT.node (hd.o_253 P) (BT.node (hd.o_385 P) BT.nil BT.nil) BT.nil)) (BT.node (hd.o_151 P) (BT.node (hd.o_221 P) (BT.node (hd.o_353 P) BT.nil BT.nil) BT.nil) (BT.node (hd.o_287 P) (BT.node (hd.o_417 P) BT.nil BT.nil) BT.nil))) (BT.node (hd.o_99 P) (BT.node (hd.o_135 P) (BT.node (hd.o_205 P) (BT.node (hd.o_335 P) BT.nil BT.nil) BT.nil) (BT.node (hd.o_271 P) (BT.node (hd.o_401 P) BT.nil BT.nil) BT.nil)) (BT.node (hd.o_169 P) (BT.node (hd.o_237 P) (BT.node (hd.o_369 P) BT.nil BT.nil) BT.nil) (BT.node (hd.o_303 P) BT.nil BT.nil)))))) (BT.node (boot_o_6 P) (BT.node (boot_o_10 P) (BT.node (hd.o_55 P) (BT.node (hd.o_71 P) (BT.node (hd.o_107 P) (BT.node (hd.o_177 P) (BT.node (hd.o_309 P) BT.nil BT.nil) BT.nil) (BT.node (hd.o_243 P) (BT.node (hd.o_375 P) BT.nil BT.nil) BT.nil)) (BT.node (hd.o_141 P) (BT.node (hd.o_211 P) (BT.node (hd.o_343 P) BT.nil BT.nil) BT.nil) (BT.node (hd.o_277 P) (BT.node (hd.o_407 P) BT.nil BT.nil) BT.nil))) (BT.node (hd.o_89 P) (BT.node (hd.o_123 P) (BT.node (hd.o_193 P) (BT.node (hd.o_325 P) BT.nil BT.nil) BT.nil) (BT.node (hd.o_261 P) (BT.node (hd.o_391 P) BT.nil BT.nil) BT.nil)) (BT.node (hd.o_159 P) (BT.node (hd.o_227 P) (BT.node (hd.o_359 P) BT.nil BT.nil) BT.nil) (BT.node (hd.o_293 P) (BT.node (hd.o_423 P) BT.nil BT.nil) BT.nil)))) (BT.node (hd.o_63 P) (BT.node (hd.o_81 P) (BT.node (hd.o_115 P) (BT.node (hd.o_185 P) (BT.node (hd.o_317 P) BT.nil BT.nil) BT.nil) (BT.node (hd.o_251 P) (BT.node (hd.o_383 P) BT.nil BT.nil) BT.nil)) (BT.node (hd.o_149 P) (BT.node (hd.o_219 P) (BT.node (hd.o_351 P) BT.nil BT.nil) BT.nil) (BT.node (hd.o_285 P) (BT.node (hd.o_415 P) BT.nil BT.nil) BT.nil))) (BT.node (hd.o_97 P) (BT.node (hd.o_133 P) (BT.node (hd.o_203 P) (BT.node (hd.o_333 P) BT.nil BT.nil) BT.nil) (BT.node (hd.o_269 P) (BT.node (hd.o_399 P) BT.nil BT.nil) BT.nil)) (BT.node (hd.o_167 P) (BT.node (hd.o_235 P) (BT.node (hd.o_367 P) BT.nil BT.nil) BT.nil) (BT.node (hd.o_301 P) BT.nil BT.nil))))) (BT.node (hd.o_46 P) (BT.node (hd.o_59 P) (BT.node (hd.o_75 P) (BT.node (hd.o_111 P) (BT.node (hd.o_181 P) (BT.node (hd.o_313 P) BT.nil BT.nil) BT.nil) (BT.node (hd.o_247 P) (BT.node (hd.o_379 P) BT.nil BT.nil) BT.nil)) (BT.node (hd.o_145 P) (BT.node (hd.o_215 P) (BT.node (hd.o_347 P) BT.nil BT.nil) BT.nil) (BT.node (hd.o_281 P) (BT.node (hd.o_411 P) BT.nil BT.nil) BT.nil))) (BT.node (hd.o_93 P) (BT.node (hd.o_127 P) (BT.node (hd.o_197 P) (BT.node (hd.o_329 P) BT.nil BT.nil) BT.nil) (BT.node (hd.o_265 P) (BT.node (hd.o_395 P) BT.nil BT.nil) BT.nil)) (BT.node (hd.o_163 P) (BT.node (hd.o_231 P) (BT.node (hd.o_363 P) BT.nil BT.nil) BT.nil) (BT.node (hd.o_297 P) BT.nil BT.nil)))) (BT.node (hd.o_67 P) (BT.node (hd.o_85 P) (BT.node (hd.o_119 P) (BT.node (hd.o_189 P) (BT.node (hd.o_321 P) BT.nil BT.nil) BT.nil) (BT.node (hd.o_255 P) (BT.node (hd.o_387 P) BT.nil BT.nil) BT.nil)) (BT.node (hd.o_155 P) (BT.node (hd.o_223 P) (BT.node (hd.o_355 P) BT.nil BT.nil) BT.nil) (BT.node (hd.o_289 P) (BT.node (hd.o_419 P) BT.nil BT.nil) BT.nil))) (BT.node (hd.o_101 P) (BT.node (hd.o_137 P) (BT.node (hd.o_207 P) (BT.node (hd.o_337 P) BT.nil BT.nil) BT.nil) (BT.node (hd.o_273 P) (BT.node (hd.o_403 P) BT.nil BT.nil) BT.nil)) (BT.node (hd.o_171 P) (BT.node (hd.o_239 P) (BT.node (hd.o_371 P) BT.nil BT.nil) BT.nil) (BT.node (hd.o_305 P) BT.nil BT.nil)))))))
noncomputable def hd.view_39 : Program := { PySem.Challenge.pw_np0060_01 with main := { PySem.Challenge.pw_np0060_01.main with body := [hd.stA 0, hd.stA 2, hd.stA 4, hd.stA 5, hd.stA 6, hd.stA 7, hd.stA 8, hd.stA 9, hd.stA 10, hd.stA 12, hd.stA 13, hd.stA 14, hd.stA 16, hd.stA 17, hd.stA 18, hd.stA 19, hd.stA 20, hd.stA 21, hd.stA 23, hd.stA 24, hd.stA 25, hd.stA 26, hd.stA 27, hd.stA 28, hd.stA 29, hd.stA 31, hd.stA 32, hd.stA 34, hd.stA 35, hd.stA 36, hd.stA 37, hd.stA 38, hd.stA 39, hd.stA 40, hd.stA 41, hd.stA 42, hd.stA 43, hd.stA 44, hd.stA 45, hd.stA 46, hd.stA 47, hd.stA 48, hd.stA 49, hd.stA 50, hd.stA 51, hd.stA 52, hd.stA 53, hd.stA 54, hd.stA 56, hd.stA 57, hd.stA 58, hd.stA 59, hd.stA 60, hd.stA 61, hd.stA 62, hd.stA 63, hd.stA 64, hd.stA 65, hd.stA 66] } }
noncomputable def hd.env_41 : Env := { scope := PySem.Challenge.pw_np0060_01.main.scope, locals := mainNs, globals := mainNs, cells := [], code := Value.ref 13, frame := some 14 }
noncomputable abbrev hd.loose : List Str := [Str.ofString "NIL", Str.ofString "list_of"]
noncomputable abbrev hd.hook : Hook := kHook hd.heap_39 hd.as39 (fun _ => by kernel_rfl)
theorem hd.pre (w : World) (os : OsState) : topGo treeTable PySem.Challenge.pw_np0060_01 w 11 (some (Value.ref 6)) 12 { heap := boot_heap w.params, drawn := boot_drawn, toks := boot_toks, os := os } (topStub PySem.Challenge.pw_np0060_01) =
    some ({ heap := hd.heap_46 w.params, toks := 187, os := os }, { cur := denote treeTable (Code.body (behindTheImports PySem.Challenge.pw_np0060_01) hd.env_41), code := Code.body (behindTheImports PySem.Challenge.pw_np0060_01) hd.env_41, pos := { line := 0, col := 0, endLine := 0, endCol := 0 }, stack := [topFrame { line := 0, col := 0, endLine := 0, endCol := 0 }] }) := by kernel_rfl
theorem hd.block (w : World) (os : OsState) : segRun treeTable PySem.Challenge.pw_np0060_01 w 11 (some (Value.ref 6)) 1 1 { heap := hd.heap_46 w.params, toks := 187, os := os } (blockOf (behindTheImports PySem.Challenge.pw_np0060_01) hd.env_41 (Code.body (behindTheImports PySem.Challenge.pw_np0060_01) hd.env_41) { line := 0, col := 0, endLine := 0, endCol := 0 } [topFrame { line := 0, col := 0, endLine := 0, endCol := 0 }]) =
    some (Flow.next, ({ tree := hd.tree_47 w.params, n := 15, life := { }, gens := { toList := [] }, drawn := { }, toks := 187, os := os } : SharedT).abs, Code.body (behindTheImports PySem.Challenge.pw_np0060_01) hd.env_41, { line := 0, col := 0, endLine := 0, endCol := 0 }) := by kernel_rfl
/-- the statements of the top behind its imports, its code -/
noncomputable abbrev hd.sts : List Stmt := behindTheImports PySem.Challenge.pw_np0060_01
noncomputable abbrev hd.cod : Code := Code.body (behindTheImports PySem.Challenge.pw_np0060_01) hd.env_41
theorem hd.piece1 (w : World) (os : OsState) : segRunT treeTable PySem.Challenge.pw_np0060_01 w 11 (some (Value.ref 6)) 1 1100 { tree := hd.tree_47 w.params, n := 15, life := { }, gens := { toList := [] }, drawn := { }, toks := 187, os := os } (piecesOf (hd.sts.take 8) hd.env_41 hd.cod { line := 0, col := 0, endLine := 0, endCol := 0 } [topFrame { line := 0, col := 0, endLine := 0, endCol := 0 }]) =
    some (Flow.next, { tree := hd.tree_151 w.params, n := 109, life := { }, gens := { toList := [] }, drawn := { }, toks := 332, os := os }, hd.cod, { line := 22, col := 0, endLine := 26, endCol := 26 }) := by kernel_rfl
theorem hd.piece2 (w : World) (os : OsState) : segRunT treeTable PySem.Challenge.pw_np0060_01 w 11 (some (Value.ref 6)) 1 840 { tree := hd.tree_151 w.params, n := 109, life := { }, gens := { toList := [] }, drawn := { }, toks := 332, os := os } (piecesOf ((hd.sts.drop 8).take 6) hd.env_41 hd.cod { line := 22, col := 0, endLine := 26, endCol := 26 } [topFrame { line := 0, col := 0, endLine := 0, endCol := 0 }]) =
    some (Flow.next, { tree := hd.tree_256 w.params, n := 208, life := { }, gens := { toList := [] }, drawn := { }, toks := 459, os := os }, hd.cod, { line := 62, col := 0, endLine := 63, endCol := 67 }) := by kernel_rfl
theorem hd.piece3 (w : World) (os : OsState) : segRunT treeTable PySem.Challenge.pw_np0060_01 w 11 (some (Value.ref 6)) 1 800 { tree := hd.tree_256 w.params, n := 208, life := { }, gens := { toList := [] }, drawn := { }, toks := 459, os := os } (piecesOf (((hd.sts.drop 8).drop 6).take 31) hd.env_41 hd.cod { line := 62, col := 0, endLine := 63, endCol := 67 } [topFrame { line := 0, col := 0, endLine := 0, endCol := 0 }]) =
    some (Flow.next, { tree := hd.tree_424 w.params, n := 372, life := { }, gens := { toList := [] }, drawn := { }, toks := 672, os := os }, hd.cod, { line := 196, col := 0, endLine := 204, endCol := 18 }) := by kernel_rfl
theorem hd.piece4 (w : World) (os : OsState) : segRunT treeTable PySem.Challenge.pw_np0060_01 w 11 (some (Value.ref 6)) 1 660 { tree := hd.tree_424 w.params, n := 372, life := { }, gens := { toList := [] }, drawn := { }, toks := 672, os := os } (piecesOf (((hd.sts.drop 8).drop 6).drop 31) hd.env_41 hd.cod { line := 196, col := 0, endLine := 204, endCol := 18 } [topFrame { line := 0, col := 0, endLine := 0, endCol := 0 }]) =
    some (Flow.next, { tree := hd.tree_561 w.params, n := 505, life := { }, gens := { toList := [] }, drawn := { }, toks := 852, os := os }, hd.cod, { line := 378, col := 0, endLine := 389, endCol := 57 }) := by kernel_rfl
theorem hd.last (w : World) (os : OsState) : topRun treeTable PySem.Challenge.pw_np0060_01 w 11 (some (Value.ref 6)) 2 ({ tree := hd.tree_561 w.params, n := 505, life := { }, gens := { toList := [] }, drawn := { }, toks := 852, os := os } : SharedT).abs { cur := doneF Flow.next, code := Code.body (behindTheImports PySem.Challenge.pw_np0060_01) hd.env_41, pos := { line := 378, col := 0, endLine := 389, endCol := 57 }, stack := [topFrame { line := 0, col := 0, endLine := 0, endCol := 0 }] } =
    some { heap := hd.heap_562 w.params, toks := 852, os := os } := by kernel_rfl
theorem hd.run (w : World) (os : OsState) : topRun treeTable PySem.Challenge.pw_np0060_01 w 11 (some (Value.ref 6)) (12 + (1 + (1100 + (840 + (800 + (660 + 2)))))) { heap := boot_heap w.params, drawn := boot_drawn, toks := boot_toks, os := os } (topStub PySem.Challenge.pw_np0060_01) = some { heap := hd.heap_562 w.params, toks := 852, os := os } := by
  have k4 := piece_app (rest := []) (segRun_of (hd.piece4 w os)) (hd.last w os)
  rw [List.append_nil] at k4
  have k3 := piece_app (segRun_of (hd.piece3 w os)) k4
  rw [List.take_append_drop] at k3
  have k2 := piece_app (segRun_of (hd.piece2 w os)) k3
  rw [List.take_append_drop] at k2
  have k1 := piece_app (segRun_of (hd.piece1 w os)) k2
  rw [List.take_append_drop] at k1
  exact go_top (hd.pre w os) (piece_block (hd.block w os) k1)
theorem hd.size (w : World) : ((boot_heap w.params).isNs mainGlobals && (Array.mk [] : Array GenState).size == 0, (boot_heap w.params).objs.size, (boot_heap w.params).nsMap mainGlobals (Str.ofString "__annotations__")) = (true, 11, some (Value.ref 6)) := by kernel_rfl
theorem hd.pair {α β : Type} {a a' : α} {b b' : β} (h : a = a') (k : b = b') : (a, b) = (a', b') := by rw [h, k]
theorem hd.look1 (w : World) : staticsOk (importedModules PySem.Challenge.pw_np0060_01.main.body) (boot_heap w.params) (hd.heap_562 w.params) = true := by kernel_rfl
theorem hd.look2 (w : World) : namesBound PySem.Challenge.pw_np0060_01 (hd.heap_562 w.params) = true := by kernel_rfl
theorem hd.look3 (w : World) (os : OsState) : gensDone ⟨hd.heap_562 w.params, Array.mk [], {}, 852, os⟩ = true := by kernel_rfl
theorem hd.look4 (w : World) : laidKept (boot_heap w.params) (hd.heap_562 w.params) = true := by kernel_rfl
theorem hd.look5 (w : World) (os : OsState) : openSeen hd.view_39 hd.loose (importedModules PySem.Challenge.pw_np0060_01.main.body) (fun s => xlAt hd.view_39 [] s && recOk (RowW.records (OpenRow.toRowW PySem.Challenge.rw_np0060_01.row)) s) true ⟨hd.heap_562 w.params, Array.mk [], {}, 852, os⟩ = openGood hd.view_39 hd.loose := by
  unfold openSeen openGood
  refine hd.pair ?_ (hd.pair ?_ (hd.pair ?_ (hd.pair ?_ (hd.pair ?_ (hd.pair ?_ (hd.pair ?_ (hd.pair ?_ ?_)))))))
  all_goals kernel_rfl
theorem hd.look6 (w : World) (os : OsState) : Hook.obs hd.hook ⟨hd.heap_562 w.params, Array.mk [], {}, 852, os⟩ = Hook.val hd.hook w := by kernel_rfl
theorem hd.looks (w : World) : (fun os => ((staticsOk (importedModules PySem.Challenge.pw_np0060_01.main.body) (boot_heap w.params) (hd.heap_562 w.params) && namesBound PySem.Challenge.pw_np0060_01 (hd.heap_562 w.params) && gensDone ⟨hd.heap_562 w.params, Array.mk [], {}, 852, os⟩ && laidKept (boot_heap w.params) (hd.heap_562 w.params)),
    openSeen hd.view_39 hd.loose (importedModules PySem.Challenge.pw_np0060_01.main.body) (fun s => xlAt hd.view_39 [] s && recOk (RowW.records (OpenRow.toRowW PySem.Challenge.rw_np0060_01.row)) s) true ⟨hd.heap_562 w.params, Array.mk [], {}, 852, os⟩, Hook.obs hd.hook ⟨hd.heap_562 w.params, Array.mk [], {}, 852, os⟩)) = fun _ => (true, openGood hd.view_39 hd.loose, Hook.val hd.hook w) :=
  funext fun os => hd.pair (Bool.and_eq_true_iff.mpr ⟨Bool.and_eq_true_iff.mpr ⟨Bool.and_eq_true_iff.mpr ⟨hd.look1 w, hd.look2 w⟩, hd.look3 w os⟩, hd.look4 w⟩) (hd.pair (hd.look5 w os) (hd.look6 w os))
theorem hd.left : LeftO PySem.Challenge.pw_np0060_01 hd.view_39 hd.loose (fun s => xlAt hd.view_39 [] s && recOk (RowW.records (OpenRow.toRowW PySem.Challenge.rw_np0060_01.row)) s) (Hook.obs hd.hook) (Hook.val hd.hook) 7000 :=
  LeftO.of_pieces (H₀ := boot_heap) (H₁ := hd.heap_562) (gs₀ := Array.mk []) (gs₁ := Array.mk []) (d₀ := boot_drawn) (d₁ := {}) (k₀ := boot_toks) (k₁ := 852) (m₀ := 11) (ann := some (Value.ref 6)) (M := 12 + (1 + (1100 + (840 + (800 + (660 + 2))))))
    (boot_open (by kernel_rfl) (by decide) (fun _ => by kernel_rfl)) hd.size hd.run (by decide) hd.looks
theorem hd.said : OpenLaw.wellSaid PySem.Challenge.rw_np0060_01 = true := by
  unfold OpenLaw.wellSaid OpenRow.wellSaid OpenRow.partSaid looksOpen
  repeat' (with_reducible refine Bool.and_eq_true_iff.mpr ⟨?_, ?_⟩)
  all_goals decide +kernel
theorem hd.okX : (chainsOk hd.view_39 && opensWell PySem.Challenge.rw_np0060_01.row.prog && (frees (OpenRow.toRowW PySem.Challenge.rw_np0060_01.row) && PySem.Challenge.rw_np0060_01.row.within.isEmpty)) = true := by decide +kernel
theorem hd.bareX : PySem.Challenge.rw_np0060_01.row.prog.bare := ⟨rfl, rfl, rfl, rfl, rfl, by decide +kernel⟩
theorem hd.wit : (OpenRow.toRowW PySem.Challenge.rw_np0060_01.row).promised := by w_witness2
example : (fun (_ : OpenLaw) (_ : Params → Frag) => True) PySem.Challenge.rw_np0060_01 hd.heap_39 := by k_fill; trivial
noncomputable abbrev PR : Program := PySem.Challenge.rw_np0060_01.row.prog
noncomputable abbrev LO : List Str := looseW hd.view_39 [Str.ofString "NIL", Str.ofString "list_of"]
noncomputable abbrev VW : Program := hd.view_39
abbrev Led := List (Addr × Obj)

/-- a call that ends with a value: the ledger ahead, the ledger behind -/
def Ret (w : World) (D U : Nat) (f : Value) (args : List Value) (news : Led) (post : Value → Led → Prop) : Prop :=
  ∀ (mean : ExcName → Option Value) (mg mb : Str → Option Value) (dp un : Nat) (gd : Option (List Code)) (cn : Str) (cs : Scope) (a : Addr) (ccd : Value) (cl : List (Str × Addr)) (outer : List Env) (A₀ : Around) (base h₀ : Heap) (L : Addr) (m : Str → Option Value) (s : Shared) (Q E : Value → Shared → Prop),
    Below A₀ base outer h₀ → Fr h₀ L s.heap m → (hd.heap_39 w.params).In base → News h₀ L s.heap news → Top VW LO mean mg mb base → cs.kind = .function → dp + D < recursionLimit → un + U < cLine →
    (∀ r h' tk' news', Fr h₀ L h' m → News h₀ L h' news' → post r news' → Q r { s with heap := h', toks := tk' }) →
    wpAny (model PR w) (ktrTop dp un gd cn cs L a ccd cl outer) (call f args) Q E s

/-- the same, the state written by its parts -/
theorem Ret.intro {w : World} {D U : Nat} {f : Value} {args : List Value} {news : Led} {post : Value → Led → Prop}
    (k : ∀ (mean : ExcName → Option Value) (mg mb : Str → Option Value) (dp un : Nat) (gd : Option (List Code)) (cn : Str) (cs : Scope) (a : Addr) (ccd : Value) (cl : List (Str × Addr)) (outer : List Env) (A₀ : Around) (base h₀ : Heap) (L : Addr) (m : Str → Option Value) (hS : Heap) (gS : Array GenState) (dS : Drawn) (tS : Nat) (oS : OsState) (Q E : Value → Shared → Prop),
      Below A₀ base outer h₀ → Fr h₀ L hS m → (hd.heap_39 w.params).In base → News h₀ L hS news → Top VW LO mean mg mb base → cs.kind = .function → dp + D < recursionLimit → un + U < cLine →
      (∀ r h' tk' news', Fr h₀ L h' m → News h₀ L h' news' → post r news' → Q r ⟨h', gS, dS, tk', oS⟩) →
      wpAny (model PR w) (ktrTop dp un gd cn cs L a ccd cl outer) (call f args) Q E ⟨hS, gS, dS, tS, oS⟩) : Ret w D U f args news post :=
  fun mean mg mb dp un gd cn cs a ccd cl outer A₀ base h₀ L m s => k mean mg mb dp un gd cn cs a ccd cl outer A₀ base h₀ L m s.heap s.gens s.drawn s.toks s.os
/-- a call used; K says what the callee tells, its ways opened -/
theorem Ret.use {w : World} {D U : Nat} {f : Value} {args : List Value} {news : Led} {post : Value → Led → Prop} {K : (Value → Led → Prop) → Prop} (R : Ret w D U f args news post) (hK : ∀ P, K P → ∀ r n, post r n → P r n)
    {mean : ExcName → Option Value} {mg mb : Str → Option Value} {dp un : Nat} {gd : Option (List Code)} {cn : Str} {cs : Scope} {a : Addr} {ccd : Value} {cl : List (Str × Addr)} {outer : List Env} {A₀ : Around} {base h₀ : Heap} {L : Addr} {m : Str → Option Value} {hS : Heap} {gS : Array GenState} {dS : Drawn} {tS : Nat} {oS : OsState} {Q E : Value → Shared → Prop}
    (B : Below A₀ base outer h₀) (F : Fr h₀ L hS m) (XB : (hd.heap_39 w.params).In base) (N : News h₀ L hS news) (TB : Top VW LO mean mg mb base) (hk : cs.kind = .function) (hdX : dp + D < recursionLimit) (hu : un + U < cLine)
    (k : K fun r n => ∀ h' tk', Fr h₀ L h' m → News h₀ L h' n → Q r ⟨h', gS, dS, tk', oS⟩) :
    wpAny (model PR w) (ktrTop dp un gd cn cs L a ccd cl outer) (call f args) Q E ⟨hS, gS, dS, tS, oS⟩ :=
  R _ _ _ _ _ _ _ _ _ _ _ _ _ _ _ _ _ _ _ _ B F XB N TB hk hdX hu fun r h' tk' n F N p => hK _ k r n p h' tk' F N
/-- a value told, the ledger as said -/
abbrev ValP (V : Value) (l : Led) (r : Value) (n : Led) : Prop := r = V ∧ n = l
def KVal (V : Value) (l : Led) (P : Value → Led → Prop) : Prop := P V l
theorem K_val {V : Value} {l : Led} : ∀ P, KVal V l P → ∀ r n, ValP V l r n → P r n := by rintro P h _ _ ⟨rfl, rfl⟩; exact h
theorem K_any {post : Value → Led → Prop} : ∀ P : Value → Led → Prop, (∀ r n, post r n → P r n) → ∀ r n, post r n → P r n := fun _ h => h
/-- a def's names bound, in order -/
def bndOf (p : Arguments) (vs : List Value) : List (Str × Value) := (p.args.map (·.arg)).zip vs
section
variable {prog : Program} {w : World} {A A₀ : Around} {hS h₀ base : Heap} {gS : Array GenState} {dS : Drawn} {tS : Nat} {oS : OsState} {K : Frag} {L : Addr} {m mg mb : Str → Option Value} {news : Led} {p : Program} {loose : List Str} {mean : ExcName → Option Value} {env : Env} {outer : List Env}
  {R : Result → Shared → Prop} {name qual : Str} {params : Arguments} {body : List Stmt} {scope : Scope} {dV kV doc pm cdv ct oc : Value} {an od : Option Addr} {osl : Array (Option Value)} {f : Addr} {args : Args} {binds : List (Str × Value)}
theorem enter_def {body' : List Stmt} (hb : body = body') (B : Below A₀ base outer h₀) (F : Fr h₀ L hS m) (X₀ : K.In h₀) (N : News h₀ L hS news) (T : Top p loose mean mg mb h₀) (hA : A.frames = some (env :: outer)) (hf : env.frame = some L) (hke : env.scope.kind = .function)
    (ho : K.lookup f = some ⟨oc, od, .func (fnOf name qual params body scope dV kV doc pm an cdv ct), osl⟩) (hcd : codeIn K cdv qual = true) (hroom : A.depth < recursionLimit)
    (hbind : BindsTo ⟨hS, gS, dS, tS, oS⟩ (fnOf name qual params body scope dV kV doc pm an cdv ct) args binds) (hloc : ∀ y ∈ binds, scope.names.lookup y.1 = some .local)
    (h : ∀ g L' h₁ tk, Fr h₀ L g m → Fr g L' h₁ (fun y => binds.reverse.lookup y) → News g L' h₁ news → Below A base (env :: outer) g → K.In g → Top p loose mean mg mb g →
      wpAny (model prog w) (A.deeper (envOf qual scope L' f cdv)) (execs body' (envOf qual scope L' f cdv))
        (fun fl s' => LeaveK h₀ L m g R (match fl with | .ret v => v | _ => .none) s')
        (fun e s' => wpAny (model prog w) (A.deeper (envOf qual scope L' f cdv)) (leaving (envOf qual scope L' f cdv) e) (fun _ s'' => R (.error e) s'') (fun e' s'' => R (.error e') s'') s')
        ⟨h₁, gS, dS, tk, oS⟩)
    (hco : scope.isCoroutine = false) (hgen : scope.isGenerator = false) (hk : scope.kind = .function)
    (hcell : ∀ x ∈ scope.names, x.2 ≠ .cell) : codeAny (model prog w) A (.call (.ref f) args) R ⟨hS, gS, dS, tS, oS⟩ :=
  by subst hb; exact code_def B F X₀ N T hA hf hke ho hcd hroom hbind hloc (fun g L' h₁ FG F' N' B' X' T' => h g L' h₁ _ FG F' N' B' X' T') hco hgen hk hcell
theorem bnd_of {s : Shared} {vs : List Value} (h : bindArgs (fnOf name qual params body scope dV kV doc pm an cdv ct) ⟨vs, []⟩ = pure (bndOf params vs)) : BindsTo s (fnOf name qual params body scope dV kV doc pm an cdv ct) ⟨vs, []⟩ (bndOf params vs) := .of_eq h
theorem make_cls {C : Addr} {pos : List Value} {fI : Addr} {Q E : Value → Shared → Prop} (F : Fr h₀ L hS m) (X₀ : K.In h₀) (N : News h₀ L hS news) (hm : makesIn K C = true) (hi : findIn K (.ref C) "__init__" = some (some (.ref fI))) (hf : isFn K (.ref fI) = true)
    (h : ∀ x dx h', Fr h₀ L h' m → News h₀ L h' ((x, instObj C dx) :: (dx, dictOf [] 0) :: news) → (∀ p ∈ news, p.1 < dx) → @LT.lt Nat _ dx x →
      codeAny (model prog w) (A.under (.builtin "type.__call__" ⟨.ref C :: pos, []⟩)) (.call (.ref fI) ⟨.ref x :: pos, []⟩) (InitBack x fun r s' => match r with | .ok (.ret v) => Q v s' | .ok _ => False | .error e => E e s') ⟨h', gS, dS, tS, oS⟩) :
    wpAny (model prog w) A (call (.ref C) pos) Q E ⟨hS, gS, dS, tS, oS⟩ := call_cls F X₀ N hm hi hf h
end

abbrev kh (w : World) (n : String) : Int := PyData.keyHash w.params (Str.ofString n)
abbrev consD (w : World) (t1 t2 : Tok) (v1 v2 : Value) : Obj := dictOf [⟨kh w "car", .str (Str.ofString "car") t1, v1⟩, ⟨kh w "cdr", .str (Str.ofString "cdr") t2, v2⟩] 2
abbrev vecD (w : World) (t1 : Tok) (v1 : Value) : Obj := dictOf [⟨kh w "things", .str (Str.ofString "things") t1, v1⟩] 1
abbrev txtD (w : World) (t1 t2 : Tok) (v1 v2 : Value) : Obj := dictOf [⟨kh w "codes", .str (Str.ofString "codes") t1, v1⟩, ⟨kh w "spans", .str (Str.ofString "spans") t2, v2⟩] 2

/-- all of the old ledger lies below the address -/
abbrev Over (news : Led) (a : Addr) : Prop := ∀ p ∈ news, p.1 < a

theorem ne_of_over {news : Led} {d : Addr} (h : ∀ p ∈ news, p.1 < d) : ∀ p ∈ news, p.1 ≠ d := fun p hp => Nat.ne_of_lt (h p hp)
theorem room_0 {dp A : Nat} (h : dp + A < recursionLimit) : dp < recursionLimit := Nat.lt_of_le_of_lt (Nat.le_add_right _ _) h
theorem room_1 {dp A D : Nat} (h : dp + A < recursionLimit) (hA : D + 1 ≤ A) : dp + 1 + D < recursionLimit := Nat.lt_of_le_of_lt (by omega) h
theorem units_1 {un U D : Nat} (h : un + U < cLine) (hA : D + 3 ≤ U) : un + 3 + D < cLine := Nat.lt_of_le_of_lt (by omega) h
theorem units_c {un U : Nat} (h : un + U < cLine) (hA : 67 ≤ U) : un + 3 + 64 < cLine := Nat.lt_of_le_of_lt (by omega) h
theorem ne_of_all {l : Led} {D a : Addr} {o : Obj} (h : ∀ p ∈ l, p.1 < D) (hm : (a, o) ∈ l) : @Ne Nat D a := Nat.ne_of_gt (h _ hm)
theorem ne_fst {a b : Addr} (h : @Ne Nat a b) : a ≠ b := h
example : True := by
  k_with "my_norm" => (((conv => lhs; whnf); try exact rfl))
  trivial
example : True := by
  k_with "my_intro" => ((
  (first | refine Ret.intro ?_ | refine Rai.intro ?_ | refine RetT.intro ?_ | skip); intro mean mg mb dp un gd cn cs a ccd cl outer A₀ base h₀ L m hS gS dS tS oS Q E B F XB N TB hk hok hu hret;
  have X := Frag.In.keeps XB (Below.stays B); have T := Top.keeps TB (Below.stays B)))
  trivial
example : True := by
  k_with "my_enter" => ((k_extra "my_intro"; refine wpAny_call ?_; k_dflt (k_extra "my_enter2")))
  trivial
example : True := by
  k_with "my_ret" => ((refine hret _ _ _ _ (by k_asm) (by k_asm) ?_))
  trivial
example : True := by
  k_with "my_use" => ((
  (case k1 => k_asm); (case k2 => k_asm); (case k3 => k_asm); (case k4 => k_asm); (case k5 => k_asm); (case kK => first | exact rfl | assumption); (case kd => ktr_room); (case ku => ktr_units)))
  trivial
example : True := by
  k_with "my_enter2" => ((refine' enter_def ?kb ?k1 ?k2 ?k3 ?k4 ?k5 ?kA ?kF ?kK ?k6 ?k7 ?k8 ?k9 ?kB ?_ ?c2 ?c3 ?c4 ?c5; (case kA => exact rfl); (case kF => exact rfl); (case kK => assumption); (case k1 => k_asm); (case k2 => k_asm); (case k3 => k_asm); (case k4 => k_asm); (case k5 => k_asm); (case k6 => k_is); (case k7 => k_is); (case k8 => ktr_room); (case k9 => first | exact bnd_of rfl | exact BindsTo.of_eq rfl | exact binds_K (by k_in) rfl (by k_is) rfl rfl rfl); (case c5 => decide); (case kB => exact locs rfl); (case c2 => exact rfl); (case c3 => exact rfl); (case c4 => exact rfl); (case kb => k_extra "my_norm"); k_whole; intro g' L' h' tS' FG' F' N' B' X' T'; (try dsimp only); (try k_fold)))
  trivial
example : True := by
  k_with "my_cls" => (k_dflt (refine' make_cls ?k1 ?k2 ?k3 ?k4 ?k5 ?k6 ?_; (case k1 => k_asm); (case k2 => k_asm); (case k3 => k_asm); (case k4 => k_is); (case k5 => k_is); (case k6 => k_is); k_whole; intro x' d' h' F' N' l1 l2; k_lt2 l2; k_extra "my_enter2"))
  trivial
local macro_rules | `(tactic| k_all) => `(tactic| k_extra "@k_all")
example : True := by
  k_with "@k_all" => (first | exact ne_of_over (by assumption) | assumption)
  trivial
local macro_rules | `(tactic| k_mem) => `(tactic| k_extra "@k_mem")
example : True := by
  k_with "@k_mem" => (first | with_reducible assumption | exact List.mem_cons_self | (refine List.mem_cons_of_mem _ ?_; k_mem) | (refine List.mem_append_right _ ?_; k_mem) | (refine List.mem_append_left _ ?_; k_mem))
  trivial
local macro_rules | `(tactic| ktr_room) => `(tactic| k_extra "@ktr_room")
example : True := by
  k_with "@ktr_room" => (first | exact room_1 (by with_reducible assumption) (by decide) | exact room_0 (by with_reducible assumption))
  trivial
local macro_rules | `(tactic| ktr_units) => `(tactic| k_extra "@ktr_units")
example : True := by
  k_with "@ktr_units" => (exact units_1 (by with_reducible assumption) (by decide))
  trivial
local macro_rules | `(tactic| k_ne) => `(tactic| k_extra "@k_ne")
example : True := by
  k_with "@k_ne" => (first | with_reducible assumption | exact Ne.symm (by with_reducible assumption) | (refine' ne_of_all ?h ?m; (case h => with_reducible assumption); (case m => k_mem)) | (refine' Ne.symm (ne_of_all ?h ?m); (case h => with_reducible assumption); (case m => k_mem)))
  trivial
example : True := by
  k_with "my_int" => (first | with_reducible assumption | decide | exact Int.le_trans (by with_reducible assumption) (by decide) | exact Int.lt_of_le_of_lt (by with_reducible assumption) (by decide) | omega)
  trivial
section
theorem nmL {M : Model} {A : Around} {E : Value → Shared → Prop} {h₀ : Heap} {L a : Addr} {m : Str → Option Value} {cn : Str} {cs : Scope} {ccd : Value} {cl : List (Str × Addr)} {hS : Heap} {gS : Array GenState} {dS : Drawn} {oS : OsState} (F : Fr h₀ L hS m) (h1 : cs.kind = .function) {tS : Nat}
    {x : Str} {pos : Pos} {v : Value} {Q : Value → Shared → Prop} (h2 : cs.names.lookup x = some .local) (h3 : (x == ("__debug__" : Str)) = false) (hv : m x = some v) (h : Q v ⟨hS, gS, dS, tS, oS⟩) : wpAny M A (eval (.Name x pos) (envX cn cs L a ccd cl)) Q E ⟨hS, gS, dS, tS, oS⟩ :=
  nameX_L (s := ⟨hS, gS, dS, tS, oS⟩) F hv h h1 h2 h3
theorem nmG {w : World} {M : Model} {A : Around} {E : Value → Shared → Prop} {h₀ : Heap} {L a : Addr} {m mg mb : Str → Option Value} {mean : ExcName → Option Value} {cn : Str} {cs : Scope} {ccd : Value} {cl : List (Str × Addr)} {hS : Heap} {gS : Array GenState} {dS : Drawn} {oS : OsState} (F : Fr h₀ L hS m) (X : (hd.heap_39 w.params).In h₀) (T : Top VW LO mean mg mb h₀) (h1 : cs.kind = .function) {tS : Nat}
    {x : Str} {pos : Pos} {v : Value} {Q : Value → Shared → Prop} (h2 : cs.names.lookup x = some .globalImplicit) (h3 : (x == ("__debug__" : Str)) = false) (e : nsIn (hd.heap_39 w.params) mainGlobals x = some (some v)) (h : Q v ⟨hS, gS, dS, tS, oS⟩) : wpAny M A (eval (.Name x pos) (envX cn cs L a ccd cl)) Q E ⟨hS, gS, dS, tS, oS⟩ :=
  nameX_K (s := ⟨hS, gS, dS, tS, oS⟩) F X (topRead_of T) e h h1 h2 h3
theorem nmB {w : World} {M : Model} {A : Around} {E : Value → Shared → Prop} {h₀ : Heap} {L a : Addr} {m mg mb : Str → Option Value} {mean : ExcName → Option Value} {cn : Str} {cs : Scope} {ccd : Value} {cl : List (Str × Addr)} {hS : Heap} {gS : Array GenState} {dS : Drawn} {oS : OsState} (F : Fr h₀ L hS m) (X : (hd.heap_39 w.params).In h₀) (T : Top VW LO mean mg mb h₀) (h1 : cs.kind = .function) {tS : Nat}
    {x : Str} {pos : Pos} {v : Value} {Q : Value → Shared → Prop} (h2 : cs.names.lookup x = some .globalImplicit) (h3 : (x == ("__debug__" : Str)) = false) (e : nsIn (hd.heap_39 w.params) mainGlobals x = some none ∧ bootBuiltins x = some v ∧ x ≠ "__name__") (h : Q v ⟨hS, gS, dS, tS, oS⟩) : wpAny M A (eval (.Name x pos) (envX cn cs L a ccd cl)) Q E ⟨hS, gS, dS, tS, oS⟩ :=
  nameX_B (s := ⟨hS, gS, dS, tS, oS⟩) F X (topRead_of T) e.1 e.2.1 e.2.2 h h1 h2 h3
end
section
variable {prog : Program} {w : World} {M : Model} {A : Around} {E : Value → Shared → Prop} {env : Env} {h₀ : Heap} {L a : Addr} {m : Str → Option Value} {cn : Str} {cs : Scope} {ccd : Value} {cl : List (Str × Addr)} {hS : Heap} {gS : Array GenState} {dS : Drawn} {oS : OsState} {tS : Nat} {news : Led}
theorem cInt {k : Nat} {pos : Pos} {i : Int} {Q : Value → Shared → Prop} (h : Q (.int i tS) ⟨hS, gS, dS, tS + 1, oS⟩) : wpAny M A (eval (.Constant (.int i) k pos) env) Q E ⟨hS, gS, dS, tS, oS⟩ := wpAny_Constant_int h
theorem cStr {k : Nat} {pos : Pos} {x : Str} {Q : Value → Shared → Prop} (h : Q (.str x tS) ⟨hS, gS, dS, tS + 1, oS⟩) : wpAny M A (eval (.Constant (.str x) k pos) env) Q E ⟨hS, gS, dS, tS, oS⟩ := Calls.Constant_str h
theorem addS {x y : Int} {t u : Tok} {Q : Value → Shared → Prop} (h : Q (.int (x + y) tS) ⟨hS, gS, dS, tS + 1, oS⟩) : wpAny (model prog w) A (binaryOp .Add (.int x t) (.int y u)) Q E ⟨hS, gS, dS, tS, oS⟩ := add_int h
theorem subS {x y : Int} {t u : Tok} {Q : Value → Shared → Prop} (h : Q (.int (x - y) tS) ⟨hS, gS, dS, tS + 1, oS⟩) : wpAny (model prog w) A (binaryOp .Sub (.int x t) (.int y u)) Q E ⟨hS, gS, dS, tS, oS⟩ := sub_int h
theorem stL (F : Fr h₀ L hS m) (N : News h₀ L hS news) (hk : cs.kind = .function) {x : Str} {v : Value} {Q : Unit → Shared → Prop} (hx : (envX cn cs L a ccd cl).kindOf x = some .local)
    (h : ∀ h' tk', Fr h₀ L h' (fun y => if y = x then some v else m y) → News h₀ L h' news → Q () ⟨h', gS, dS, tk', oS⟩) : wpAny M A (storeName (envX cn cs L a ccd cl) x v) Q E ⟨hS, gS, dS, tS, oS⟩ :=
  storeX_L F N (fun h' F' N' => h h' _ F' N') hk hx
end
theorem G_LispSignal (P : Params) : nsIn (hd.heap_39 P) mainGlobals (Str.ofString "LispSignal") = some (some (Value.ref 38)) := by kernel_rfl
theorem G_NIL (P : Params) : nsIn (hd.heap_39 P) mainGlobals (Str.ofString "NIL") = some (some (Value.ref 64)) := by kernel_rfl
theorem G_Cons (P : Params) : nsIn (hd.heap_39 P) mainGlobals (Str.ofString "Cons") = some (some (Value.ref 82)) := by kernel_rfl
theorem G_Text (P : Params) : nsIn (hd.heap_39 P) mainGlobals (Str.ofString "Text") = some (some (Value.ref 104)) := by kernel_rfl
theorem G_Vector (P : Params) : nsIn (hd.heap_39 P) mainGlobals (Str.ofString "Vector") = some (some (Value.ref 125)) := by kernel_rfl
theorem G_ByteCode (P : Params) : nsIn (hd.heap_39 P) mainGlobals (Str.ofString "ByteCode") = some (some (Value.ref 146)) := by kernel_rfl
theorem G_Opaque (P : Params) : nsIn (hd.heap_39 P) mainGlobals (Str.ofString "Opaque") = some (some (Value.ref 181)) := by kernel_rfl
theorem G_list_of (P : Params) : nsIn (hd.heap_39 P) mainGlobals (Str.ofString "list_of") = some (some (Value.ref 193)) := by kernel_rfl
theorem G_split_list (P : Params) : nsIn (hd.heap_39 P) mainGlobals (Str.ofString "split_list") = some (some (Value.ref 200)) := by kernel_rfl
theorem G_is_whole (P : Params) : nsIn (hd.heap_39 P) mainGlobals (Str.ofString "is_whole") = some (some (Value.ref 207)) := by kernel_rfl
theorem G_is_list (P : Params) : nsIn (hd.heap_39 P) mainGlobals (Str.ofString "is_list") = some (some (Value.ref 214)) := by kernel_rfl
theorem G_LONGEST (P : Params) : nsIn (hd.heap_39 P) mainGlobals (Str.ofString "LONGEST") = some (some (Value.int 100000 468)) := by kernel_rfl
theorem G_wrong (P : Params) : nsIn (hd.heap_39 P) mainGlobals (Str.ofString "wrong") = some (some (Value.ref 221)) := by kernel_rfl
theorem G_need_list (P : Params) : nsIn (hd.heap_39 P) mainGlobals (Str.ofString "need_list") = some (some (Value.ref 228)) := by kernel_rfl
theorem G_need_whole (P : Params) : nsIn (hd.heap_39 P) mainGlobals (Str.ofString "need_whole") = some (some (Value.ref 235)) := by kernel_rfl
theorem G_things_of (P : Params) : nsIn (hd.heap_39 P) mainGlobals (Str.ofString "things_of") = some (some (Value.ref 242)) := by kernel_rfl
theorem G_cdr_of (P : Params) : nsIn (hd.heap_39 P) mainGlobals (Str.ofString "cdr_of") = some (some (Value.ref 249)) := by kernel_rfl
theorem G_MOST_STEPS (P : Params) : nsIn (hd.heap_39 P) mainGlobals (Str.ofString "MOST_STEPS") = some (some (Value.int 100000 510)) := by kernel_rfl
theorem G_eq (P : Params) : nsIn (hd.heap_39 P) mainGlobals (Str.ofString "eq") = some (some (Value.ref 256)) := by kernel_rfl
theorem G_parts_of (P : Params) : nsIn (hd.heap_39 P) mainGlobals (Str.ofString "parts_of") = some (some (Value.ref 261)) := by kernel_rfl
theorem G_are_of_one_class (P : Params) : nsIn (hd.heap_39 P) mainGlobals (Str.ofString "are_of_one_class") = some (some (Value.ref 268)) := by kernel_rfl
theorem G_equal_by (P : Params) : nsIn (hd.heap_39 P) mainGlobals (Str.ofString "equal_by") = some (some (Value.ref 275)) := by kernel_rfl
theorem G_are_any (P : Params) : nsIn (hd.heap_39 P) mainGlobals (Str.ofString "are_any") = some (some (Value.ref 282)) := by kernel_rfl
theorem G_equal (P : Params) : nsIn (hd.heap_39 P) mainGlobals (Str.ofString "equal") = some (some (Value.ref 289)) := by kernel_rfl
theorem G_ring_of (P : Params) : nsIn (hd.heap_39 P) mainGlobals (Str.ofString "ring_of") = some (some (Value.ref 296)) := by kernel_rfl
theorem G_rest_at (P : Params) : nsIn (hd.heap_39 P) mainGlobals (Str.ofString "rest_at") = some (some (Value.ref 303)) := by kernel_rfl
theorem G_LAST_CODE (P : Params) : nsIn (hd.heap_39 P) mainGlobals (Str.ofString "LAST_CODE") = some (some (Value.int 4194303 592)) := by kernel_rfl
theorem G_is_code (P : Params) : nsIn (hd.heap_39 P) mainGlobals (Str.ofString "is_code") = some (some (Value.ref 310)) := by kernel_rfl
theorem G_need_code (P : Params) : nsIn (hd.heap_39 P) mainGlobals (Str.ofString "need_code") = some (some (Value.ref 317)) := by kernel_rfl
theorem G_is_array (P : Params) : nsIn (hd.heap_39 P) mainGlobals (Str.ofString "is_array") = some (some (Value.ref 324)) := by kernel_rfl
theorem G_things_in (P : Params) : nsIn (hd.heap_39 P) mainGlobals (Str.ofString "things_in") = some (some (Value.ref 331)) := by kernel_rfl
theorem G_alike (P : Params) : nsIn (hd.heap_39 P) mainGlobals (Str.ofString "alike") = some (some (Value.ref 336)) := by kernel_rfl
theorem G_need_place (P : Params) : nsIn (hd.heap_39 P) mainGlobals (Str.ofString "need_place") = some (some (Value.ref 343)) := by kernel_rfl
theorem G_lisp_length (P : Params) : nsIn (hd.heap_39 P) mainGlobals (Str.ofString "lisp_length") = some (some (Value.ref 350)) := by kernel_rfl
theorem G_lisp_elt (P : Params) : nsIn (hd.heap_39 P) mainGlobals (Str.ofString "lisp_elt") = some (some (Value.ref 357)) := by kernel_rfl
theorem G_lisp_aref (P : Params) : nsIn (hd.heap_39 P) mainGlobals (Str.ofString "lisp_aref") = some (some (Value.ref 364)) := by kernel_rfl
theorem G_lisp_aset (P : Params) : nsIn (hd.heap_39 P) mainGlobals (Str.ofString "lisp_aset") = some (some (Value.ref 371)) := by kernel_rfl
theorem G_lisp_fillarray (P : Params) : nsIn (hd.heap_39 P) mainGlobals (Str.ofString "lisp_fillarray") = some (some (Value.ref 378)) := by kernel_rfl
theorem G_lisp_make_vector (P : Params) : nsIn (hd.heap_39 P) mainGlobals (Str.ofString "lisp_make_vector") = some (some (Value.ref 385)) := by kernel_rfl
theorem G_lisp_append (P : Params) : nsIn (hd.heap_39 P) mainGlobals (Str.ofString "lisp_append") = some (some (Value.ref 392)) := by kernel_rfl
theorem G_lisp_vconcat (P : Params) : nsIn (hd.heap_39 P) mainGlobals (Str.ofString "lisp_vconcat") = some (some (Value.ref 399)) := by kernel_rfl
theorem G_lisp_copy_sequence (P : Params) : nsIn (hd.heap_39 P) mainGlobals (Str.ofString "lisp_copy_sequence") = some (some (Value.ref 406)) := by kernel_rfl
theorem G_lisp_reverse (P : Params) : nsIn (hd.heap_39 P) mainGlobals (Str.ofString "lisp_reverse") = some (some (Value.ref 413)) := by kernel_rfl
theorem G_lisp_nreverse (P : Params) : nsIn (hd.heap_39 P) mainGlobals (Str.ofString "lisp_nreverse") = some (some (Value.ref 420)) := by kernel_rfl
theorem G_lisp_delete (P : Params) : nsIn (hd.heap_39 P) mainGlobals (Str.ofString "lisp_delete") = some (some (Value.ref 425)) := by kernel_rfl
theorem G_lisp_remove (P : Params) : nsIn (hd.heap_39 P) mainGlobals (Str.ofString "lisp_remove") = some (some (Value.ref 430)) := by kernel_rfl
theorem G_lisp_number_sequence (P : Params) : nsIn (hd.heap_39 P) mainGlobals (Str.ofString "lisp_number_sequence") = some (some (Value.ref 435)) := by kernel_rfl
theorem G_law_deck (P : Params) : nsIn (hd.heap_39 P) mainGlobals (Str.ofString "_law_deck") = some (some (Value.ref 440)) := by kernel_rfl
theorem G_law_draw (P : Params) : nsIn (hd.heap_39 P) mainGlobals (Str.ofString "_law_draw") = some (some (Value.ref 447)) := by kernel_rfl
theorem G_law_row (P : Params) : nsIn (hd.heap_39 P) mainGlobals (Str.ofString "_law_row") = some (some (Value.ref 454)) := by kernel_rfl
theorem G_law_new (P : Params) : nsIn (hd.heap_39 P) mainGlobals (Str.ofString "_law_new") = some (some (Value.ref 461)) := by kernel_rfl
theorem G_law_told (P : Params) : nsIn (hd.heap_39 P) mainGlobals (Str.ofString "_law_told") = some (some (Value.ref 468)) := by kernel_rfl
theorem G_law_is_fresh (P : Params) : nsIn (hd.heap_39 P) mainGlobals (Str.ofString "_law_is_fresh") = some (some (Value.ref 475)) := by kernel_rfl
theorem G_law_places (P : Params) : nsIn (hd.heap_39 P) mainGlobals (Str.ofString "_law_places") = some (some (Value.ref 482)) := by kernel_rfl
theorem G_law_changed (P : Params) : nsIn (hd.heap_39 P) mainGlobals (Str.ofString "_law_changed") = some (some (Value.ref 487)) := by kernel_rfl
theorem G_law_joined (P : Params) : nsIn (hd.heap_39 P) mainGlobals (Str.ofString "_law_joined") = some (some (Value.ref 492)) := by kernel_rfl
theorem G_law_counted (P : Params) : nsIn (hd.heap_39 P) mainGlobals (Str.ofString "_law_counted") = some (some (Value.ref 499)) := by kernel_rfl
theorem G_law (P : Params) : nsIn (hd.heap_39 P) mainGlobals (Str.ofString "law") = some (some (Value.ref 504)) := by kernel_rfl
theorem B_isinstance (P : Params) : nsIn (hd.heap_39 P) mainGlobals (Str.ofString "isinstance") = some none ∧ bootBuiltins (Str.ofString "isinstance") = some (.builtin "isinstance") ∧ Str.ofString "isinstance" ≠ "__name__" := ⟨by kernel_rfl, by boot_fast, by decide⟩
theorem B_len (P : Params) : nsIn (hd.heap_39 P) mainGlobals (Str.ofString "len") = some none ∧ bootBuiltins (Str.ofString "len") = some (.builtin "len") ∧ Str.ofString "len" ≠ "__name__" := ⟨by kernel_rfl, by boot_fast, by decide⟩
theorem B_list (P : Params) : nsIn (hd.heap_39 P) mainGlobals (Str.ofString "list") = some none ∧ bootBuiltins (Str.ofString "list") = some (.type "list") ∧ Str.ofString "list" ≠ "__name__" := ⟨by kernel_rfl, by boot_fast, by decide⟩
theorem B_range (P : Params) : nsIn (hd.heap_39 P) mainGlobals (Str.ofString "range") = some none ∧ bootBuiltins (Str.ofString "range") = some (.type "range") ∧ Str.ofString "range" ≠ "__name__" := ⟨by kernel_rfl, by boot_fast, by decide⟩
theorem B_abs (P : Params) : nsIn (hd.heap_39 P) mainGlobals (Str.ofString "abs") = some none ∧ bootBuiltins (Str.ofString "abs") = some (.builtin "abs") ∧ Str.ofString "abs" ≠ "__name__" := ⟨by kernel_rfl, by boot_fast, by decide⟩
theorem B_int (P : Params) : nsIn (hd.heap_39 P) mainGlobals (Str.ofString "int") = some none ∧ bootBuiltins (Str.ofString "int") = some (.type "int") ∧ Str.ofString "int" ≠ "__name__" := ⟨by kernel_rfl, by boot_fast, by decide⟩
theorem B_bool (P : Params) : nsIn (hd.heap_39 P) mainGlobals (Str.ofString "bool") = some none ∧ bootBuiltins (Str.ofString "bool") = some (.type "bool") ∧ Str.ofString "bool" ≠ "__name__" := ⟨by kernel_rfl, by boot_fast, by decide⟩
section
variable {w : World} {A : Around} {E : Value → Shared → Prop} {hS : Heap} {gS : Array GenState} {dS : Drawn} {tS : Nat} {oS : OsState} {h₀ : Heap} {L x d : Addr} {m : Str → Option Value} {news : Led} {o : Obj} {Q : Value → Shared → Prop}
theorem I_82_82 (F : Fr h₀ L hS m) (X : (hd.heap_39 w.params).In h₀) (N : News h₀ L hS news) (hx : (x, instObj 82 d) ∈ news) (hdX : (d, o) ∈ news) (h : Q (.bool true) ⟨hS, gS, dS, tS, oS⟩) : wpAny (model PR w) A (call (.builtin "isinstance") [.ref x, .ref 82]) Q E ⟨hS, gS, dS, tS, oS⟩ := by
  walk1; exact h
theorem I_82_104 (F : Fr h₀ L hS m) (X : (hd.heap_39 w.params).In h₀) (N : News h₀ L hS news) (hx : (x, instObj 82 d) ∈ news) (hdX : (d, o) ∈ news) (h : Q (.bool false) ⟨hS, gS, dS, tS + 1, oS⟩) : wpAny (model PR w) A (call (.builtin "isinstance") [.ref x, .ref 104]) Q E ⟨hS, gS, dS, tS, oS⟩ := by
  walk1; exact h
theorem I_82_125 (F : Fr h₀ L hS m) (X : (hd.heap_39 w.params).In h₀) (N : News h₀ L hS news) (hx : (x, instObj 82 d) ∈ news) (hdX : (d, o) ∈ news) (h : Q (.bool false) ⟨hS, gS, dS, tS + 1, oS⟩) : wpAny (model PR w) A (call (.builtin "isinstance") [.ref x, .ref 125]) Q E ⟨hS, gS, dS, tS, oS⟩ := by
  walk1; exact h
theorem I_104_82 (F : Fr h₀ L hS m) (X : (hd.heap_39 w.params).In h₀) (N : News h₀ L hS news) (hx : (x, instObj 104 d) ∈ news) (hdX : (d, o) ∈ news) (h : Q (.bool false) ⟨hS, gS, dS, tS + 1, oS⟩) : wpAny (model PR w) A (call (.builtin "isinstance") [.ref x, .ref 82]) Q E ⟨hS, gS, dS, tS, oS⟩ := by
  walk1; exact h
theorem I_104_104 (F : Fr h₀ L hS m) (X : (hd.heap_39 w.params).In h₀) (N : News h₀ L hS news) (hx : (x, instObj 104 d) ∈ news) (hdX : (d, o) ∈ news) (h : Q (.bool true) ⟨hS, gS, dS, tS, oS⟩) : wpAny (model PR w) A (call (.builtin "isinstance") [.ref x, .ref 104]) Q E ⟨hS, gS, dS, tS, oS⟩ := by
  walk1; exact h
theorem I_104_125 (F : Fr h₀ L hS m) (X : (hd.heap_39 w.params).In h₀) (N : News h₀ L hS news) (hx : (x, instObj 104 d) ∈ news) (hdX : (d, o) ∈ news) (h : Q (.bool false) ⟨hS, gS, dS, tS + 1, oS⟩) : wpAny (model PR w) A (call (.builtin "isinstance") [.ref x, .ref 125]) Q E ⟨hS, gS, dS, tS, oS⟩ := by
  walk1; exact h
theorem I_125_82 (F : Fr h₀ L hS m) (X : (hd.heap_39 w.params).In h₀) (N : News h₀ L hS news) (hx : (x, instObj 125 d) ∈ news) (hdX : (d, o) ∈ news) (h : Q (.bool false) ⟨hS, gS, dS, tS + 1, oS⟩) : wpAny (model PR w) A (call (.builtin "isinstance") [.ref x, .ref 82]) Q E ⟨hS, gS, dS, tS, oS⟩ := by
  walk1; exact h
theorem I_125_104 (F : Fr h₀ L hS m) (X : (hd.heap_39 w.params).In h₀) (N : News h₀ L hS news) (hx : (x, instObj 125 d) ∈ news) (hdX : (d, o) ∈ news) (h : Q (.bool false) ⟨hS, gS, dS, tS + 1, oS⟩) : wpAny (model PR w) A (call (.builtin "isinstance") [.ref x, .ref 104]) Q E ⟨hS, gS, dS, tS, oS⟩ := by
  walk1; exact h
theorem I_125_125 (F : Fr h₀ L hS m) (X : (hd.heap_39 w.params).In h₀) (N : News h₀ L hS news) (hx : (x, instObj 125 d) ∈ news) (hdX : (d, o) ∈ news) (h : Q (.bool true) ⟨hS, gS, dS, tS, oS⟩) : wpAny (model PR w) A (call (.builtin "isinstance") [.ref x, .ref 125]) Q E ⟨hS, gS, dS, tS, oS⟩ := by
  walk1; exact h
theorem I_nil_82 (F : Fr h₀ L hS m) (X : (hd.heap_39 w.params).In h₀) (N : News h₀ L hS news) (h : Q (.bool false) ⟨hS, gS, dS, tS + 1, oS⟩) : wpAny (model PR w) A (call (.builtin "isinstance") [.ref 64, .ref 82]) Q E ⟨hS, gS, dS, tS, oS⟩ := by
  walk1; exact h
theorem I_nil_104 (F : Fr h₀ L hS m) (X : (hd.heap_39 w.params).In h₀) (N : News h₀ L hS news) (h : Q (.bool false) ⟨hS, gS, dS, tS + 1, oS⟩) : wpAny (model PR w) A (call (.builtin "isinstance") [.ref 64, .ref 104]) Q E ⟨hS, gS, dS, tS, oS⟩ := by
  walk1; exact h
theorem I_nil_125 (F : Fr h₀ L hS m) (X : (hd.heap_39 w.params).In h₀) (N : News h₀ L hS news) (h : Q (.bool false) ⟨hS, gS, dS, tS + 1, oS⟩) : wpAny (model PR w) A (call (.builtin "isinstance") [.ref 64, .ref 125]) Q E ⟨hS, gS, dS, tS, oS⟩ := by
  walk1; exact h
end
example : True := by
  k_with "my_glob" => (first | with_reducible exact G_LispSignal _ | with_reducible exact G_NIL _ | with_reducible exact G_Cons _ | with_reducible exact G_Text _ | with_reducible exact G_Vector _ | with_reducible exact G_ByteCode _ | with_reducible exact G_Opaque _ | with_reducible exact G_list_of _ | with_reducible exact G_split_list _ | with_reducible exact G_is_whole _ | with_reducible exact G_is_list _ | with_reducible exact G_LONGEST _ | with_reducible exact G_wrong _ | with_reducible exact G_need_list _ | with_reducible exact G_need_whole _ | with_reducible exact G_things_of _ | with_reducible exact G_cdr_of _ | with_reducible exact G_MOST_STEPS _ | with_reducible exact G_eq _ | with_reducible exact G_parts_of _ | with_reducible exact G_are_of_one_class _ | with_reducible exact G_equal_by _ | with_reducible exact G_are_any _ | with_reducible exact G_equal _ | with_reducible exact G_ring_of _ | with_reducible exact G_rest_at _ | with_reducible exact G_LAST_CODE _ | with_reducible exact G_is_code _ | with_reducible exact G_need_code _ | with_reducible exact G_is_array _ | with_reducible exact G_things_in _ | with_reducible exact G_alike _ | with_reducible exact G_need_place _ | with_reducible exact G_lisp_length _ | with_reducible exact G_lisp_elt _ | with_reducible exact G_lisp_aref _ | with_reducible exact G_lisp_aset _ | with_reducible exact G_lisp_fillarray _ | with_reducible exact G_lisp_make_vector _ | with_reducible exact G_lisp_append _ | with_reducible exact G_lisp_vconcat _ | with_reducible exact G_lisp_copy_sequence _ | with_reducible exact G_lisp_reverse _ | with_reducible exact G_lisp_nreverse _ | with_reducible exact G_lisp_delete _ | with_reducible exact G_lisp_remove _ | with_reducible exact G_lisp_number_sequence _ | with_reducible exact G_law_deck _ | with_reducible exact G_law_draw _ | with_reducible exact G_law_row _ | with_reducible exact G_law_new _ | with_reducible exact G_law_told _ | with_reducible exact G_law_is_fresh _ | with_reducible exact G_law_places _ | with_reducible exact G_law_changed _ | with_reducible exact G_law_joined _ | with_reducible exact G_law_counted _ | with_reducible exact G_law _)
  trivial
example : True := by
  k_with "my_boot" => (first | with_reducible exact B_isinstance _ | with_reducible exact B_len _ | with_reducible exact B_list _ | with_reducible exact B_range _ | with_reducible exact B_abs _ | with_reducible exact B_int _ | with_reducible exact B_bool _)
  trivial
local macro_rules | `(tactic| walk_at $s:str) => do
  let t := Lean.Syntax.mkStrLit ("@" ++ s.getString)
  `(tactic| k_extra $t)
example : True := by
  k_with "@eval Name" => ((k_here; k_dflt (first
  | (refine' nmL ?k1 ?k2 ?k3 ?k4 ?k5 ?_; (case k3 => kernel_rfl!); (case k2 => exact rfl); (case k4 => kernel_rfl); (case k1 => k_asm); (case k5 => exact rfl); k_whole)
  | (refine' nmG ?k1 ?k2 ?k3 ?h1 ?h2 ?h3 ?k5 ?_; (case k5 => k_extra "my_glob"); (case h2 => kernel_rfl!); (case h1 => exact rfl); (case h3 => kernel_rfl); (case k1 => k_asm); (case k2 => k_asm); (case k3 => k_asm); k_whole)
  | (refine' nmB ?k1 ?k2 ?k3 ?h1 ?h2 ?h3 ?k5 ?_; (case k5 => k_extra "my_boot"); (case h2 => kernel_rfl!); (case h1 => exact rfl); (case h3 => kernel_rfl); (case k1 => k_asm); (case k2 => k_asm); (case k3 => k_asm); k_whole))))
  trivial
example : True := by
  k_with "@eval Constant int" => (with_reducible refine cInt ?_)
  trivial
example : True := by
  k_with "@eval Constant str" => (with_reducible refine cStr ?_)
  trivial
example : True := by
  k_with "@binaryOp Add int int" => (with_reducible refine addS ?_)
  trivial
example : True := by
  k_with "@binaryOp Sub int int" => (with_reducible refine subS ?_)
  trivial
example : True := by
  k_with "@storeName" => ((k_here; k_dflt (refine' stL ?k1 ?k2 ?k3 ?k4 ?_; (case k1 => k_asm); (case k2 => k_asm); (case k3 => first | exact rfl | assumption); (case k4 => exact rfl); k_whole); intro h' tS' F' N'; (try k_sweep)))
  trivial
example : True := by
  k_with "@ite" => (first | with_reducible refine ite_tt ?_ | with_reducible refine ite_ff ?_)
  trivial
example : True := by
  k_with "@exec If" => (with_reducible refine wpAny_If ?_)
  trivial
example : True := by
  k_with "@eval Call" => (((with_reducible show wpAny _ _ (eval (Expr.Call (Expr.Name _ _) _ [] _) _) _ _ _); k_dflt (refine Call_ ?_)))
  trivial
example : True := by
  k_with "@call builtin:isinstance" => ((k_here; (with_reducible show wpAny _ _ (call _ [Value.ref _, Value.ref 82]) _ _ _); k_dflt (first | (refine' I_nil_82 ?k1 ?k2 ?k3 ?_; (case k1 => k_asm); (case k2 => k_asm); (case k3 => k_asm); k_whole) | (refine' I_82_82 ?k1 ?k2 ?k3 ?k4 ?k5 ?_; (case k1 => k_asm); (case k2 => k_asm); (case k3 => k_asm); (case k4 => k_mem); (case k5 => k_mem); k_whole) | (refine' I_104_82 ?k1 ?k2 ?k3 ?k4 ?k5 ?_; (case k1 => k_asm); (case k2 => k_asm); (case k3 => k_asm); (case k4 => k_mem); (case k5 => k_mem); k_whole) | (refine' I_125_82 ?k1 ?k2 ?k3 ?k4 ?k5 ?_; (case k1 => k_asm); (case k2 => k_asm); (case k3 => k_asm); (case k4 => k_mem); (case k5 => k_mem); k_whole))))
  trivial
example : True := by
  k_with "@call builtin:isinstance" => ((k_here; (with_reducible show wpAny _ _ (call _ [Value.ref _, Value.ref 104]) _ _ _); k_dflt (first | (refine' I_nil_104 ?k1 ?k2 ?k3 ?_; (case k1 => k_asm); (case k2 => k_asm); (case k3 => k_asm); k_whole) | (refine' I_82_104 ?k1 ?k2 ?k3 ?k4 ?k5 ?_; (case k1 => k_asm); (case k2 => k_asm); (case k3 => k_asm); (case k4 => k_mem); (case k5 => k_mem); k_whole) | (refine' I_104_104 ?k1 ?k2 ?k3 ?k4 ?k5 ?_; (case k1 => k_asm); (case k2 => k_asm); (case k3 => k_asm); (case k4 => k_mem); (case k5 => k_mem); k_whole) | (refine' I_125_104 ?k1 ?k2 ?k3 ?k4 ?k5 ?_; (case k1 => k_asm); (case k2 => k_asm); (case k3 => k_asm); (case k4 => k_mem); (case k5 => k_mem); k_whole))))
  trivial
example : True := by
  k_with "@call builtin:isinstance" => ((k_here; (with_reducible show wpAny _ _ (call _ [Value.ref _, Value.ref 125]) _ _ _); k_dflt (first | (refine' I_nil_125 ?k1 ?k2 ?k3 ?_; (case k1 => k_asm); (case k2 => k_asm); (case k3 => k_asm); k_whole) | (refine' I_82_125 ?k1 ?k2 ?k3 ?k4 ?k5 ?_; (case k1 => k_asm); (case k2 => k_asm); (case k3 => k_asm); (case k4 => k_mem); (case k5 => k_mem); k_whole) | (refine' I_104_125 ?k1 ?k2 ?k3 ?k4 ?k5 ?_; (case k1 => k_asm); (case k2 => k_asm); (case k3 => k_asm); (case k4 => k_mem); (case k5 => k_mem); k_whole) | (refine' I_125_125 ?k1 ?k2 ?k3 ?k4 ?k5 ?_; (case k1 => k_asm); (case k2 => k_asm); (case k3 => k_asm); (case k4 => k_mem); (case k5 => k_mem); k_whole))))
  trivial
theorem is_whole_int (w : World) (i : Int) (t : Tok) (news : Led) : Ret w 2 10 (.ref 207) [.int i t] news (ValP (.bool true) news) := by
  k_extra "my_enter"
  k_steps
  all_goals (k_extra "my_ret"; exact ⟨rfl, rfl⟩)
example : True := by
  k_with "@call ref" => ((k_here; (with_reducible show wpAny _ _ (call (Value.ref 207) [Value.int _ _]) _ _ _); k_dflt ((refine' Ret.use (is_whole_int _ _ _ _) K_val ?k1 ?k2 ?k3 ?k4 ?k5 ?kK ?kd ?ku ?_); k_extra "my_use";  refine fun h9 tk9 F9 N9 => ?_;  (try dsimp only); (try k_fold))))
  trivial
theorem is_code_int (w : World) (i : Int) (t : Tok) (news : Led) : Ret w 4 20 (.ref 310) [.int i t] news (ValP (.bool (decide (0 ≤ i) && decide (i ≤ 4194303))) news) := by
  k_extra "my_enter"
  k_steps
  all_goals (k_extra "my_ret"; refine ⟨?_, rfl⟩; simp_all <;> omega)
abbrev ConsP (w : World) (v1 v2 : Value) (news : Led) (r : Value) (n : Led) : Prop := ∃ x d t1 t2, r = .ref x ∧ n = (x, instObj 82 d) :: (d, consD w t1 t2 v1 v2) :: news ∧ Over news d ∧ @LT.lt Nat _ d x
def KCons (w : World) (v1 v2 : Value) (news : Led) (P : Value → Led → Prop) : Prop := ∀ x d t1 t2, Over news d → @LT.lt Nat _ d x → P (.ref x) ((x, instObj 82 d) :: (d, consD w t1 t2 v1 v2) :: news)
theorem K_cons {w : World} {v1 v2 : Value} {news : Led} : ∀ P, KCons w v1 v2 news P → ∀ r n, ConsP w v1 v2 news r n → P r n := by
  rintro P h _ _ ⟨x, d, t1, t2, rfl, rfl, o, l⟩; exact h x d t1 t2 o l
abbrev VecP (w : World) (v1 : Value) (news : Led) (r : Value) (n : Led) : Prop := ∃ x d t1, r = .ref x ∧ n = (x, instObj 125 d) :: (d, vecD w t1 v1) :: news ∧ Over news d ∧ @LT.lt Nat _ d x
def KVec (w : World) (v1 : Value) (news : Led) (P : Value → Led → Prop) : Prop := ∀ x d t1, Over news d → @LT.lt Nat _ d x → P (.ref x) ((x, instObj 125 d) :: (d, vecD w t1 v1) :: news)
theorem K_vec {w : World} {v1 : Value} {news : Led} : ∀ P, KVec w v1 news P → ∀ r n, VecP w v1 news r n → P r n := by
  rintro P h _ _ ⟨x, d, t1, rfl, rfl, o, l⟩; exact h x d t1 o l
abbrev TxtP (w : World) (v1 v2 : Value) (news : Led) (r : Value) (n : Led) : Prop := ∃ x d t1 t2, r = .ref x ∧ n = (x, instObj 104 d) :: (d, txtD w t1 t2 v1 v2) :: news ∧ Over news d ∧ @LT.lt Nat _ d x
def KTxt (w : World) (v1 v2 : Value) (news : Led) (P : Value → Led → Prop) : Prop := ∀ x d t1 t2, Over news d → @LT.lt Nat _ d x → P (.ref x) ((x, instObj 104 d) :: (d, txtD w t1 t2 v1 v2) :: news)
theorem K_txt {w : World} {v1 v2 : Value} {news : Led} : ∀ P, KTxt w v1 v2 news P → ∀ r n, TxtP w v1 v2 news r n → P r n := by
  rintro P h _ _ ⟨x, d, t1, t2, rfl, rfl, o, l⟩; exact h x d t1 t2 o l
theorem mkCons (w : World) (v1 v2 : Value) (news : Led) : Ret w 4 20 (.ref 82) [v1, v2] news (ConsP w v1 v2 news) := by
  k_extra "my_intro"
  k_extra "my_cls"
  k_steps
  all_goals (k_extra "my_ret"; exact ⟨_, _, _, _, rfl, rfl, ‹_›, ‹_›⟩)
theorem mkVector (w : World) (v1 : Value) (news : Led) : Ret w 4 20 (.ref 125) [v1] news (VecP w v1 news) := by
  k_extra "my_intro"
  k_extra "my_cls"
  k_steps
  all_goals (k_extra "my_ret"; exact ⟨_, _, _, rfl, rfl, ‹_›, ‹_›⟩)
theorem mkText2 (w : World) (v1 v2 : Value) (news : Led) : Ret w 4 20 (.ref 104) [v1, v2] news (TxtP w v1 v2 news) := by
  k_extra "my_intro"
  k_extra "my_cls"
  k_steps
  all_goals (k_extra "my_ret"; exact ⟨_, _, _, _, rfl, rfl, ‹_›, ‹_›⟩)
theorem mkText1 (w : World) (v1 : Value) (news : Led) : Ret w 4 20 (.ref 104) [v1] news (TxtP w v1 .none news) := by
  k_extra "my_intro"
  k_extra "my_cls"
  k_steps
  all_goals (k_extra "my_ret"; exact ⟨_, _, _, _, rfl, rfl, ‹_›, ‹_›⟩)

theorem is_int_ref {M : Model} {A : Around} {E : Value → Shared → Prop} {s : Shared} {Q : Value → Shared → Prop} {i : Int} {t : Tok} {a : Addr} (h : Q (.bool false) s) : wpAny M A (compareOp .Is (.int i t) (.ref a)) Q E s := wpAny_pure h
example : True := by
  k_with "@compareOp Is int ref" => (with_reducible refine is_int_ref ?_)
  trivial
theorem is_list_nil (w : World) (news : Led) : Ret w 2 10 (.ref 214) [.ref 64] news (ValP (.bool true) news) := by
  k_extra "my_enter"
  k_steps
  all_goals (k_extra "my_ret"; exact ⟨rfl, rfl⟩)
theorem is_list_cons (w : World) (x d : Addr) (o : Obj) (news : Led) (hx : (x, instObj 82 d) ∈ news) (hdX : (d, o) ∈ news) : Ret w 2 10 (.ref 214) [.ref x] news (ValP (.bool true) news) := by
  k_extra "my_enter"
  k_steps
  all_goals (k_extra "my_ret"; exact ⟨rfl, rfl⟩)
theorem is_list_vec (w : World) (x d : Addr) (o : Obj) (news : Led) (hx : (x, instObj 125 d) ∈ news) (hdX : (d, o) ∈ news) : Ret w 2 10 (.ref 214) [.ref x] news (ValP (.bool false) news) := by
  k_extra "my_enter"
  k_steps
  all_goals (k_extra "my_ret"; exact ⟨rfl, rfl⟩)
theorem is_list_txt (w : World) (x d : Addr) (o : Obj) (news : Led) (hx : (x, instObj 104 d) ∈ news) (hdX : (d, o) ∈ news) : Ret w 2 10 (.ref 214) [.ref x] news (ValP (.bool false) news) := by
  k_extra "my_enter"
  k_steps
  all_goals (k_extra "my_ret"; exact ⟨rfl, rfl⟩)
theorem is_list_int (w : World) (i : Int) (t : Tok) (news : Led) : Ret w 2 10 (.ref 214) [.int i t] news (ValP (.bool false) news) := by
  k_extra "my_enter"
  k_steps
  all_goals (k_extra "my_ret"; exact ⟨rfl, rfl⟩)
section
variable {prog : Program} {w : World} {A : Around} {E : Value → Shared → Prop} {s : Shared} {hS : Heap} {gS : Array GenState} {dS : Drawn} {tS : Nat} {oS : OsState} {env : Env} {h₀ : Heap} {x : Str} {body : List Stmt} {Q : Flow → Shared → Prop}
/-- the end of a loop's turn: the iterator stands, the rest is told by J -/
def TurnE (h₀ : Heap) (L : Addr) (gS : Array GenState) (dS : Drawn) (oS : OsState) (I : Addr) (it : Obj) (J : (Str → Option Value) → Led → Prop) (s₂ : Shared) : Prop :=
  ∃ h' tk m' news', s₂ = ⟨h', gS, dS, tk, oS⟩ ∧ Fr h₀ L h' m' ∧ News h₀ L h' ((I, it) :: news') ∧ (∀ p ∈ news', p.1 ≠ I) ∧ J m' news'
def TurnP (h₀ : Heap) (L : Addr) (gS : Array GenState) (dS : Drawn) (oS : OsState) (I : Addr) (it : Obj) (J : (Str → Option Value) → Led → Prop) (Q : Flow → Shared → Prop) (f : Flow) (s₂ : Shared) : Prop :=
  match f with
  | .ret v => Q (.ret v) s₂
  | .brk => Q .next s₂
  | _ => TurnE h₀ L gS dS oS I it J s₂
theorem TurnE.intro {L I : Addr} {gS : Array GenState} {dS : Drawn} {oS : OsState} {it : Obj} {J : (Str → Option Value) → Led → Prop} {h' : Heap} {tk : Nat} {m' : Str → Option Value} {all news' : Led} (F : Fr h₀ L h' m') (N : News h₀ L h' all)
    (sub : ∀ p ∈ (I, it) :: news', p ∈ all) (off : ∀ p ∈ news', p.1 ≠ I) (r : J m' news') : TurnE h₀ L gS dS oS I it J ⟨h', gS, dS, tk, oS⟩ := ⟨h', tk, m', news', rfl, F, fun p hp => N p (sub p hp), off, r⟩

theorem TurnE.introP {L I : Addr} {gS : Array GenState} {dS : Drawn} {oS : OsState} {it : Obj} {J : (Str → Option Value) → Led → Prop} {h' : Heap} {tk : Nat} {m' : Str → Option Value} {pre r : Led} (F : Fr h₀ L h' m') (N : News h₀ L h' (pre ++ (I, it) :: r))
    (off : ∀ p ∈ pre ++ r, p.1 ≠ I) (j : J m' (pre ++ r)) : TurnE h₀ L gS dS oS I it J ⟨h', gS, dS, tk, oS⟩ := .intro F N (fun p hp => by
    rcases List.mem_cons.mp hp with h | h
    · exact List.mem_append_right _ (List.mem_cons.mpr (.inl h))
    · rcases List.mem_append.mp h with h | h
      · exact List.mem_append_left _ h
      · exact List.mem_append_right _ (List.mem_cons_of_mem _ h)) off j

theorem loop_J {I : Addr} {fp : List Addr} {n : Nat} {P : Nat → Value → Prop} {St : Nat → Heap → Prop} {m₀ : Str → Option Value} {news : Led} (W : Walks prog w A I fp [I] n P St) (J : Nat → (Str → Option Value) → Led → Prop)
    (hfp : ∀ b ∈ fp, b = I ∨ ∃ o, ∀ i m news, J i m news → (b, o) ∈ news) (hI : ∀ i h, St i h → ∃ o, h.get? I = some o) (hst : St 0 hS) (hL : env.locals ∉ fp) (hI₀ : h₀.get? I = none)
    (off : ∀ p ∈ news, p.1 ≠ I) (F : Fr h₀ env.locals hS m₀) (N : News h₀ env.locals hS news) (j0 : J 0 m₀ news)
    (turn : ∀ it i v m₁ news₁ h tk, i < n → P i v → J i m₁ news₁ → (∀ p ∈ news₁, p.1 ≠ I) → Fr h₀ env.locals h (fun y => if y = x then some v else m₁ y) → News h₀ env.locals h ((I, it) :: news₁) →
      wpAny (model prog w) A (execs body env) (TurnP h₀ env.locals gS dS oS I it (J (i + 1)) Q) E ⟨h, gS, dS, tk, oS⟩)
    (done : ∀ m₁ news₁ h tk, J n m₁ news₁ → Fr h₀ env.locals h m₁ → News h₀ env.locals h news₁ → Q .next ⟨h, gS, dS, tk, oS⟩) :
    LoopAtV prog w A h₀ env x body Q E (.ref I) ⟨hS, gS, dS, tS, oS⟩ := by
  refine ⟨I, fp, [I], n, P, St, m₀, news, J, rfl, W, hL, ?_, ?_, hst, F, N, j0, ?_, ?_⟩
  · intro b hb; rw [List.mem_singleton.mp hb]; exact hI₀
  · intro p hp hb; exact off p hp (List.mem_singleton.mp hb)
  · rintro i v m₁ news₁ s₁ own ⟨h, tk, rfl⟩ hi hP hJ hoff hown hget hall hst₁ F₁ N₁
    obtain ⟨it, hit⟩ := hI _ _ hst₁
    have hmem : (I, it) ∈ own := hall I (W.sub I (List.mem_singleton.mpr rfl)) hI₀ it hit
    have N₂ : News h₀ env.locals h ((I, it) :: news₁) := fun p hp => by
      rcases List.mem_cons.mp hp with rfl | hp
      · exact N₁ _ (List.mem_append_left _ hmem)
      · exact N₁ _ (List.mem_append_right _ hp)
    have hoff' : ∀ p ∈ news₁, p.1 ≠ I := fun p hp e => hoff p hp (List.mem_singleton.mpr e)
    refine wpAny_mono (turn it i v m₁ news₁ h tk hi hP hJ hoff' F₁ N₂) (fun f s₂ hs => ?_) fun _ _ e => e
    have fin : TurnE h₀ env.locals gS dS oS I it (J (i + 1)) s₂ → LoopStepU h₀ env.locals [I] own (J (i + 1)) ⟨h, gS, dS, tk, oS⟩ .next s₂ := by
      rintro ⟨h', tk', m', news', e, F', N', o', j'⟩
      refine ⟨rfl, h', tk', m', news', e, F', fun p hp => ?_, fun p hp hb => o' p hp (List.mem_singleton.mp hb), j'⟩
      rcases List.mem_append.mp hp with hp | hp
      · have h2 : h.get? p.1 = some p.2 := hget p hp
        rcases hfp p.1 (hown p hp) with h1 | ⟨o, ho⟩
        · rw [h1, hit] at h2
          rw [show p = (I, it) from Prod.ext h1 (Option.some.inj h2).symm]
          exact N' _ (List.mem_cons_self ..)
        · have q := (N₁ _ (List.mem_append_right _ (ho _ _ _ hJ))).1
          rw [h2] at q
          rw [show p = (p.1, o) from Prod.ext rfl (Option.some.inj q)]
          exact N' _ (List.mem_cons_of_mem _ (ho _ _ _ j'))
      · exact N' _ (List.mem_cons_of_mem _ hp)
    cases f with
    | ret v => exact .ret hs
    | brk => exact .brk hs
    | next => exact .next (fin hs)
    | cont => exact .cont (fin hs)
  · intro h' tk m' news' F' N' _ hJ
    exact done m' news' h' tk hJ F' N'

theorem iter_rangeJ {r : Addr} {a₀ b₀ c₀ : Int} {t₀ u₀ v₀ : Tok} {n : Nat} {m₀ : Str → Option Value} {news : Led} (J : Nat → (Str → Option Value) → Led → Prop)
    (hh : A.handled = none) (hr : IsRange hS r a₀ b₀ c₀ t₀ u₀ v₀) (hsmall : Builtin.Range.small a₀ b₀ c₀ = true) (hn : Builtin.Range.rangeSize a₀ b₀ c₀ = (n : Int)) (F : Fr h₀ env.locals hS m₀) (N : News h₀ env.locals hS news) (j0 : J 0 m₀ news)
    (turn : ∀ I it i t m₁ news₁ h tk, i < n → J i m₁ news₁ → (∀ p ∈ news₁, p.1 ≠ I) → Fr h₀ env.locals h (fun y => if y = x then some (.int (a₀ + (i : Int) * c₀) t) else m₁ y) → News h₀ env.locals h ((I, it) :: news₁) →
      wpAny (model prog w) A (execs body env) (TurnP h₀ env.locals gS dS oS I it (J (i + 1)) Q) E ⟨h, gS, dS, tk, oS⟩)
    (done : ∀ m₁ news₁ h tk, J n m₁ news₁ → Fr h₀ env.locals h m₁ → News h₀ env.locals h news₁ → Q .next ⟨h, gS, dS, tk, oS⟩) :
    wpAny (model prog w) A (pyIter (.ref r)) (fun it s₂ => LoopAtV prog w A h₀ env x body Q E it s₂) E ⟨hS, gS, dS, tS, oS⟩ := by
  refine wpAny_pyIter_range hr hsmall ?_
  refine loop_J (Walks.range hh hS.objs.size a₀ c₀ n).bound J ?_ (fun i h st => ⟨_, st⟩) (by show IsRangeIter _ _ _ _ _; rw [hn]; simpa using Heap.get?_push_size _ rfl) ?_ (next_is_new F)
    (fun p hp e => absurd (Heap.lt_size (N p hp).1) (e ▸ Nat.lt_irrefl _)) (F.push _) (fun p hp => ⟨Heap.get?_push_of_some _ (N p hp).1, (N p hp).2⟩) j0 ?_ ?_
  · intro b hb; exact .inl (List.mem_singleton.mp hb)
  · intro hm; exact absurd F.ns.lt ((List.mem_singleton.mp hm) ▸ Nat.lt_irrefl _)
  · rintro it i v m₁ news₁ h tk hi ⟨_, t, rfl⟩ hJ ho F₁ N₁
    exact turn _ it i t m₁ news₁ h tk hi hJ ho F₁ N₁
  · exact done

theorem iter_listJ {ax : Addr} {lo : Obj} {vs : List Value} {k : Nat} {m₀ : Str → Option Value} {news : Led} (J : Nat → (Str → Option Value) → Led → Prop)
    (hh : A.handled = none) (F : Fr h₀ env.locals hS m₀) (N : News h₀ env.locals hS news) (hc : lo.cls = .type "list") (hdX : lo.data = .seq vs.toArray k) (jm : ∀ i m news, J i m news → (ax, lo) ∈ news) (j0 : J 0 m₀ news)
    (turn : ∀ I it i v m₁ news₁ h tk, vs[i]? = some v → J i m₁ news₁ → (∀ p ∈ news₁, p.1 ≠ I) → Fr h₀ env.locals h (fun y => if y = x then some v else m₁ y) → News h₀ env.locals h ((I, it) :: news₁) →
      wpAny (model prog w) A (execs body env) (TurnP h₀ env.locals gS dS oS I it (J (i + 1)) Q) E ⟨h, gS, dS, tk, oS⟩)
    (done : ∀ m₁ news₁ h tk, J vs.length m₁ news₁ → Fr h₀ env.locals h m₁ → News h₀ env.locals h news₁ → Q .next ⟨h, gS, dS, tk, oS⟩) :
    wpAny (model prog w) A (pyIter (.ref ax)) (fun it s₂ => LoopAtV prog w A h₀ env x body Q E it s₂) E ⟨hS, gS, dS, tS, oS⟩ := by
  have hax := N _ (jm _ _ _ j0)
  have hl : hS.IsList ax vs.toArray := ⟨lo, hax.1, hc, k, hdX⟩
  have hlt : ax < hS.objs.size := Heap.lt_size hax.1
  refine wpAny_pyIter_list hl ?_
  have W := Walks.list (prog := prog) (w := w) hh hS.objs.size ax (Nat.ne_of_lt hlt) vs.toArray
  rw [show vs.toArray.size = vs.length by simp] at W
  refine loop_J W J ?_ (fun i h st => let ⟨o, e, _⟩ := st.1; ⟨o, e⟩) ⟨⟨_, Heap.get?_push_size _ rfl, rfl, rfl⟩, hl.at fun o e => Heap.get?_push_of_some _ e⟩ ?_ (next_is_new F)
    (fun p hp e => absurd (Heap.lt_size (N p hp).1) (e ▸ Nat.lt_irrefl _)) (F.push _) (fun p hp => ⟨Heap.get?_push_of_some _ (N p hp).1, (N p hp).2⟩) j0 ?_ ?_
  · intro b hb
    rcases List.mem_cons.mp hb with h1 | h1
    · exact .inl h1
    · exact .inr ⟨lo, fun i m news j => by rw [List.mem_singleton.mp h1]; exact jm i m news j⟩
  · intro hm
    rcases List.mem_cons.mp hm with h1 | h1
    · exact absurd F.ns.lt (h1 ▸ Nat.lt_irrefl _)
    · exact hax.2.1 (List.mem_singleton.mp h1).symm
  · rintro it i v m₁ news₁ h tk hi hP hJ ho F₁ N₁
    exact turn _ it i v m₁ news₁ h tk (by simpa using hP) hJ ho F₁ N₁
  · exact done
theorem While_inv {Q : Flow → Shared → Prop} {L : Addr} {test : Expr} {body : List Stmt} {pos : Pos} {m : Str → Option Value} {news : Led} (J : Nat → (Str → Option Value) → Led → Prop) {n₀ : Nat}
    (F : Fr h₀ L hS m) (N : News h₀ L hS news) (hJ : J n₀ m news)
    (turn : ∀ n m₁ news₁ h₁ tk₁, Fr h₀ L h₁ m₁ → News h₀ L h₁ news₁ → J n m₁ news₁ →
      wpAny (model prog w) A (isTrue test env (eval test env)) (fun b s₂ =>
        if b = true then wpAny (model prog w) A (execs body env) (WhileStep2 h₀ L ⟨hS, gS, dS, tS, oS⟩ J Q n) E s₂ else Q .next s₂) E ⟨h₁, gS, dS, tk₁, oS⟩)
    (hE : PassesOwn (model prog w) A env E := by passes_own) :
    wpAny (model prog w) A (exec (.While test body [] pos) env) Q E ⟨hS, gS, dS, tS, oS⟩ := While_inv2 J F N hJ turn hE
end
theorem While_next {h₀ h' : Heap} {L : Addr} {s : Shared} {J : Nat → (Str → Option Value) → Led → Prop} {Q : Flow → Shared → Prop} {n n' tk : Nat} {m₂ : Str → Option Value} {news₂ : Led} (F : Fr h₀ L h' m₂) (N : News h₀ L h' news₂) (lt : n' < n) (j : J n' m₂ news₂) :
    WhileStep2 h₀ L s J Q n .next ⟨h', s.gens, s.drawn, tk, s.os⟩ := ⟨h', tk, m₂, news₂, n', rfl, F, N, lt, j⟩
/-- what a frame's map holds, name by name -/
def Has (m : Str → Option Value) : List (String × Value) → Prop
  | [] => True
  | p :: r => m (Str.ofString p.1) = some p.2 ∧ Has m r
abbrev ups : List (String × Value) → (Str → Option Value) → Str → Option Value
  | [], m => m
  | p :: r, m => fun y => if y = Str.ofString p.1 then some p.2 else ups r m y
theorem Has.same {m : Str → Option Value} : ∀ {l : List (String × Value)}, Has m l → m = ups l m
  | [], _ => rfl
  | p :: r, ⟨h, t⟩ => by
    funext y
    show m y = if y = Str.ofString p.1 then some p.2 else ups r m y
    rw [← congrFun (Has.same t) y]
    split
    · rename_i e; rw [e, h]
    · rfl
theorem Has.ups {m : Str → Option Value} {l : List (String × Value)} (h : Has m l) : ∃ m₂, m = Mine.ups l m₂ := ⟨m, h.same⟩
/-- the walk stands still here -/
def Halt (P : Prop) : Prop := P
theorem halt {P : Prop} (h : Halt P) : P := h
inductive StopLoop : Prop
  | mk
inductive StopWhile : Prop
  | mk
inductive StopComp : Prop
  | mk
inductive StopSrc : Prop
  | mk
inductive StopFor : Prop
  | mk
inductive StopIsnot : Prop
  | mk
inductive StopEq : Prop
  | mk
inductive StopCmp : Prop
  | mk
inductive Stop461 : Prop
  | mk
inductive Stop371 : Prop
  | mk
inductive Stop425 : Prop
  | mk
inductive Stop378 : Prop
  | mk
inductive Stop392 : Prop
  | mk
inductive Stop440 : Prop
  | mk
inductive Stop447 : Prop
  | mk
inductive Stop482 : Prop
  | mk
inductive Stop492 : Prop
  | mk
example : True := by
  k_with "my loop" => (rename StopLoop => hZ9; clear hZ9; refine halt ?_)
  trivial
example : True := by
  k_with "my while" => (rename StopWhile => hZ9; clear hZ9; refine halt ?_)
  trivial
example : True := by
  k_with "my comp" => (rename StopComp => hZ9; clear hZ9; refine halt ?_)
  trivial
example : True := by
  k_with "my src" => (rename StopSrc => hZ9; clear hZ9; refine halt ?_)
  trivial
example : True := by
  k_with "my for" => (rename StopFor => hZ9; clear hZ9; refine halt ?_)
  trivial
example : True := by
  k_with "my isnot" => (rename StopIsnot => hZ9; clear hZ9; refine halt ?_)
  trivial
example : True := by
  k_with "my eqstr" => (rename StopEq => hZ9; clear hZ9; refine halt ?_)
  trivial
example : True := by
  k_with "my compare" => (rename StopCmp => hZ9; clear hZ9; refine halt ?_)
  trivial
example : True := by
  k_with "my call" => ((with_reducible show wpAny _ _ (call (Value.ref 461) _) _ _ _); rename Stop461 => hZ9; clear hZ9; refine halt ?_)
  trivial
example : True := by
  k_with "my call" => ((with_reducible show wpAny _ _ (call (Value.ref 468) [Value.ref 371, _]) _ _ _); rename Stop371 => hZ9; clear hZ9; refine halt ?_)
  trivial
example : True := by
  k_with "my call" => ((with_reducible show wpAny _ _ (call (Value.ref 468) [Value.ref 425, _]) _ _ _); rename Stop425 => hZ9; clear hZ9; refine halt ?_)
  trivial
example : True := by
  k_with "my call" => (first | ((with_reducible show wpAny _ _ (call (Value.ref 468) [Value.ref 378, _]) _ _ _); rename Stop378 => hZ9; clear hZ9; refine halt ?_) | ((with_reducible show wpAny _ _ (call (Value.ref 468) [Value.ref 420, _]) _ _ _); rename Stop378 => hZ9; clear hZ9; refine halt ?_))
  trivial
example : True := by
  k_with "my call" => ((with_reducible show wpAny _ _ (call (Value.ref 468) [Value.ref 392, _]) _ _ _); rename Stop392 => hZ9; clear hZ9; refine halt ?_)
  trivial
example : True := by
  k_with "my call" => ((with_reducible show wpAny _ _ (call (Value.ref 440) _) _ _ _); rename Stop440 => hZ9; clear hZ9; refine halt ?_)
  trivial
example : True := by
  k_with "my call" => ((with_reducible show wpAny _ _ (call (Value.ref 447) _) _ _ _); rename Stop447 => hZ9; clear hZ9; refine halt ?_)
  trivial
example : True := by
  k_with "my call" => (first | ((with_reducible show wpAny _ _ (call (Value.ref 482) _) _ _ _); rename Stop482 => hZ9; clear hZ9; refine halt ?_) | ((with_reducible show wpAny _ _ (call (Value.ref 487) _) _ _ _); rename Stop482 => hZ9; clear hZ9; refine halt ?_))
  trivial
example : True := by
  k_with "my call" => (first | ((with_reducible show wpAny _ _ (call (Value.ref 492) _) _ _ _); rename Stop492 => hZ9; clear hZ9; refine halt ?_) | ((with_reducible show wpAny _ _ (call (Value.ref 499) _) _ _ _); rename Stop492 => hZ9; clear hZ9; refine halt ?_))
  trivial
example : True := by
  k_with "@pyIter ref" => (k_extra "my loop")
  trivial
/-- a chain of cells from the first value to the tail, written out -/
inductive CellsOf (w : World) : Value → List Value → Value → Led → Prop
  | nil {tv : Value} : CellsOf w tv [] tv []
  | cons {v v1 tv : Value} {vs : List Value} {cs : Led} {x d : Addr} {t1 t2 : Tok} : CellsOf w v vs tv cs → Over cs d → @LT.lt Nat _ d x → CellsOf w (.ref x) (v1 :: vs) tv ((x, instObj 82 d) :: (d, consD w t1 t2 v1 v) :: cs)
/-- every entry of cs lies above every entry of news -/
abbrev Fresh (cs news : Led) : Prop := ∀ p ∈ cs, Over news p.1
abbrev ListOfP (w : World) (vs : List Value) (tv : Value) (news : Led) (r : Value) (n : Led) : Prop := ∃ cs, n = cs ++ news ∧ CellsOf w r vs tv cs ∧ Fresh cs news
def KListOf (w : World) (vs : List Value) (tv : Value) (news : Led) (P : Value → Led → Prop) : Prop := ∀ r cs, CellsOf w r vs tv cs → Fresh cs news → P r (cs ++ news)
theorem K_listof {w : World} {vs : List Value} {tv : Value} {news : Led} : ∀ P, KListOf w vs tv news P → ∀ r n, ListOfP w vs tv news r n → P r n := by
  rintro P h r _ ⟨cs, rfl, a, b⟩; exact h r cs a b

theorem item_led {prog : Program} {w : World} {A : Around} {E : Value → Shared → Prop} {hS : Heap} {gS : Array GenState} {dS : Drawn} {tS : Nat} {oS : OsState} {h₀ : Heap} {L l : Addr} {news : Led} {value slice : PySem.Expr} {vs : List Value} {n : Nat} {k : Int} {u : Tok} {v : Value} {Q : Value → Shared → Prop}
    (N : News h₀ L hS news) (hm : (l, listOf vs.toArray n) ∈ news) (h0 : 0 ≤ k) (hhi : k < 2 ^ 63) (hx : vs[k.toNat]? = some v) (h : Q v ⟨hS, gS, dS, tS, oS⟩)
    (hs : subscripted slice false (.ref l) (.int k u) = operate [.ref l, .int k u] (getItem (.ref l) (.int k u)) := by with_unfolding_all rfl) :
    wpAny (model prog w) A (subscriptTail value slice (.ref l) (.int k u)) Q E ⟨hS, gS, dS, tS, oS⟩ :=
  have hl : hS.IsList l vs.toArray := ⟨_, (N _ hm).1, rfl, n, rfl⟩
  tail_any hl.typeIs slot_list_getitem.lookup (wpAny_getItem_list hl h0 hhi (by simpa using hx) h) hs
theorem len_led {prog : Program} {w : World} {A : Around} {E : Value → Shared → Prop} {hS : Heap} {gS : Array GenState} {dS : Drawn} {tS : Nat} {oS : OsState} {h₀ : Heap} {L l : Addr} {news : Led} {vs : List Value} {n : Nat} {Q : Value → Shared → Prop}
    (N : News h₀ L hS news) (hm : (l, listOf vs.toArray n) ∈ news) (hb : vs.length ≤ 1000) (h : Q (.int (vs.length : Int) (tS + 1)) ⟨hS, gS, dS, tS + 1 + 1, oS⟩) :
    wpAny (model prog w) A (call (.builtin "len") [.ref l]) Q E ⟨hS, gS, dS, tS, oS⟩ :=
  have hl : hS.IsList l vs.toArray := ⟨_, (N _ hm).1, rfl, n, rfl⟩
  call_len_list hl (by simp; omega) (by simpa using h)
example : True := by
  k_with "my_bound" => (first | with_reducible assumption | exact Nat.le_trans (by with_reducible assumption) (by decide) | (simp only [List.length_append, List.length_cons, List.length_nil, List.length_map, List.length_reverse]; omega))
  trivial
example : True := by
  k_with "@call builtin:len" => ((k_here; (with_reducible show wpAny _ _ (call (Value.builtin "len") [Value.ref _]) _ _ _); k_dflt (refine' len_led ?k1 ?k2 ?k3 ?_; (case k1 => k_asm); (case k2 => k_mem); (case k3 => k_extra "my_bound"); k_whole); (try dsimp only)))
  trivial
example : True := by
  k_with "@subscriptTail" => ((k_here; (with_reducible show wpAny _ _ (subscriptTail _ _ (Value.ref _) (Value.int _ _)) _ _ _); k_dflt (refine' item_led ?k1 ?k2 ?k3 ?k4 ?k5 ?_ ?k6; (case k1 => k_asm); (case k2 => k_mem); (case k3 => k_extra "my_int"); (case k4 => k_extra "my_int"); (case k5 => first | with_reducible assumption | exact rfl); (case k6 => with_unfolding_all rfl); k_whole)))
  trivial
example : True := by
  k_with "@call ref" => ((k_here; (with_reducible show wpAny _ _ (call (Value.ref 82) [_, _]) _ _ _); k_dflt ((refine' Ret.use (mkCons _ _ _ _) K_cons ?k1 ?k2 ?k3 ?k4 ?k5 ?kK ?kd ?ku ?_); k_extra "my_use";  refine fun x9 d9 t91 t92 o9 l9 h9 tk9 F9 N9 => ?_;  (try dsimp only); (try k_fold))))
  trivial
theorem drop_back {vs : List Value} {i : Nat} (hi : i < vs.length) : vs.drop (vs.length - (i + 1)) = vs[vs.length - 1 - i]'(by omega) :: vs.drop (vs.length - i) := by
  rw [List.drop_eq_getElem_cons (by omega)]
  congr 1
  · congr 1; omega
  · congr 1; omega
example : True := by
  k_with "my_range" => (((rename IsRange _ _ _ _ _ _ _ _ => rgX); (rename Fr _ _ _ _ => lF'); (rename News _ _ _ _ => lN')))
  trivial
theorem list_of2 (w : World) (l : Addr) (vs : List Value) (n : Nat) (tv : Value) (news : Led) (hl : (l, listOf vs.toArray n) ∈ news) (hb : vs.length ≤ 1000) :
    Ret w 10 100 (.ref 193) [.ref l, tv] news (ListOfP w vs tv news) := by
  k_extra "my_enter"
  have hStopLoop : StopLoop := .mk
  k_steps
  k_extra "my_range"
  refine' iter_rangeJ (n := vs.length) (fun i m' n' => ∃ fv cs, Has m' [("found", fv), ("things", .ref l)] ∧ n' = cs ++ news ∧ CellsOf w fv (vs.drop (vs.length - i)) tv cs ∧ Fresh cs news) ?hh rgX ?hs ?hn lF' lN' ?j0 ?turn ?done
  case hh => rfl
  case hs => exact small_down (by omega) (by omega) (by omega) (by omega)
  case hn => rw [rangeSize_downNat]; omega
  case j0 =>
    refine ⟨tv, [], ⟨rfl, rfl, trivial⟩, rfl, ?_, List.forall_mem_nil _⟩
    rw [Nat.sub_zero, List.drop_length]; exact .nil
  case turn =>
    intro I it i t m₁ n₁ h₁ tk₁ hi hJ ho F₁ N₁
    obtain ⟨fv, cells, hM, rfl, hC, hF⟩ := hJ
    obtain ⟨m₂, rfl⟩ := hM.ups
    replace F₁ : Fr g' L' h₁ _ := F₁
    replace N₁ : News g' L' h₁ _ := N₁
    have hl₁ : (l, listOf vs.toArray n) ∈ cells ++ news := List.mem_append_right _ hl
    have hx : vs[((vs.length : Int) - 1 + (i : Int) * -1).toNat]? = some (vs[vs.length - 1 - i]'(by omega)) := by
      rw [List.getElem?_eq_some_iff]; exact ⟨by omega, by congr 1; omega⟩
    clear lF' lN' rgX
    k_steps
    dsimp only [TurnP]
    have hI : @LT.lt Nat _ I d9 := o9 _ (.head _)
    have hO : Over (cells ++ news) d9 := fun p hp => o9 p (.tail _ hp)
    refine TurnE.introP (pre := [_, _]) (by k_asm) (by k_asm) ?_ ⟨.ref x9, _ :: _ :: cells, ⟨rfl, rfl, trivial⟩, rfl, ?_, ?_⟩
    · exact List.forall_mem_cons.mpr ⟨Nat.ne_of_gt (Nat.lt_trans hI l9), List.forall_mem_cons.mpr ⟨Nat.ne_of_gt hI, ho⟩⟩
    · rw [drop_back hi]; exact .cons hC (fun p hp => hO p (List.mem_append_left _ hp)) l9
    · have hdX : Over news d9 := fun p hp => hO p (List.mem_append_right _ hp)
      exact List.forall_mem_cons.mpr ⟨fun p hp => Nat.lt_trans (hdX p hp) l9, List.forall_mem_cons.mpr ⟨hdX, hF⟩⟩
  case done =>
    intro m₁ n₁ h₁ tk₁ hJ F₁ N₁
    obtain ⟨fv, cells, hM, rfl, hC, hF⟩ := hJ
    obtain ⟨m₂, rfl⟩ := hM.ups
    replace F₁ : Fr g' L' h₁ _ := F₁
    replace N₁ : News g' L' h₁ _ := N₁
    clear lF' lN' rgX
    try dsimp only
    k_steps
    k_extra "my_ret"
    exact ⟨cells, rfl, by simpa using hC, hF⟩
theorem list_of1 (w : World) (l : Addr) (vs : List Value) (n : Nat) (news : Led) (hl : (l, listOf vs.toArray n) ∈ news) (hb : vs.length ≤ 1000) :
    Ret w 10 100 (.ref 193) [.ref l] news (ListOfP w vs (.ref 64) news) := by
  k_extra "my_enter"
  have hStopLoop : StopLoop := .mk
  k_steps
  k_extra "my_range"
  refine' iter_rangeJ (n := vs.length) (fun i m' n' => ∃ fv cs, Has m' [("found", fv), ("things", .ref l)] ∧ n' = cs ++ news ∧ CellsOf w fv (vs.drop (vs.length - i)) (.ref 64) cs ∧ Fresh cs news) ?hh rgX ?hs ?hn lF' lN' ?j0 ?turn ?done
  case hh => rfl
  case hs => exact small_down (by omega) (by omega) (by omega) (by omega)
  case hn => rw [rangeSize_downNat]; omega
  case j0 =>
    refine ⟨(.ref 64), [], ⟨rfl, rfl, trivial⟩, rfl, ?_, List.forall_mem_nil _⟩
    rw [Nat.sub_zero, List.drop_length]; exact .nil
  case turn =>
    intro I it i t m₁ n₁ h₁ tk₁ hi hJ ho F₁ N₁
    obtain ⟨fv, cells, hM, rfl, hC, hF⟩ := hJ
    obtain ⟨m₂, rfl⟩ := hM.ups
    replace F₁ : Fr g' L' h₁ _ := F₁
    replace N₁ : News g' L' h₁ _ := N₁
    have hl₁ : (l, listOf vs.toArray n) ∈ cells ++ news := List.mem_append_right _ hl
    have hx : vs[((vs.length : Int) - 1 + (i : Int) * -1).toNat]? = some (vs[vs.length - 1 - i]'(by omega)) := by
      rw [List.getElem?_eq_some_iff]; exact ⟨by omega, by congr 1; omega⟩
    clear lF' lN' rgX
    k_steps
    dsimp only [TurnP]
    have hI : @LT.lt Nat _ I d9 := o9 _ (.head _)
    have hO : Over (cells ++ news) d9 := fun p hp => o9 p (.tail _ hp)
    refine TurnE.introP (pre := [_, _]) (by k_asm) (by k_asm) ?_ ⟨.ref x9, _ :: _ :: cells, ⟨rfl, rfl, trivial⟩, rfl, ?_, ?_⟩
    · exact List.forall_mem_cons.mpr ⟨Nat.ne_of_gt (Nat.lt_trans hI l9), List.forall_mem_cons.mpr ⟨Nat.ne_of_gt hI, ho⟩⟩
    · rw [drop_back hi]; exact .cons hC (fun p hp => hO p (List.mem_append_left _ hp)) l9
    · have hdX : Over news d9 := fun p hp => hO p (List.mem_append_right _ hp)
      exact List.forall_mem_cons.mpr ⟨fun p hp => Nat.lt_trans (hdX p hp) l9, List.forall_mem_cons.mpr ⟨hdX, hF⟩⟩
  case done =>
    intro m₁ n₁ h₁ tk₁ hJ F₁ N₁
    obtain ⟨fv, cells, hM, rfl, hC, hF⟩ := hJ
    obtain ⟨m₂, rfl⟩ := hM.ups
    replace F₁ : Fr g' L' h₁ _ := F₁
    replace N₁ : News g' L' h₁ _ := N₁
    clear lF' lN' rgX
    try dsimp only
    k_steps
    k_extra "my_ret"
    exact ⟨cells, rfl, by simpa using hC, hF⟩
/-- a chain of cells that the ledger bears, whole -/
inductive ChainIn (w : World) (news : Led) : Value → List Value → Prop
  | nil : ChainIn w news (.ref 64) []
  | cons {v : Value} {vs : List Value} {x d : Addr} {t1 t2 t : Tok} {i : Int} : (x, instObj 82 d) ∈ news → (d, consD w t1 t2 (.int i t) v) ∈ news → ChainIn w news v vs → ChainIn w news (.ref x) (.int i t :: vs)
theorem ChainIn.mono {w : World} {news news' : Led} (hs : ∀ p ∈ news, p ∈ news') {v : Value} {vs : List Value} (h : ChainIn w news v vs) : ChainIn w news' v vs := by
  induction h with
  | nil => exact .nil
  | cons a b _ ih => exact .cons (hs _ a) (hs _ b) ih
theorem CellsOf.chain {w : World} {news : Led} {v : Value} {vs : List Value} {cs : Led} {ns : List Int} (h : CellsOf w v vs (.ref 64) cs) (hi : IntsAre vs ns) (hs : ∀ p ∈ cs, p ∈ news) : ChainIn w news v vs := by
  generalize ht : Value.ref 64 = tv at h
  induction h generalizing ns with
  | nil => subst ht; exact .nil
  | cons _ _ _ ih =>
    cases hi with
    | cons n t hi => exact .cons (hs _ (.head _)) (hs _ (.tail _ (.head _))) (ih hi (fun p hp => hs p (.tail _ (.tail _ hp))) ht)
theorem nil_obj {w : World} {h : Heap} (X : (hd.heap_39 w.params).In h) : ∃ o, h.get? 64 = some o ∧ o.cls = .ref 58 := ⟨_, X 64 _ rfl, rfl⟩
theorem ChainIn.ref {w : World} {news : Led} {v : Value} {vs : List Value} (h : ChainIn w news v vs) : ∃ a, v = .ref a := by
  cases h with
  | nil => exact ⟨_, rfl⟩
  | cons => exact ⟨_, rfl⟩
theorem ChainIn.obj {w : World} {h₀ h : Heap} {L a : Addr} {m : Str → Option Value} {news : Led} {vs : List Value} (X : (hd.heap_39 w.params).In h₀) (F : Fr h₀ L h m) (N : News h₀ L h news) (c : ChainIn w news (.ref a) vs) : ∃ o, h.get? a = some o ∧ o.cls ≠ .type "tuple" := by
  cases c with
  | nil => obtain ⟨o, ho, hc⟩ := nil_obj X; exact ⟨o, F.keep _ _ ho, by rw [hc]; intro e; cases e⟩
  | cons hx _ _ => exact ⟨_, (N _ hx).1, by intro e; cases e⟩
theorem led_one {h₀ h : Heap} {L a : Addr} {news : Led} {o o' : Obj} (N : News h₀ L h news) (h1 : (a, o) ∈ news) (h2 : (a, o') ∈ news) : o = o' := Option.some.inj ((N _ h1).1.symm.trans (N _ h2).1)
theorem consD_inj {w : World} {t1 t2 u1 u2 : Tok} {a b c d : Value} (e : consD w t1 t2 a b = consD w u1 u2 c d) : a = c ∧ b = d := by
  have z : ([a, b] : List Value) = [c, d] := congrArg (fun o : Obj => match o.data with | .dict es _ => es.toList.map (fun x : DictEntry => x.val) | _ => []) e
  injection z with h1 h2
  injection h2 with h2
  exact ⟨h1, h2⟩
theorem ChainIn.det {w : World} {h₀ h : Heap} {L : Addr} {news : Led} {v : Value} {vs vs' : List Value} (X : (hd.heap_39 w.params).In h₀) (N : News h₀ L h news) (c : ChainIn w news v vs) (c' : ChainIn w news v vs') : vs = vs' := by
  obtain ⟨o64, h64, _⟩ := nil_obj X
  induction c generalizing vs' with
  | nil =>
    cases c' with
    | nil => rfl
    | cons hx _ _ => have := (N _ hx).2.2; rw [h64] at this; cases this
  | cons hx hdX _ ih =>
    cases c' with
    | nil => have := (N _ hx).2.2; rw [h64] at this; cases this
    | cons hx' hd' r' =>
      have e := led_one N hx hx'
      have e1 : _ = _ := Option.some.inj (congrArg Obj.dict e)
      subst e1
      have e2 := led_one N hdX hd'
      obtain ⟨hi, rfl⟩ := consD_inj e2
      cases hi
      rw [ih r']
/-- two places of one chain, told by what lies behind them, are two objects -/
theorem ChainIn.apart {w : World} {h₀ h : Heap} {L a b : Addr} {news : Led} {vs vs' : List Value} (X : (hd.heap_39 w.params).In h₀) (N : News h₀ L h news) (c : ChainIn w news (.ref a) vs) (c' : ChainIn w news (.ref b) vs') (hl : vs.length ≠ vs'.length) : a ≠ b := by
  intro e; subst e; exact hl (congrArg List.length (c.det X N c'))
theorem append_led {prog : Program} {w : World} {A : Around} {E : Value → Shared → Prop} {hS : Heap} {gS : Array GenState} {dS : Drawn} {tS : Nat} {oS : OsState} {h₀ : Heap} {L D : Addr} {m : Str → Option Value} {news news' : Led} {vs : List Value} {n : Nat} {x : Value} {Q : Value → Shared → Prop} (F : Fr h₀ L hS m) (N : News h₀ L hS news)
    (U : Upd D (listOf vs.toArray n) (listOf (vs ++ [x]).toArray (n + 1)) news news') (hb : vs.length ≤ 1000) (h : ∀ h', Fr h₀ L h' m → News h₀ L h' news' → Q .none ⟨h', gS, dS, tS, oS⟩) : wpAny (model prog w) A (call (.builtin "list.append") [.ref D, x]) Q E ⟨hS, gS, dS, tS, oS⟩ :=
  append_K (its := vs.toArray) (n := n) F N (by rw [List.push_toArray]; exact U) h (by simp only [List.size_toArray, PySem.sizeLine_eq]; omega)
theorem newList_led {M : Model} {A : Around} {E : Value → Shared → Prop} {hS : Heap} {gS : Array GenState} {dS : Drawn} {tS : Nat} {oS : OsState} {h₀ : Heap} {L : Addr} {m : Str → Option Value} {news : Led} {vs : List Value} {Q : Value → Shared → Prop} (F : Fr h₀ L hS m) (N : News h₀ L hS news)
    (h : ∀ l h', Fr h₀ L h' m → News h₀ L h' ((l, listOf vs.toArray 0) :: news) → (∀ p ∈ news, p.1 < l) → Q (.ref l) ⟨h', gS, dS, tS, oS⟩) (hsz : vs.length ≤ sizeLine := by size_fits) : wpAny M A (newList vs) Q E ⟨hS, gS, dS, tS, oS⟩ := newList_K F N h hsz
theorem fm2 (a : Int) : Int.fmod a 2 = a % 2 := Int.fmod_eq_emod_of_nonneg _ (by decide)
theorem is_apart {w : World} {M : Model} {A : Around} {E : Value → Shared → Prop} {hS : Heap} {gS : Array GenState} {dS : Drawn} {tS : Nat} {oS : OsState} {Q : Value → Shared → Prop} {h₀ : Heap} {L a b : Addr} {m : Str → Option Value} {n₀ news : Led} {vs vs' : List Value} (X : (hd.heap_39 w.params).In h₀) (F : Fr h₀ L hS m) (N : News h₀ L hS news)
    (c : ChainIn w n₀ (.ref a) vs) (c' : ChainIn w n₀ (.ref b) vs') (sub : ∀ p ∈ n₀, p ∈ news) (hl : vs.length ≠ vs'.length) (h : Q (.bool false) ⟨hS, gS, dS, tS, oS⟩) : wpAny M A (compareOp .Is (.ref a) (.ref b)) Q E ⟨hS, gS, dS, tS, oS⟩ := by
  have C := c.mono sub
  have C' := c'.mono sub
  obtain ⟨o, ho, hc⟩ := C.obj X F N
  obtain ⟨o', ho', _⟩ := C'.obj X F N
  exact kto_is ho ho' (C.apart X N C' hl) hc h
theorem lt_of_all {d : Addr} : ∀ {l : Led}, AllLt d l → ∀ p ∈ l, p.1 ≠ d
  | [], _, _, h => nomatch h
  | _ :: _, x, p, h => by
    rcases List.mem_cons.mp h with rfl | h
    · exact Nat.ne_of_lt x.1
    · exact lt_of_all x.2 p h
theorem ne_of_sub {d : Addr} {l l' : Led} (h : ∀ p ∈ l, p.1 < d) (hs : ∀ p ∈ l', p ∈ l) : ∀ p ∈ l', p.1 ≠ d := fun p hp => Nat.ne_of_lt (h p (hs p hp))
example : True := by
  k_with "@newList" => ((k_here; k_dflt (refine' newList_led ?k1 ?k2 ?_; (case k1 => k_asm); (case k2 => k_asm); k_whole); intro l9 h9 F9 N9 o9; (try k_sweep)))
  trivial
example : True := by
  k_with "@call builtin:list.append" => ((k_here; (with_reducible show wpAny _ _ (call (Value.builtin _) [Value.ref _, _]) _ _ _); k_dflt (refine' append_led ?k1 ?k2 ?k3 ?k4 ?_; (case k1 => k_asm); (case k2 => k_asm); (case k3 => k_upd); (case k4 => k_extra "my_bound"); k_whole); intro h9 F9 N9; (try k_sweep)))
  trivial
example : True := by
  k_with "@k_all" => ((refine' ne_of_sub ?h ?s; (case h => with_reducible assumption); (case s => (intro p9 hp9; k_mem))))
  trivial
example : True := by
  k_with "@exec While" => (k_extra "my while")
  trivial
example : True := by
  k_with "@exec While Call cons nil" => (k_extra "my while")
  trivial
example : True := by
  k_with "@exec While Compare cons nil" => (k_extra "my while")
  trivial
example : True := by
  k_with "@exec While BoolOp cons nil" => (k_extra "my while")
  trivial
example : True := by
  k_with "my_sub" => (first | exact fun _ h => h | exact fun _ h => List.mem_cons_of_mem _ h | exact fun _ h => List.mem_cons_of_mem _ (List.mem_cons_of_mem _ h) | exact fun _ h => List.mem_cons_of_mem _ (List.mem_cons_of_mem _ (List.mem_cons_of_mem _ h)))
  trivial
example : True := by
  k_with "@compareOp Is ref ref" => ((k_here; k_dflt (refine' is_apart ?k1 ?k2 ?k3 ?k4 ?k5 ?k6 ?k7 ?_; (case k1 => k_asm); (case k2 => k_asm); (case k3 => k_asm); (case k4 => with_reducible assumption); (case k5 => with_reducible assumption); (case k6 => k_extra "my_sub"); (case k7 => first | with_reducible assumption | omega | (simp only [List.length_append, List.length_cons, List.length_nil, fm2] at *; omega)); k_whole)))
  trivial
abbrev SplitP (vs : List Value) (news : Led) (r : Value) (n : Led) : Prop := ∃ t tl k, r = .ref t ∧ n = (t, ({ cls := .type "tuple", data := .seq #[.ref tl, .ref 64] } : Obj)) :: (tl, listOf vs.toArray k) :: news ∧ Over news tl ∧ @LT.lt Nat _ tl t
def KSplit (vs : List Value) (news : Led) (P : Value → Led → Prop) : Prop := ∀ t tl k, Over news tl → @LT.lt Nat _ tl t → P (.ref t) ((t, ({ cls := .type "tuple", data := .seq #[.ref tl, .ref 64] } : Obj)) :: (tl, listOf vs.toArray k) :: news)
theorem K_split {vs : List Value} {news : Led} : ∀ P, KSplit vs news P → ∀ r n, SplitP vs news r n → P r n := by
  rintro P h _ _ ⟨t, tl, k, rfl, rfl, a, b⟩; exact h t tl k a b
def SplitJ (w : World) (vs : List Value) (news : Led) (lt : Addr) (k : Nat) (m' : Str → Option Value) (n' : Led) : Prop :=
  ∃ us ds av sv, Has m' [("things", .ref lt), ("at", .ref av), ("slow", .ref sv)] ∧ vs = us ++ ds ∧ n' = (lt, listOf us.toArray us.length) :: news ∧ ChainIn w news (.ref av) ds ∧ ChainIn w news (.ref sv) (vs.drop (us.length / 2)) ∧ k = ds.length
theorem split_ar {a b c n : Nat} (h1 : a + (b + 1) = n) (h2 : n - a / 2 = c) : c ≠ 0 := by omega
theorem split_ar2 {a b c n : Nat} (h1 : a + (b + 1) = n) (h2 : n - a / 2 = c + 1) (h3 : n ≤ 1000) : a ≤ 1000 ∧ b + a + 1 = n ∧ c + 1 + a / 2 = n := by omega
theorem split_even {a : Nat} (h : (((a + 1 : Nat) : Int) % 2 = 0)) : (a + 1) / 2 = a / 2 + 1 := by omega
theorem split_odd {a : Nat} (h : ¬ (((a + 1 : Nat) : Int) % 2 = 0)) : (a + 1) / 2 = a / 2 := by omega
theorem SplitJ.elim {w : World} {vs : List Value} {news n₁ : Led} {lt : Addr} {k : Nat} {m₁ : Str → Option Value} {h₀ h₁ : Heap} {L : Addr} {G : Prop} (hJ : SplitJ w vs news lt k m₁ n₁) (F : Fr h₀ L h₁ m₁) (N : News h₀ L h₁ n₁) (hb : vs.length ≤ 1000)
    (hnil : ∀ m₂ sv, Fr h₀ L h₁ (Mine.ups [("things", .ref lt), ("at", .ref 64), ("slow", .ref sv)] m₂) → News h₀ L h₁ ((lt, listOf vs.toArray vs.length) :: news) → G)
    (hcons : ∀ m₂ us i0 t0 av sv d t1 t2 a' e u1 u2 v3 b' ds ss k', Fr h₀ L h₁ (Mine.ups [("things", .ref lt), ("at", .ref av), ("slow", .ref sv)] m₂) → News h₀ L h₁ ((lt, listOf us.toArray us.length) :: news) → (av, instObj 82 d) ∈ news → (d, consD w t1 t2 (.int i0 t0) (.ref a')) ∈ news → (sv, instObj 82 e) ∈ news → (e, consD w u1 u2 v3 (.ref b')) ∈ news →
      ChainIn w news (.ref a') ds → ChainIn w news (.ref b') ss → us.length ≤ 1000 → ds.length + us.length + 1 = vs.length → ss.length + 1 + us.length / 2 = vs.length → k' < k →
      ((((us.length + 1 : Nat) : Int) % 2 = 0) → ∀ m' n', Has m' [("things", .ref lt), ("at", .ref a'), ("slow", .ref b')] → n' = (lt, listOf (us ++ [Value.int i0 t0]).toArray (us.length + 1)) :: news → SplitJ w vs news lt k' m' n') →
      (¬ (((us.length + 1 : Nat) : Int) % 2 = 0) → ∀ m' n', Has m' [("things", .ref lt), ("at", .ref a'), ("slow", .ref sv)] → n' = (lt, listOf (us ++ [Value.int i0 t0]).toArray (us.length + 1)) :: news → SplitJ w vs news lt k' m' n') → G) : G := by
  obtain ⟨us, ds, av, sv, hM, hv, rfl, hA, hS, rfl⟩ := hJ
  obtain ⟨m₂, rfl⟩ := hM.ups
  cases hA with
  | nil => rw [List.append_nil] at hv; subst hv; exact hnil _ _ F N
  | @cons v ds x d t1 t2 t0 i0 hx hdX hr =>
    have hlen := congrArg List.length hv
    rw [List.length_append, List.length_cons] at hlen
    obtain ⟨a', rfl⟩ := hr.ref
    have hS0 := hS
    generalize hse : vs.drop (us.length / 2) = ss at hS
    have hsl := congrArg List.length hse
    rw [List.length_drop] at hsl
    have hv2 : vs = (us ++ [Value.int i0 t0]) ++ ds := by rw [hv, List.append_assoc]; rfl
    cases hS with
    | nil => exact absurd rfl (split_ar hlen.symm hsl)
    | @cons sw ss y e u1 u2 u0 j0 hy he hs =>
      obtain ⟨b', rfl⟩ := hs.ref
      have har := split_ar2 hlen.symm hsl hb
      refine hcons m₂ us _ _ _ _ _ _ _ _ _ _ _ _ _ _ _ _ F N hx hdX hy he hr hs har.1 har.2.1 har.2.2 (Nat.lt_succ_self _) (fun q m' n' hm' hn' => ⟨us ++ [Value.int i0 t0], ds, a', b', hm', hv2, ?_, hr, ?_, rfl⟩) fun q m' n' hm' hn' => ⟨us ++ [Value.int i0 t0], ds, a', sv, hm', hv2, ?_, hr, ?_, rfl⟩
      · rw [List.length_append]; exact hn'
      · rw [List.length_append, show (us.length + [Value.int i0 t0].length) / 2 = us.length / 2 + 1 from split_even q, ← List.tail_drop, hse]; exact hs
      · rw [List.length_append]; exact hn'
      · rw [List.length_append, show (us.length + [Value.int i0 t0].length) / 2 = us.length / 2 from split_odd q]; exact hS0
theorem split_list_ok (w : World) (v : Value) (vs : List Value) (news : Led) (hc : ChainIn w news v vs) (hb : vs.length ≤ 1000) :
    Ret w 10 100 (.ref 200) [v] news (SplitP vs news) := by
  obtain ⟨va, rfl⟩ := hc.ref
  k_extra "my_enter"
  have hStopWhile : StopWhile := .mk
  k_steps
  rename Fr _ _ _ _ => lF
  rename News _ _ _ _ => lN
  have hO : Over news l9 := o9
  refine While_inv (SplitJ w vs news l9) lF lN ⟨[], vs, va, va, ⟨rfl, rfl, rfl, trivial⟩, rfl, rfl, hc, hc, rfl⟩ ?_
  intro k m₁ n₁ h₁ tk₁ F₁ N₁ hJ
  clear lF lN
  refine hJ.elim F₁ N₁ hb (fun m₂ sv F₂ N₂ => ?_) fun m₂ us i0 t0 av sv d t1 t2 a' e u1 u2 v3 b' ds ss k' F₂ N₂ hx hdX hy he hr hs hul hdl hsl hlt hev hod => ?_
  · clear F₁ N₁ hJ
    k_steps
    k_extra "my_ret"
    exact ⟨_, _, _, rfl, rfl, hO, by omega⟩
  · clear F₁ N₁ hJ
    k_steps
    · refine While_next (by k_asm) (by k_asm) hlt ?_
      exact hev (by simp_all [fm2]) _ _ ⟨rfl, rfl, rfl, trivial⟩ rfl
    · refine While_next (by k_asm) (by k_asm) hlt ?_
      exact hod (by simp_all [fm2]) _ _ ⟨rfl, rfl, rfl, trivial⟩ rfl
theorem pick_upto {vs : List Value} {y : Int} (h : 0 ≤ y) : (slicePick vs.toArray none (some y) none).toList = vs.take y.toNat := by
  have e : sliceBounds none (some y) none vs.toArray.size = (((0 : Nat) : Int), ((min y.toNat vs.toArray.size : Nat) : Int), 1) := by
    simp only [sliceBounds, Option.getD_none, show (1 : Int) > 0 by decide, if_true, if_neg (show ¬ (y < 0) by omega)]
    congr 1
    congr 1
    omega
  rw [kmk_pick_nat _ e]
  show (vs.drop 0).take (min y.toNat vs.toArray.size - 0) = _
  rw [List.drop_zero, Nat.sub_zero, List.size_toArray, kmk_take_min]
theorem pick_from {vs : List Value} {x : Int} (h : 0 ≤ x) : (slicePick vs.toArray (some x) none none).toList = vs.drop x.toNat := by
  have e : sliceBounds (some x) none none vs.toArray.size = (((min x.toNat vs.toArray.size : Nat) : Int), ((vs.toArray.size : Nat) : Int), 1) := by
    simp only [sliceBounds, Option.getD_none, show (1 : Int) > 0 by decide, if_true, if_neg (show ¬ (x < 0) by omega)]
    congr 1
    omega
  rw [kmk_pick_nat _ e]
  show (vs.drop (min x.toNat vs.toArray.size)).take (vs.toArray.size - min x.toNat vs.toArray.size) = _
  rw [List.size_toArray, kmk_drop_min, List.take_of_length_le (by rw [List.length_drop]; omega)]
theorem pick_but_last {vs : List Value} : (slicePick vs.toArray none (some (-1)) none).toList = vs.take (vs.length - 1) := by
  have e : sliceBounds none (some (-1)) none vs.toArray.size = (((0 : Nat) : Int), ((vs.toArray.size - 1 : Nat) : Int), 1) := by
    simp only [sliceBounds, Option.getD_none, show (1 : Int) > 0 by decide, if_true, if_pos (show (-1 : Int) < 0 by decide)]
    congr 1
    congr 1
    omega
  rw [kmk_pick_nat _ e]
  show (vs.drop 0).take (vs.toArray.size - 1 - 0) = _
  rw [List.drop_zero, Nat.sub_zero, List.size_toArray]
section
variable {prog : Program} {w : World} {A : Around} {E : Value → Shared → Prop} {s : Shared} {hS : Heap} {gS : Array GenState} {dS : Drawn} {tS : Nat} {oS : OsState} {h₀ : Heap} {L l l2 : Addr} {m : Str → Option Value} {news : Led} {value slice : PySem.Expr} {vs ws zs : List Value} {n n2 : Nat} {Q : Value → Shared → Prop}
theorem led_list (N : News h₀ L hS news) (hm : (l, listOf vs.toArray n) ∈ news) : hS.IsList l vs.toArray := ⟨_, (N _ hm).1, rfl, n, rfl⟩
theorem listcopy_led (F : Fr h₀ L hS m) (N : News h₀ L hS news) (hm : (l, listOf vs.toArray n) ∈ news) (hb : vs.length ≤ 1000)
    (h : ∀ D c h', Fr h₀ L h' m → News h₀ L h' ((D, listOf vs.toArray c) :: news) → Over news D → Q (.ref D) ⟨h', gS, dS, tS, oS⟩) : wpAny (model prog w) A (call (.type "list") [.ref l]) Q E ⟨hS, gS, dS, tS, oS⟩ :=
  list_copyK (s := ⟨hS, gS, dS, tS, oS⟩) F N (led_list N hm) h (by simp only [List.size_toArray, PySem.sizeLine_eq]; omega)
theorem add_led (F : Fr h₀ L hS m) (N : News h₀ L hS news) (hm : (l, listOf vs.toArray n) ∈ news) (hm2 : (l2, listOf ws.toArray n2) ∈ news) (hb : vs.length + ws.length ≤ 1000)
    (h : ∀ D h', Fr h₀ L h' m → News h₀ L h' ((D, listOf (vs ++ ws).toArray 0) :: news) → Over news D → Q (.ref D) ⟨h', gS, dS, tS, oS⟩) : wpAny (model prog w) A (binaryOp .Add (.ref l) (.ref l2)) Q E ⟨hS, gS, dS, tS, oS⟩ :=
  add_arrays (s := ⟨hS, gS, dS, tS, oS⟩) (hsz := by simp only [List.size_toArray, PySem.sizeLine_eq]; omega) F N (led_list N hm) (led_list N hm2) fun h' F' N' => h _ h' F' N' fun p hp => Heap.lt_size (N p hp).1
theorem rev_led {vk : Value} {ops : List Value} (F : Fr h₀ L hS m) (N : News h₀ L hS news) (hm : (l, listOf vs.toArray n) ∈ news) (hb : vs.length ≤ 1000) (pk : IsPart vk (some (-1)))
    (h : ∀ D h', Fr h₀ L h' m → News h₀ L h' ((D, listOf vs.reverse.toArray 0) :: news) → Over news D → Q (.ref D) ⟨h', gS, dS, tS, oS⟩)
    (hs : subscripted slice false (.ref l) (.ref hS.objs.size) = operate ops (getItem (.ref l) (.ref hS.objs.size))) (ht : ∀ r, letTemporaryGo value (.ref l) r = pure ()) :
    wpAny (model prog w) A (subscriptTail value slice (.ref l) (.ref hS.objs.size)) Q E ⟨hS.push { cls := .type "slice", data := .fields #[.none, .none, vk] }, gS, dS, tS, oS⟩ :=
  krv_lit (s := ⟨hS, gS, dS, tS, oS⟩) (its := vs.toArray) F N (led_list N hm) pk rfl h hs ht (by simp only [List.size_toArray, PySem.sizeLine_eq]; omega)
theorem cut_led {vl vu : Value} {lo hi : Option Int} (F : Fr h₀ L hS m) (N : News h₀ L hS news) (hm : (l, listOf vs.toArray n) ∈ news) (hb : vs.length ≤ 1000) (pl : IsPart vl lo) (pu : IsPart vu hi) (e : (slicePick vs.toArray lo hi none).toList = zs)
    (h : ∀ D h', Fr h₀ L h' m → News h₀ L h' ((D, listOf zs.toArray 0) :: news) → Over news D → Q (.ref D) ⟨h', gS, dS, tS, oS⟩)
    (hs : subscripted slice false (.ref l) (.ref hS.objs.size) = operate [.ref hS.objs.size, .ref l] (getItem (.ref l) (.ref hS.objs.size))) (ht : ∀ r, letTemporaryGo value (.ref l) r = pure ()) :
    wpAny (model prog w) A (subscriptTail value slice (.ref l) (.ref hS.objs.size)) Q E ⟨hS.push { cls := .type "slice", data := .fields #[vl, vu, .none] }, gS, dS, tS, oS⟩ :=
  kmk_slice_lit (s := ⟨hS, gS, dS, tS, oS⟩) (its := vs.toArray) F N (led_list N hm) pl pu e h hs ht (by simp only [List.size_toArray, PySem.sizeLine_eq]; omega)
end
example : True := by
  k_with "@call type:list" => ((k_here; (with_reducible show wpAny _ _ (call (Value.type _) [Value.ref _]) _ _ _); k_dflt (refine' listcopy_led ?k1 ?k2 ?k3 ?k4 ?_; (case k1 => k_asm); (case k2 => k_asm); (case k3 => k_mem); (case k4 => k_extra "my_bound"); k_whole); intro l9 c9 h9 F9 N9 o9; (try k_sweep)))
  trivial
example : True := by
  k_with "@binaryOp Add ref ref" => ((k_here; k_dflt (refine' add_led ?k1 ?k2 ?k3 ?k4 ?k5 ?_; (case k1 => k_asm); (case k2 => k_asm); (case k3 => k_mem); (case k4 => k_mem); (case k5 => k_extra "my_bound"); k_whole); intro l9 h9 F9 N9 o9; (try k_sweep)))
  trivial
example : True := by
  k_with "my_slice" => ((k_here; (with_reducible show wpAny _ _ (subscriptTail _ (PySem.Expr.Slice _ _ _ _) (Value.ref _) (Value.ref _)) _ _ _); k_dflt (first
  | (refine' rev_led ?k1 ?k2 ?k3 ?k4 ?k5 ?_ ?ks ?kt; (case k1 => k_asm); (case k2 => k_asm); (case k3 => k_mem); (case k4 => k_extra "my_bound"); (case k5 => exact IsPart.int _ _); (case ks => with_unfolding_all rfl); (case kt => kmk_pure); k_whole)
  | (refine' cut_led ?k1 ?k2 ?k3 ?k4 ?k5 ?k6 ?k7 ?_ ?ks ?kt; (case k1 => k_asm); (case k2 => k_asm); (case k3 => k_mem); (case k4 => k_extra "my_bound"); (case k5 => kmk_part); (case k6 => kmk_part); (case k7 => first | exact pick_but_last | exact pick_upto (by omega) | exact pick_from (by omega)); (case ks => with_unfolding_all rfl); (case kt => kmk_pure); k_whole)); intro l9 h9 F9 N9 o9; (try k_sweep)))
  trivial
example : True := by
  k_with "@subscriptTail Name Slice ref ref" => (k_extra "my_slice")
  trivial
example : True := by
  k_with "@subscriptTail Call Slice ref ref" => (k_extra "my_slice")
  trivial
example : True := by
  k_with "@subscriptTail Attribute Slice ref ref" => (k_extra "my_slice")
  trivial
example : True := by
  k_with "@subscriptTail" => (k_extra "my_slice")
  trivial
theorem News.sub {h₀ h : Heap} {L : Addr} {l l' : Led} (N : News h₀ L h l) (hs : ∀ p ∈ l', p ∈ l) : News h₀ L h l' := fun p hp => N p (hs p hp)
example : True := by
  k_with "my_chain" => ((first | with_reducible assumption | (refine' ChainIn.mono ?s ?c; (case c => with_reducible assumption); (case s => (intro p9 hp9; k_mem)))))
  trivial
theorem is_list_chain (w : World) (v : Value) (vs : List Value) (news : Led) (hc : ChainIn w news v vs) : Ret w 2 10 (.ref 214) [v] news (ValP (.bool true) news) := by
  cases hc with
  | nil => exact is_list_nil w news
  | cons hx hdX _ => exact is_list_cons w _ _ _ news hx hdX
example : True := by
  k_with "@call ref" => ((k_here; (with_reducible show wpAny _ _ (call (Value.ref 214) [_]) _ _ _); k_dflt ((refine' Ret.use (is_list_chain _ _ _ _ ?p1) K_val ?k1 ?k2 ?k3 ?k4 ?k5 ?kK ?kd ?ku ?_); k_extra "my_use"; (case p1 => k_extra "my_chain"); refine fun h9 tk9 F9 N9 => ?_;  (try dsimp only); (try k_fold))))
  trivial
theorem need_list_chain (w : World) (v : Value) (vs : List Value) (news : Led) (hc : ChainIn w news v vs) : Ret w 4 20 (.ref 228) [v] news (ValP v news) := by
  k_extra "my_enter"
  k_steps
  all_goals (k_extra "my_ret"; exact ⟨rfl, rfl⟩)
example : True := by
  k_with "@call ref" => ((k_here; (with_reducible show wpAny _ _ (call (Value.ref 228) [_]) _ _ _); k_dflt ((refine' Ret.use (need_list_chain _ _ _ _ ?p1) K_val ?k1 ?k2 ?k3 ?k4 ?k5 ?kK ?kd ?ku ?_); k_extra "my_use"; (case p1 => k_extra "my_chain"); refine fun h9 tk9 F9 N9 => ?_;  (try dsimp only); (try k_fold))))
  trivial
example : True := by
  k_with "@call ref" => ((k_here; (with_reducible show wpAny _ _ (call (Value.ref 200) [_]) _ _ _); k_dflt ((refine' Ret.use (split_list_ok _ _ _ _ ?p1 ?p2) K_split ?k1 ?k2 ?k3 ?k4 ?k5 ?kK ?kd ?ku ?_); k_extra "my_use"; (case p1 => k_extra "my_chain"); (case p2 => k_extra "my_bound"); refine fun t9 tl9 kk9 o9 l9 h9 tk9 F9 N9 => ?_;  (try dsimp only); (try k_fold))))
  trivial
abbrev ThingsP (vs : List Value) (news : Led) (r : Value) (n : Led) : Prop := ∃ l k, r = .ref l ∧ n = (l, listOf vs.toArray k) :: news ∧ Over news l
def KThings (vs : List Value) (news : Led) (P : Value → Led → Prop) : Prop := ∀ l k, Over news l → P (.ref l) ((l, listOf vs.toArray k) :: news)
theorem K_things {vs : List Value} {news : Led} : ∀ P, KThings vs news P → ∀ r n, ThingsP vs news r n → P r n := by
  rintro P h _ _ ⟨l, k, rfl, rfl, a⟩; exact h l k a
theorem things_of_chain (w : World) (v : Value) (vs : List Value) (news : Led) (hc : ChainIn w news v vs) (hb : vs.length ≤ 1000) : Ret w 12 120 (.ref 242) [v] news (ThingsP vs news) := by
  k_extra "my_enter"
  k_steps
  refine hret _ _ _ ((tl9, listOf vs.toArray kk9) :: news) (by k_asm) (News.sub (by k_asm) (by k_extra "my_sub")) ⟨_, _, rfl, rfl, o9⟩
example : True := by
  k_with "@call ref" => ((k_here; (with_reducible show wpAny _ _ (call (Value.ref 242) [_]) _ _ _); k_dflt ((refine' Ret.use (things_of_chain _ _ _ _ ?p1 ?p2) K_things ?k1 ?k2 ?k3 ?k4 ?k5 ?kK ?kd ?ku ?_); k_extra "my_use"; (case p1 => k_extra "my_chain"); (case p2 => k_extra "my_bound"); refine fun l9 kk9 o9 h9 tk9 F9 N9 => ?_;  (try dsimp only); (try k_fold))))
  trivial
/-- a sequence of one of the three sorts, as the ledger bears it -/
inductive SeqIn (w : World) (news : Led) : String → Value → List Value → Prop
  | list {v : Value} {vs : List Value} : ChainIn w news v vs → SeqIn w news "list" v vs
  | vec {x d l : Addr} {t1 : Tok} {n : Nat} {vs : List Value} : (x, instObj 125 d) ∈ news → (d, vecD w t1 (.ref l)) ∈ news → (l, listOf vs.toArray n) ∈ news → SeqIn w news "vector" (.ref x) vs
  | txt {x d l : Addr} {t1 t2 : Tok} {n : Nat} {vs : List Value} : (x, instObj 104 d) ∈ news → (d, txtD w t1 t2 (.ref l) .none) ∈ news → (l, listOf vs.toArray n) ∈ news → SeqIn w news "string" (.ref x) vs
theorem SeqIn.mono {w : World} {news news' : Led} (hs : ∀ p ∈ news, p ∈ news') {so : String} {v : Value} {vs : List Value} (h : SeqIn w news so v vs) : SeqIn w news' so v vs := by
  cases h with
  | list c => exact .list (c.mono hs)
  | vec a b c => exact .vec (hs _ a) (hs _ b) (hs _ c)
  | txt a b c => exact .txt (hs _ a) (hs _ b) (hs _ c)
theorem things_in_chain (w : World) (v : Value) (vs : List Value) (news : Led) (hc : ChainIn w news v vs) (hb : vs.length ≤ 1000) : Ret w 14 140 (.ref 331) [v] news (ThingsP vs news) := by
  have hc' := hc
  cases hc with
  | nil =>
    k_extra "my_enter"
    k_steps
    k_extra "my_ret"; exact ⟨_, _, rfl, rfl, o9⟩
  | cons hx hdX _ =>
    k_extra "my_enter"
    k_steps
    k_extra "my_ret"; exact ⟨_, _, rfl, rfl, o9⟩
theorem things_in_vec (w : World) (x d l : Addr) (t1 : Tok) (n : Nat) (vs : List Value) (news : Led) (hx : (x, instObj 125 d) ∈ news) (hdX : (d, vecD w t1 (.ref l)) ∈ news) (hl : (l, listOf vs.toArray n) ∈ news) (hb : vs.length ≤ 1000) :
    Ret w 14 140 (.ref 331) [.ref x] news (ThingsP vs news) := by
  k_extra "my_enter"
  k_steps
  k_extra "my_ret"; exact ⟨_, _, rfl, rfl, o9⟩
theorem things_in_txt (w : World) (x d l : Addr) (t1 t2 : Tok) (sp : Value) (n : Nat) (vs : List Value) (news : Led) (hx : (x, instObj 104 d) ∈ news) (hdX : (d, txtD w t1 t2 (.ref l) sp) ∈ news) (hl : (l, listOf vs.toArray n) ∈ news) (hb : vs.length ≤ 1000) :
    Ret w 14 140 (.ref 331) [.ref x] news (ThingsP vs news) := by
  k_extra "my_enter"
  k_steps
  k_extra "my_ret"; exact ⟨_, _, rfl, rfl, o9⟩
theorem things_in_seq (w : World) (so : String) (v : Value) (vs : List Value) (news : Led) (hs : SeqIn w news so v vs) (hb : vs.length ≤ 1000) : Ret w 14 140 (.ref 331) [v] news (ThingsP vs news) := by
  cases hs with
  | list c => exact things_in_chain w v vs news c hb
  | vec a b c => exact things_in_vec w _ _ _ _ _ vs news a b c hb
  | txt a b c => exact things_in_txt w _ _ _ _ _ _ _ vs news a b c hb
example : True := by
  k_with "my_seq" => ((first | with_reducible assumption | (refine' SeqIn.mono ?s ?c; (case c => with_reducible assumption); (case s => (intro p9 hp9; k_mem)))))
  trivial
example : True := by
  k_with "@call ref" => ((k_here; (with_reducible show wpAny _ _ (call (Value.ref 331) [_]) _ _ _); k_dflt ((refine' Ret.use (things_in_seq _ _ _ _ _ ?p1 ?p2) K_things ?k1 ?k2 ?k3 ?k4 ?k5 ?kK ?kd ?ku ?_); k_extra "my_use"; (case p1 => k_extra "my_seq"); (case p2 => k_extra "my_bound"); refine fun l9 kk9 o9 h9 tk9 F9 N9 => ?_;  (try dsimp only); (try k_fold))))
  trivial
example : True := by
  k_with "@call ref" => (k_extra "my code")
  trivial
theorem need_whole_int (w : World) (i : Int) (t : Tok) (news : Led) : Ret w 4 20 (.ref 235) [.int i t] news (ValP (.int i t) news) := by
  k_extra "my_enter"
  k_steps
  all_goals (k_extra "my_ret"; exact ⟨rfl, rfl⟩)
example : True := by
  k_with "@call ref" => ((k_here; (with_reducible show wpAny _ _ (call (Value.ref 235) [Value.int _ _]) _ _ _); k_dflt ((refine' Ret.use (need_whole_int _ _ _ _) K_val ?k1 ?k2 ?k3 ?k4 ?k5 ?kK ?kd ?ku ?_); k_extra "my_use";  refine fun h9 tk9 F9 N9 => ?_;  (try dsimp only); (try k_fold))))
  trivial
example : True := by
  k_with "@call ref" => ((k_here; (with_reducible show wpAny _ _ (call (Value.ref 310) [Value.int _ _]) _ _ _); k_dflt ((refine' Ret.use (is_code_int _ _ _ _) K_val ?k1 ?k2 ?k3 ?k4 ?k5 ?kK ?kd ?ku ?_); k_extra "my_use";  refine fun h9 tk9 F9 N9 => ?_;  (try dsimp only); (try k_fold))))
  trivial
theorem need_code_int (w : World) (i : Int) (t : Tok) (news : Led) (h0 : 0 ≤ i) (h1 : i ≤ 1000) : Ret w 6 40 (.ref 317) [.int i t] news (ValP (.int i t) news) := by
  have e : (decide (0 ≤ i) && decide (i ≤ 4194303)) = true := by simp; omega
  have C : Ret w 4 20 (.ref 310) [.int i t] news (ValP (.bool true) news) := by have q := is_code_int w i t news; rw [e] at q; exact q
  k_extra "my_enter"
  k_with "my code" => ((with_reducible show wpAny _ _ (call (Value.ref 310) _) _ _ _); k_dflt (refine' Ret.use C K_val ?k1 ?k2 ?k3 ?k4 ?k5 ?kK ?kd ?ku ?_); k_extra "my_use"; refine fun h9 tk9 F9 N9 => ?_; (try dsimp only); (try k_fold))
  k_steps
  all_goals (k_extra "my_ret"; exact ⟨rfl, rfl⟩)
theorem need_place_in (w : World) (v : Value) (p n : Int) (t u : Tok) (news : Led) (h0 : 0 ≤ p) (h1 : p < n) : Ret w 6 40 (.ref 343) [v, .int p t, .int n u] news (ValP (.int p t) news) := by
  k_extra "my_enter"
  k_steps
  all_goals (k_extra "my_ret"; exact ⟨rfl, rfl⟩)
theorem is_array_chain (w : World) (v : Value) (vs : List Value) (news : Led) (hc : ChainIn w news v vs) : Ret w 4 20 (.ref 324) [v] news (ValP (.bool false) news) := by
  cases hc with
  | nil =>
    k_extra "my_enter"
    k_steps
    all_goals (refine hret _ _ _ news (by k_asm) (News.sub (by k_asm) (by k_extra "my_sub")) ⟨rfl, rfl⟩)
  | cons hx hdX _ =>
    k_extra "my_enter"
    k_steps
    all_goals (refine hret _ _ _ news (by k_asm) (News.sub (by k_asm) (by k_extra "my_sub")) ⟨rfl, rfl⟩)
theorem is_array_vec (w : World) (x d : Addr) (o : Obj) (news : Led) (hx : (x, instObj 125 d) ∈ news) (hdX : (d, o) ∈ news) : Ret w 4 20 (.ref 324) [.ref x] news (ValP (.bool true) news) := by
  k_extra "my_enter"
  k_steps
  all_goals (refine hret _ _ _ news (by k_asm) (News.sub (by k_asm) (by k_extra "my_sub")) ⟨rfl, rfl⟩)
theorem is_array_txt (w : World) (x d : Addr) (o : Obj) (news : Led) (hx : (x, instObj 104 d) ∈ news) (hdX : (d, o) ∈ news) : Ret w 4 20 (.ref 324) [.ref x] news (ValP (.bool true) news) := by
  k_extra "my_enter"
  k_steps
  all_goals (refine hret _ _ _ news (by k_asm) (News.sub (by k_asm) (by k_extra "my_sub")) ⟨rfl, rfl⟩)
theorem chain_cdr {w : World} {news : Led} {v : Value} {vs : List Value} (h : ChainIn w news v vs) (hl : vs.length ≠ 0) : ∃ x d t1 t2 i t a r, v = .ref x ∧ vs = .int i t :: r ∧ (x, instObj 82 d) ∈ news ∧ (d, consD w t1 t2 (.int i t) (.ref a)) ∈ news ∧ ChainIn w news (.ref a) r := by
  cases h with
  | nil => exact absurd rfl hl
  | cons hx hdX hr => obtain ⟨a, rfl⟩ := hr.ref; exact ⟨_, _, _, _, _, _, _, _, rfl, rfl, hx, hdX, hr⟩
theorem chain_nil {w : World} {news : Led} {v : Value} {vs : List Value} (h : ChainIn w news v vs) (hl : vs.length = 0) : v = .ref 64 ∧ vs = [] := by
  cases h with
  | nil => exact ⟨rfl, rfl⟩
  | cons => simp at hl
theorem drop_of {vs r : List Value} {v : Value} {i : Nat} (h : vs.drop i = v :: r) : vs.drop (i + 1) = r := by rw [← List.tail_drop, h]; rfl
def RingJ (w : World) (vs : List Value) (news : Led) (k : Nat) (m' : Str → Option Value) (n' : Led) : Prop :=
  n' = news ∧ ∃ sv fv i, Has m' [("slow", .ref sv), ("fast", .ref fv)] ∧ ChainIn w news (.ref sv) (vs.drop i) ∧ ChainIn w news (.ref fv) (vs.drop (2 * i)) ∧ k = vs.length - 2 * i
theorem ring_ar {a b i : Nat} (h : a + 1 + 1 = b - 2 * i) : b - i ≠ 0 ∧ b - (i + 1) ≠ a ∧ b - 2 * (i + 1) < b - 2 * i := by omega
theorem RingJ.elim {w : World} {vs : List Value} {news n₁ : Led} {k : Nat} {m₁ : Str → Option Value} {h₀ h₁ : Heap} {L : Addr} {G : Prop} (hJ : RingJ w vs news k m₁ n₁) (F : Fr h₀ L h₁ m₁) (N : News h₀ L h₁ n₁)
    (hnil : ∀ m₂ sv, Fr h₀ L h₁ (Mine.ups [("slow", .ref sv), ("fast", .ref 64)] m₂) → News h₀ L h₁ news → G)
    (hone : ∀ m₂ sv fv d t1 t2 v, Fr h₀ L h₁ (Mine.ups [("slow", .ref sv), ("fast", .ref fv)] m₂) → News h₀ L h₁ news → (fv, instObj 82 d) ∈ news → (d, consD w t1 t2 v (.ref 64)) ∈ news → G)
    (htwo : ∀ m₂ sv fv d t1 t2 v x2 d2 u1 u2 v2 a' e s1 s2 v3 b' fs ss k', Fr h₀ L h₁ (Mine.ups [("slow", .ref sv), ("fast", .ref fv)] m₂) → News h₀ L h₁ news → (fv, instObj 82 d) ∈ news → (d, consD w t1 t2 v (.ref x2)) ∈ news → (x2, instObj 82 d2) ∈ news → (d2, consD w u1 u2 v2 (.ref a')) ∈ news →
      (sv, instObj 82 e) ∈ news → (e, consD w s1 s2 v3 (.ref b')) ∈ news → ChainIn w news (.ref b') ss → ChainIn w news (.ref a') fs → ss.length ≠ fs.length → k' < k → (∀ m', Has m' [("slow", .ref b'), ("fast", .ref a')] → RingJ w vs news k' m' news) → G) : G := by
  obtain ⟨rfl, sv, fv, i, hM, hS, hF, rfl⟩ := hJ
  obtain ⟨m₂, rfl⟩ := hM.ups
  generalize hf : vs.drop (2 * i) = fs at hF
  cases hF with
  | nil => exact hnil _ _ F N
  | @cons v1 fs x d t1 t2 t0 i0 hx hdX hr =>
    cases hr with
    | nil => exact hone _ _ _ _ _ _ _ F N hx hdX
    | @cons v2 fs x2 d2 u1 u2 u0 i2 hx2 hd2 hr2 =>
      obtain ⟨a', rfl⟩ := hr2.ref
      have hf2 : vs.drop (2 * (i + 1)) = fs := by rw [Nat.mul_add, ← List.tail_drop, drop_of hf]; rfl
      have hlen := congrArg List.length hf
      rw [List.length_drop, List.length_cons, List.length_cons] at hlen
      have har := ring_ar hlen.symm
      obtain ⟨y, e, s1, s2, j0, w0, b', ss, e1, e2, hy, he, hs⟩ := chain_cdr hS (by rw [List.length_drop]; exact har.1)
      obtain rfl : sv = y := Value.ref.inj e1
      have hss : vs.drop (i + 1) = ss := drop_of e2
      have hsl : ss.length = vs.length - (i + 1) := by rw [← hss, List.length_drop]
      exact htwo _ _ _ _ _ _ _ _ _ _ _ _ _ _ _ _ _ _ _ _ _ F N hx hdX hx2 hd2 hy he hs hr2 (hsl ▸ har.2.1) har.2.2 fun m' hm' => ⟨rfl, b', a', i + 1, hm', hss.symm ▸ hs, hf2.symm ▸ hr2, rfl⟩
theorem ring_of_chain (w : World) (v : Value) (vs : List Value) (news : Led) (hc : ChainIn w news v vs) : Ret w 10 100 (.ref 296) [v] news (ValP .none news) := by
  obtain ⟨va, rfl⟩ := hc.ref
  k_extra "my_enter"
  have hStopWhile : StopWhile := .mk
  k_steps
  rename Fr _ _ _ _ => lF
  rename News _ _ _ _ => lN
  refine While_inv (RingJ w vs news) lF (News.sub lN (by k_extra "my_sub")) ⟨rfl, va, va, 0, ⟨rfl, rfl, trivial⟩, hc, hc, rfl⟩ ?_
  intro k m₁ n₁ h₁ tk₁ F₁ N₁ hJ
  clear lF lN
  refine hJ.elim F₁ N₁ (fun m₂ sv F₂ N₂ => ?_) (fun m₂ sv fv d t1 t2 v F₂ N₂ hx hdX => ?_) fun m₂ sv fv d t1 t2 v x2 d2 u1 u2 v2 a' e s1 s2 v3 b' fs ss k' F₂ N₂ hx hdX hx2 hd2 hy he hs hr2 hne hlt hnx => ?_
  · clear F₁ N₁ hJ
    k_steps
    k_extra "my_ret"
    exact ⟨rfl, rfl⟩
  · clear F₁ N₁ hJ
    k_steps
    k_extra "my_ret"
    exact ⟨rfl, rfl⟩
  · clear F₁ N₁ hJ
    k_steps
    refine While_next (news₂ := news) (by k_asm) (News.sub (by k_asm) (by k_extra "my_sub")) hlt ?_
    exact hnx _ ⟨rfl, rfl, trivial⟩
section
variable {M : Model} {w : World} {A : Around} {E : Value → Shared → Prop} {s : Shared} {h₀ : Heap} {L x d : Addr} {m : Str → Option Value} {news : Led} {Q : Value → Shared → Prop}
theorem cons_nil (X : (hd.heap_39 w.params).In h₀) (F : Fr h₀ L s.heap m) (N : News h₀ L s.heap news) (hx : (x, instObj 82 d) ∈ news) : (x : Addr) ≠ 64 ∧ s.heap.get? x = some (instObj 82 d) ∧ ∃ o, s.heap.get? 64 = some o := by
  obtain ⟨o, ho, _⟩ := nil_obj X
  refine ⟨fun e => ?_, (N _ hx).1, o, F.keep _ _ ho⟩
  have := (N _ hx).2.2; rw [show (x, instObj 82 d).1 = 64 from e, ho] at this; cases this
theorem isnot_nil_cons (X : (hd.heap_39 w.params).In h₀) (F : Fr h₀ L s.heap m) (N : News h₀ L s.heap news) (hx : (x, instObj 82 d) ∈ news) (h : Q (.bool true) s) : wpAny M A (compareOp .IsNot (.ref x) (.ref 64)) Q E s := by
  obtain ⟨hne, h1, o, h2⟩ := cons_nil X F N hx
  exact kto_isnot h1 h2 hne (by intro e; cases e) h
theorem is_nil_cons (X : (hd.heap_39 w.params).In h₀) (F : Fr h₀ L s.heap m) (N : News h₀ L s.heap news) (hx : (x, instObj 82 d) ∈ news) (h : Q (.bool false) s) : wpAny M A (compareOp .Is (.ref x) (.ref 64)) Q E s := by
  obtain ⟨hne, h1, o, h2⟩ := cons_nil X F N hx
  exact kto_is h1 h2 hne (by intro e; cases e) h
end
example : True := by
  k_with "@compareOp IsNot ref ref" => ((k_here; k_dflt (refine' isnot_nil_cons ?k1 ?k2 ?k3 ?k4 ?_; (case k1 => k_asm); (case k2 => k_asm); (case k3 => k_asm); (case k4 => k_mem); k_whole)))
  trivial
example : True := by
  k_with "@compareOp Is ref ref" => ((k_here; k_dflt (refine' is_nil_cons ?k1 ?k2 ?k3 ?k4 ?_; (case k1 => k_asm); (case k2 => k_asm); (case k3 => k_asm); (case k4 => k_mem); k_whole)))
  trivial
theorem need_list_cons (w : World) (x d : Addr) (o : Obj) (news : Led) (hx : (x, instObj 82 d) ∈ news) (hdX : (d, o) ∈ news) : Ret w 4 20 (.ref 228) [.ref x] news (ValP (.ref x) news) := by
  k_extra "my_enter"
  k_with "my code" => ((with_reducible show wpAny _ _ (call (Value.ref 214) _) _ _ _); k_dflt (refine' Ret.use (is_list_cons w x d o news hx hdX) K_val ?k1 ?k2 ?k3 ?k4 ?k5 ?kK ?kd ?ku ?_); k_extra "my_use"; refine fun h9 tk9 F9 N9 => ?_; (try dsimp only); (try k_fold))
  k_steps
  all_goals (k_extra "my_ret"; exact ⟨rfl, rfl⟩)
theorem cdr_of_cons (w : World) (x d a2 : Addr) (t1 t2 : Tok) (v1 : Value) (news : Led) (hx : (x, instObj 82 d) ∈ news) (hdX : (d, consD w t1 t2 v1 (.ref a2)) ∈ news) : Ret w 6 40 (.ref 249) [.ref x] news (ValP (.ref a2) news) := by
  k_extra "my_enter"
  k_with "my code" => ((with_reducible show wpAny _ _ (call (Value.ref 228) _) _ _ _); k_dflt (refine' Ret.use (need_list_cons w x d _ news hx hdX) K_val ?k1 ?k2 ?k3 ?k4 ?k5 ?kK ?kd ?ku ?_); k_extra "my_use"; refine fun h9 tk9 F9 N9 => ?_; (try dsimp only); (try k_fold))
  k_steps
  k_extra "my_ret"
  exact ⟨rfl, rfl⟩
example : True := by
  k_with "@call ref" => ((k_here; (with_reducible show wpAny _ _ (call (Value.ref 296) [_]) _ _ _); k_dflt ((refine' Ret.use (ring_of_chain _ _ _ _ ?p1) K_val ?k1 ?k2 ?k3 ?k4 ?k5 ?kK ?kd ?ku ?_); k_extra "my_use"; (case p1 => k_extra "my_chain"); refine fun h9 tk9 F9 N9 => ?_;  (try dsimp only); (try k_fold))))
  trivial
example : True := by
  k_with "@call ref" => ((k_here; (with_reducible show wpAny _ _ (call (Value.ref 249) [_]) _ _ _); k_dflt ((refine' Ret.use (cdr_of_cons _ _ _ _ _ _ _ _ ?p1 ?p2) K_val ?k1 ?k2 ?k3 ?k4 ?k5 ?kK ?kd ?ku ?_); k_extra "my_use"; (case p1 => k_mem); (case p2 => k_mem); refine fun h9 tk9 F9 N9 => ?_;  (try dsimp only); (try k_fold))))
  trivial
abbrev RestP (w : World) (vs : List Value) (p : Int) (news : Led) (r : Value) (n : Led) : Prop := ∃ a, r = .ref a ∧ ChainIn w news (.ref a) (vs.drop p.toNat) ∧ n = news
def KRest (w : World) (vs : List Value) (p : Int) (news : Led) (P : Value → Led → Prop) : Prop := ∀ a, ChainIn w news (.ref a) (vs.drop p.toNat) → P (.ref a) news
theorem K_rest {w : World} {vs : List Value} {p : Int} {news : Led} : ∀ P, KRest w vs p news P → ∀ r n, RestP w vs p news r n → P r n := by
  rintro P h _ _ ⟨a, rfl, c, rfl⟩; exact h a c
def RestJ (w : World) (vs : List Value) (p : Int) (news : Led) (k : Nat) (m' : Str → Option Value) (n' : Led) : Prop :=
  n' = news ∧ ∃ a i tk, Has m' [("left", .int (p - (i : Nat)) tk), ("here", .ref a)] ∧ ChainIn w news (.ref a) (vs.drop i) ∧ i ≤ p.toNat ∧ k = vs.length - i
theorem rest_ar {p : Int} {a b i : Nat} (h : b - i = a + 1) (hp : p - (i : Nat) > 0) : b - (i + 1) < b - i ∧ i + 1 ≤ p.toNat := by omega
theorem rest_ar0 {p : Int} {b i : Nat} (h : b - i = 0) (hp : p - (i : Nat) > 0) : b ≤ p.toNat := by omega
theorem rest_ar1 {p : Int} {i : Nat} (h : i ≤ p.toNat) (hp : ¬ p - (i : Nat) > 0) : p.toNat = i := by omega
theorem rest_ar2 {p : Int} {i : Nat} : p - ((i + 1 : Nat) : Int) = p - (i : Nat) - 1 := by omega
theorem RestJ.elim {w : World} {vs : List Value} {p : Int} {news n₁ : Led} {k : Nat} {m₁ : Str → Option Value} {h₀ h₁ : Heap} {L : Addr} {G : Prop} (hJ : RestJ w vs p news k m₁ n₁) (F : Fr h₀ L h₁ m₁) (N : News h₀ L h₁ n₁)
    (hend : ∀ m₂ a q tk, Fr h₀ L h₁ (Mine.ups [("left", .int q tk), ("here", .ref a)] m₂) → News h₀ L h₁ news → ¬ q > 0 → ChainIn w news (.ref a) (vs.drop p.toNat) → G)
    (hnil : ∀ m₂ q tk, Fr h₀ L h₁ (Mine.ups [("left", .int q tk), ("here", .ref 64)] m₂) → News h₀ L h₁ news → q > 0 → ChainIn w news (.ref 64) (vs.drop p.toNat) → G)
    (hcons : ∀ m₂ a q tk d t1 t2 v a' k', Fr h₀ L h₁ (Mine.ups [("left", .int q tk), ("here", .ref a)] m₂) → News h₀ L h₁ news → q > 0 → (a, instObj 82 d) ∈ news → (d, consD w t1 t2 v (.ref a')) ∈ news → k' < k → (∀ m' tk', Has m' [("left", .int (q - 1) tk'), ("here", .ref a')] → RestJ w vs p news k' m' news) → G) : G := by
  obtain ⟨rfl, a1, i, tk, hM, hS, hi, rfl⟩ := hJ
  obtain ⟨m₂, rfl⟩ := hM.ups
  by_cases hp : p - (i : Nat) > 0
  · generalize hf : vs.drop i = fs at hS
    have hlen := congrArg List.length hf
    rw [List.length_drop] at hlen
    cases hS with
    | nil => exact hnil _ _ _ F N hp (by rw [List.drop_eq_nil_of_le (rest_ar0 hlen hp)]; exact .nil)
    | @cons v1 fs x d t1 t2 t0 i0 hx hdX hr =>
      obtain ⟨a', rfl⟩ := hr.ref
      have har := rest_ar hlen hp
      exact hcons _ _ _ _ _ _ _ _ _ _ F N hp hx hdX har.1 fun m' tk' hm' => ⟨rfl, a', i + 1, tk', rest_ar2.symm ▸ hm', (drop_of hf).symm ▸ hr, har.2, rfl⟩
  · exact hend _ _ _ _ F N hp ((rest_ar1 hi hp).symm ▸ hS)
theorem rest_at_chain (w : World) (p : Int) (t : Tok) (v : Value) (vs : List Value) (news : Led) (hc : ChainIn w news v vs) (hb : vs.length ≤ 1000) :
    Ret w 20 200 (.ref 303) [.int p t, v] news (RestP w vs p news) := by
  obtain ⟨va, rfl⟩ := hc.ref
  k_extra "my_enter"
  have hStopWhile : StopWhile := .mk
  k_steps
  rename Fr _ _ _ _ => lF
  rename News _ _ _ _ => lN
  refine While_inv (RestJ w vs p news) lF lN ⟨rfl, va, 0, t, ⟨by rw [show p - ((0 : Nat) : Int) = p by simp]; rfl, rfl, trivial⟩, hc, Nat.zero_le _, rfl⟩ ?_
  intro k m₁ n₁ h₁ tk₁ F₁ N₁ hJ
  clear lF lN
  refine hJ.elim F₁ N₁ (fun m₂ a q tk F₂ N₂ hp hq => ?_) (fun m₂ q tk F₂ N₂ hp hq => ?_) fun m₂ a q tk d t1 t2 v a' k' F₂ N₂ hp hx hdX hlt hnx => ?_
  · clear F₁ N₁ hJ
    k_steps
    k_extra "my_ret"
    exact ⟨_, rfl, hq, rfl⟩
  · clear F₁ N₁ hJ
    k_steps
    k_extra "my_ret"
    exact ⟨_, rfl, hq, rfl⟩
  · clear F₁ N₁ hJ
    k_steps
    refine While_next (by k_asm) (by k_asm) hlt ?_
    exact hnx _ _ ⟨rfl, rfl, trivial⟩
example : True := by
  k_with "@call ref" => ((k_here; (with_reducible show wpAny _ _ (call (Value.ref 317) [Value.int _ _]) _ _ _); k_dflt ((refine' Ret.use (need_code_int _ _ _ _ ?p1 ?p2) K_val ?k1 ?k2 ?k3 ?k4 ?k5 ?kK ?kd ?ku ?_); k_extra "my_use"; (case p1 => k_extra "my_int"); (case p2 => k_extra "my_int"); refine fun h9 tk9 F9 N9 => ?_;  (try dsimp only); (try k_fold))))
  trivial
section
variable {prog : Program} {w : World} {A : Around} {s : Shared} {hS : Heap} {gS : Array GenState} {dS : Drawn} {tS : Nat} {oS : OsState} {h₀ : Heap} {L : Addr} {m : Str → Option Value} {env : Env}
/-- a comprehension's turns by an invariant over the made list and the ledger -/
theorem compJ {elt : Expr} {x : Str} {scope : Scope} {cl : List (Str × Addr)} {S : Led → Prop} {P : Nat → Value → Prop} {Fin : List Value → Led → Prop} {n : Nat} (J : Nat → List Value → Led → Prop)
    (turn : ∀ i ys news v I oI C oC D m₂ h tk (E' : Value → Shared → Prop), i < n → J i ys news → P i v → LCg.NsObj oC m₂ → m₂ x = some v → Fr h₀ L h m → News h₀ L h ((I, oI) :: (C, oC) :: (D, LCg.lst ys) :: news) → LCg.Off3 I C D news → ((@Ne Nat I C) ∧ (@Ne Nat I D) ∧ (@Ne Nat C D)) →
      wpAny (model prog w) A (eval elt (compEnvC scope cl C env)) (LCg.CompEnd h₀ L m ⟨h, gS, dS, tk, oS⟩ I oI C oC D (LCg.lst ys) S (fun y news' => J (i + 1) (ys ++ [y]) news')) E' ⟨h, gS, dS, tk, oS⟩)
    (fin : ∀ ys news, J n ys news → Fin ys news) : ∀ k i ys news, i + k = n → J i ys news → LCg.CompRest prog w A h₀ L m env elt x scope cl ⟨hS, gS, dS, tS, oS⟩ S P Fin k i ys news := by
  intro k
  induction k with
  | zero => intro i ys news hi j; obtain rfl : i = n := by omega
            exact .zero (fin _ _ j)
  | succ k ih =>
    intro i ys news hi j
    refine .succ fun v I oI C oC D m₂ h tk E' hP ho hm F N off ne => ?_
    refine wpAny_mono (turn i ys news v I oI C oC D m₂ h tk E' (by omega) j hP ho hm F N off ne) (fun y s₂ hy => ?_) fun _ _ e => e
    obtain ⟨h', tk', news', e, F', N', o', hS, j'⟩ := hy
    exact ⟨h', tk', news', e, F', N', o', hS, ih _ _ _ (by omega) j'⟩
theorem off_one {D : Addr} : ∀ {l : Led}, LCg.Off1 D l → ∀ p ∈ l, p.1 ≠ D
  | [], _, _, h => nomatch h
  | _ :: _, x, p, h => by
    rcases List.mem_cons.mp h with rfl | h
    · exact x.1
    · exact off_one x.2 p h
end
example : True := by
  k_with "@eval ListComp" => (k_extra "my comp")
  trivial
example : True := by
  k_with "my_comp" => ((k_dflt (refine LCg.ListComp_U (F₀ := by k_asm) (by with_unfolding_all rfl) (by decide) (by rfl) (by decide) (by rfl) ?_)))
  trivial
example : True := by
  k_with "@CompSrc" => (k_extra "my src")
  trivial
theorem ints_at {vs : List Value} {ns : List Int} (h : IntsAre vs ns) {i : Nat} {v : Value} (hv : vs[i]? = some v) : ∃ n t, n ∈ ns ∧ v = .int n t := by
  induction h generalizing i with
  | nil => simp at hv
  | cons n t _ ih =>
    cases i with
    | zero => exact ⟨n, t, .head _, by simpa using hv.symm⟩
    | succ i => obtain ⟨n', t', hm, e⟩ := ih (i := i) (by simpa using hv); exact ⟨n', t', .tail _ hm, e⟩
example : True := by
  k_with "@call ref" => ((k_here; (with_reducible show wpAny _ _ (call (Value.ref 104) [_]) _ _ _); k_dflt ((refine' Ret.use (mkText1 _ _ _) K_txt ?k1 ?k2 ?k3 ?k4 ?k5 ?kK ?kd ?ku ?_); k_extra "my_use";  refine fun x9 d9 t91 t92 o9 l9 h9 tk9 F9 N9 => ?_;  (try dsimp only); (try k_fold))))
  trivial
example : True := by
  k_with "@call ref" => ((k_here; (with_reducible show wpAny _ _ (call (Value.ref 104) [_, _]) _ _ _); k_dflt ((refine' Ret.use (mkText2 _ _ _ _) K_txt ?k1 ?k2 ?k3 ?k4 ?k5 ?kK ?kd ?ku ?_); k_extra "my_use";  refine fun x9 d9 t91 t92 o9 l9 h9 tk9 F9 N9 => ?_;  (try dsimp only); (try k_fold))))
  trivial
example : True := by
  k_with "@call ref" => ((k_here; (with_reducible show wpAny _ _ (call (Value.ref 125) [_]) _ _ _); k_dflt ((refine' Ret.use (mkVector _ _ _) K_vec ?k1 ?k2 ?k3 ?k4 ?k5 ?kK ?kd ?ku ?_); k_extra "my_use";  refine fun x9 d9 t91 o9 l9 h9 tk9 F9 N9 => ?_;  (try dsimp only); (try k_fold))))
  trivial
/-- nothing of the one lies where the other does -/
abbrev Apart (cs news : Led) : Prop := ∀ p ∈ cs, ∀ q ∈ news, p.1 ≠ q.1
theorem Apart.nil {news : Led} : Apart [] news := List.forall_mem_nil _
theorem Apart.cons {news cs : Led} {a : Addr} {o : Obj} (h : ∀ q ∈ news, q.1 ≠ a) (r : Apart cs news) : Apart ((a, o) :: cs) news := List.forall_mem_cons.mpr ⟨fun q hq e => h q hq e.symm, r⟩
theorem Apart.over {news cs : Led} {a : Addr} {o : Obj} (h : Over news a) (r : Apart cs news) : Apart ((a, o) :: cs) news := .cons (ne_of_over h) r
theorem Over.sub {news news' : Led} {a : Addr} (h : Over news a) (hs : ∀ p ∈ news', p ∈ news) : Over news' a := fun p hp => h p (hs p hp)
theorem Over.lt {news : Led} {a b : Addr} (h : Over news a) (hl : @LT.lt Nat _ a b) : Over news b := fun p hp => Nat.lt_trans (h p hp) hl
theorem Fresh.apart {cs news : Led} (h : Fresh cs news) : Apart cs news := fun p hp q hq e => absurd (h p hp q hq) (e ▸ Nat.lt_irrefl _)
/-- what a deed hands on that tells a new sequence -/
abbrev NewSeq (w : World) (so : String) (vs : List Value) (news : Led) (r : Value) (n' : Led) : Prop := ∃ cs, n' = cs ++ news ∧ SeqIn w cs so r vs ∧ Apart cs news
def KNew (w : World) (so : String) (vs : List Value) (news : Led) (P : Value → Led → Prop) : Prop := ∀ r cs, SeqIn w cs so r vs → Apart cs news → P r (cs ++ news)
theorem K_new {w : World} {so : String} {vs : List Value} {news : Led} : ∀ P, KNew w so vs news P → ∀ r n, NewSeq w so vs news r n → P r n := by
  rintro P h r _ ⟨cs, rfl, a, b⟩; exact h r cs a b
theorem alike_txt (w : World) (x d l : Addr) (o : Obj) (k : Nat) (vs : List Value) (ns : List Int) (rest : Led) (hx : (x, instObj 104 d) ∈ rest) (hdd : (d, o) ∈ rest) (hi : IntsAre vs ns) (hb : vs.length ≤ 1000) (hn : ∀ n ∈ ns, 0 ≤ n ∧ n ≤ 1000) (hO : ∀ p ∈ rest, p.1 ≠ l) :
    Ret w 12 140 (.ref 336) [.ref x, .ref l] ((l, listOf vs.toArray k) :: rest) (NewSeq w "string" vs rest) := by
  k_extra "my_enter"
  have hStopComp : StopComp := .mk
  have hStopSrc : StopSrc := .mk
  k_steps
  k_extra "my_comp"
  k_steps
  rename Fr _ _ _ _ => lF
  rename News _ _ _ _ => lN
  refine LCg.CompSrc.ledger rfl lF lN (List.mem_cons_self) (by simp only [List.size_toArray, PySem.sizeLine_eq]; omega) (fun g => compJ (fun i ys nw => nw = (l, listOf vs.toArray k) :: rest ∧ ys = vs.take i) ?turn ?fin _ 0 [] _ (Nat.zero_add _) ⟨rfl, rfl⟩)
  case turn =>
    rintro i ys nw v I oI C oC D m₂ h tk E' hi9 ⟨rfl, rfl⟩ hP ho hm F9 N9 off ne
    have hP' : vs[i]? = some v := by simpa using hP
    obtain ⟨n, t, hni, rfl⟩ := ints_at hi hP'
    have hr := hn n hni
    clear lF lN
    k_steps
    refine LCg.CompEnd.intro (by k_asm) (by k_asm) _ (fun p hp => hp) off (.inr ⟨_, List.mem_cons_self, rfl, _, rfl⟩) ⟨rfl, ?_⟩
    rw [List.take_add_one, hP']; rfl
  case fin =>
    rintro ys nw ⟨rfl, rfl⟩
    rw [show vs.toArray.size = vs.length by simp, List.take_length]
    clear lF lN
    intro D h tk F9 N9 o1
    have o9' := off_one o1
    try dsimp only
    k_steps
    have hO9 : Over rest d9 := Over.sub o9 fun p hp => .tail _ (.tail _ hp)
    k_extra "my_ret"
    refine ⟨(x9, _) :: (d9, _) :: (D, _) :: (l, _) :: [], rfl, .txt (List.mem_cons_self) (.tail _ (.head _)) (.tail _ (.tail _ (.head _))), .over (hO9.lt l9) (.over hO9 (.cons (fun p hp => o9' p (.tail _ hp)) (.cons hO .nil)))⟩
theorem alike_vec (w : World) (x d l : Addr) (o : Obj) (k : Nat) (vs : List Value) (rest : Led) (hx : (x, instObj 125 d) ∈ rest) (hdd : (d, o) ∈ rest) (hO : ∀ p ∈ rest, p.1 ≠ l) :
    Ret w 12 140 (.ref 336) [.ref x, .ref l] ((l, listOf vs.toArray k) :: rest) (NewSeq w "vector" vs rest) := by
  k_extra "my_enter"
  k_steps
  have hO9 : Over rest d9 := Over.sub o9 fun p hp => .tail _ hp
  k_extra "my_ret"
  refine ⟨(x9, _) :: (d9, _) :: (l, _) :: [], rfl, .vec (List.mem_cons_self) (.tail _ (.head _)) (.tail _ (.tail _ (.head _))), .over (hO9.lt l9) (.over hO9 (.cons hO .nil))⟩
example : True := by
  k_with "@call ref" => ((k_here; (with_reducible show wpAny _ _ (call (Value.ref 193) [_]) _ _ _); k_dflt ((refine' Ret.use (list_of1 _ _ _ _ _ ?p1 ?p2) K_listof ?k1 ?k2 ?k3 ?k4 ?k5 ?kK ?kd ?ku ?_); k_extra "my_use"; (case p1 => k_mem); (case p2 => k_extra "my_bound"); refine fun r9 cs9 hC9 hF9 h9 tk9 F9 N9 => ?_;  (try dsimp only); (try k_fold))))
  trivial
theorem alike_list (w : World) (v : Value) (ws : List Value) (l : Addr) (k : Nat) (vs : List Value) (ns : List Int) (rest : Led) (hc : ChainIn w rest v ws) (hi : IntsAre vs ns) (hb : vs.length ≤ 1000) (hO : ∀ p ∈ rest, p.1 ≠ l) :
    Ret w 12 140 (.ref 336) [v, .ref l] ((l, listOf vs.toArray k) :: rest) (NewSeq w "list" vs rest) := by
  cases hc with
  | nil =>
    k_extra "my_enter"
    k_steps
    k_extra "my_ret"
    refine ⟨cs9 ++ [(l, listOf vs.toArray k)], by simp, .list (hC9.chain hi fun p hp => List.mem_append_left _ hp), fun p hp => ?_⟩
    rcases List.mem_append.mp hp with hp | hp
    · exact fun q hq => (Fresh.apart hF9) p hp q (.tail _ hq)
    · rw [List.mem_singleton.mp hp]; exact fun q hq e => hO q hq e.symm
  | cons hx hdd hr =>
    k_extra "my_enter"
    k_steps
    k_extra "my_ret"
    refine ⟨cs9 ++ [(l, listOf vs.toArray k)], by simp, .list (hC9.chain hi fun p hp => List.mem_append_left _ hp), fun p hp => ?_⟩
    rcases List.mem_append.mp hp with hp | hp
    · exact fun q hq => (Fresh.apart hF9) p hp q (.tail _ hq)
    · rw [List.mem_singleton.mp hp]; exact fun q hq e => hO q hq e.symm
theorem alike_seq (w : World) (so : String) (v : Value) (ws : List Value) (l : Addr) (k : Nat) (vs : List Value) (ns : List Int) (rest : Led) (hs : SeqIn w rest so v ws) (hi : IntsAre vs ns) (hb : vs.length ≤ 1000) (hn : ∀ n ∈ ns, 0 ≤ n ∧ n ≤ 1000) (hO : ∀ p ∈ rest, p.1 ≠ l) :
    Ret w 12 140 (.ref 336) [v, .ref l] ((l, listOf vs.toArray k) :: rest) (NewSeq w so vs rest) := by
  cases hs with
  | list c => exact alike_list w v ws l k vs ns rest c hi hb hO
  | vec a b _ => exact alike_vec w _ _ l _ k vs rest a b hO
  | txt a b _ => exact alike_txt w _ _ l _ k vs ns rest a b hi hb hn hO
theorem IntsAre.rev {vs : List Value} {ns : List Int} (h : IntsAre vs ns) : IntsAre vs.reverse ns.reverse := by
  induction h with
  | nil => exact .nil
  | cons n t _ ih => rw [List.reverse_cons, List.reverse_cons]; exact IntsAre.append ih (.cons n t .nil)
theorem NewSeq.mk {w : World} {so : String} {vs : List Value} {news : Led} {r : Value} (cs : Led) (h1 : SeqIn w cs so r vs) (h2 : Apart cs news) : NewSeq w so vs news r (cs ++ news) := ⟨cs, rfl, h1, h2⟩
theorem NewSeq.mid {w : World} {so : String} {vs : List Value} {news : Led} {r : Value} {mid cs : Led} (h1 : SeqIn w cs so r vs) (h2 : Apart cs (mid ++ news)) (h3 : Apart mid news) : NewSeq w so vs news r (cs ++ (mid ++ news)) := by
  refine ⟨cs ++ mid, by simp, h1.mono fun p hp => List.mem_append_left _ hp, fun p hp => ?_⟩
  rcases List.mem_append.mp hp with hp | hp
  · exact fun q hq => h2 p hp q (List.mem_append_right _ hq)
  · exact h3 p hp
theorem NewSeq.txt {w : World} {vs : List Value} {news : Led} {x d l : Addr} {t1 t2 : Tok} {c : Nat} (o1 : Over ((l, listOf vs.toArray c) :: news) d) (lt : @LT.lt Nat _ d x) (o2 : Over news l) :
    NewSeq w "string" vs news (.ref x) ((x, instObj 104 d) :: (d, txtD w t1 t2 (.ref l) .none) :: (l, listOf vs.toArray c) :: news) :=
  ⟨[_, _, _], rfl, .txt (.head _) (.tail _ (.head _)) (.tail _ (.tail _ (.head _))), .over ((Over.sub o1 fun p hp => .tail _ hp).lt lt) (.over (Over.sub o1 fun p hp => .tail _ hp) (.over o2 .nil))⟩
theorem NewSeq.vec {w : World} {vs : List Value} {news : Led} {x d l : Addr} {t1 : Tok} {c : Nat} (o1 : Over ((l, listOf vs.toArray c) :: news) d) (lt : @LT.lt Nat _ d x) (o2 : Over news l) :
    NewSeq w "vector" vs news (.ref x) ((x, instObj 125 d) :: (d, vecD w t1 (.ref l)) :: (l, listOf vs.toArray c) :: news) :=
  ⟨[_, _, _], rfl, .vec (.head _) (.tail _ (.head _)) (.tail _ (.tail _ (.head _))), .over ((Over.sub o1 fun p hp => .tail _ hp).lt lt) (.over (Over.sub o1 fun p hp => .tail _ hp) (.over o2 .nil))⟩
example : True := by
  k_with "my_off" => (first | with_reducible assumption | exact ne_of_over (by with_reducible assumption))
  trivial
example : True := by
  k_with "my_over" => (first | with_reducible assumption | exact Over.sub (by with_reducible assumption) (by k_extra "my_sub") | (intro p9 hp9; omega))
  trivial
example : True := by
  k_with "@call ref" => ((k_here; (with_reducible show wpAny _ _ (call (Value.ref 336) [_, _]) _ _ _); k_dflt ((refine' Ret.use (alike_seq _ _ _ _ _ _ _ _ _ ?p1 ?p2 ?p3 ?p4 ?p5) K_new ?k1 ?k2 ?k3 ?k4 ?k5 ?kK ?kd ?ku ?_); k_extra "my_use"; (case p1 => k_extra "my_seq"); (case p2 => with_reducible assumption); (case p3 => k_extra "my_bound"); (case p4 => with_reducible assumption); (case p5 => k_extra "my_off"); refine fun r9 cs9 hS9 hA9 h9 tk9 F9 N9 => ?_;  (try dsimp only); (try k_fold))))
  trivial
theorem lisp_length_ok (w : World) (so : String) (v : Value) (vs : List Value) (la : Addr) (ka : Nat) (news : Led) (hla : (la, listOf [v].toArray ka) ∈ news) (hs : SeqIn w news so v vs) (hb : vs.length ≤ 1000) :
    Ret w 20 200 (.ref 350) [.none, .ref la] news (fun r n' => ∃ t, r = .int vs.length t ∧ n' = news) := by
  k_extra "my_enter"
  k_steps
  refine hret _ _ _ news (by k_asm) (News.sub (by k_asm) (by k_extra "my_sub")) ⟨_, rfl, rfl⟩
theorem lisp_reverse_ok (w : World) (so : String) (v : Value) (vs : List Value) (ns : List Int) (la : Addr) (ka : Nat) (news : Led) (hla : (la, listOf [v].toArray ka) ∈ news) (hs : SeqIn w news so v vs) (hi : IntsAre vs ns) (hb : vs.length ≤ 1000) (hn : ∀ n ∈ ns, 0 ≤ n ∧ n ≤ 1000) :
    Ret w 20 200 (.ref 413) [.none, .ref la] news (NewSeq w so vs.reverse news) := by
  have hir := IntsAre.rev hi
  have hnr : ∀ n ∈ ns.reverse, 0 ≤ n ∧ n ≤ 1000 := fun n hm => hn n (List.mem_reverse.mp hm)
  k_extra "my_enter"
  k_steps
  k_extra "my_ret"
  exact NewSeq.mid (mid := [_]) hS9 hA9 (.over (by with_reducible assumption) .nil)
theorem lisp_copy_ok (w : World) (so : String) (v : Value) (vs : List Value) (ns : List Int) (la : Addr) (ka : Nat) (news : Led) (hla : (la, listOf [v].toArray ka) ∈ news) (hs : SeqIn w news so v vs) (hi : IntsAre vs ns) (hb : vs.length ≤ 1000) (hn : ∀ n ∈ ns, 0 ≤ n ∧ n ≤ 1000) :
    Ret w 20 200 (.ref 406) [.none, .ref la] news (NewSeq w so vs news) := by
  have hs' := hs
  cases hs with
  | list c =>
    have c' := c
    cases c with
    | nil =>
      k_extra "my_enter"
      k_steps
      k_extra "my_ret"
      exact NewSeq.mid (mid := []) hS9 hA9 .nil
    | cons hx hdd hr =>
      k_extra "my_enter"
      k_steps
      k_extra "my_ret"
      exact NewSeq.mid (mid := []) hS9 hA9 .nil
  | vec a b c =>
    k_extra "my_enter"
    k_steps
    k_extra "my_ret"
    exact NewSeq.mid (mid := []) hS9 hA9 .nil
  | txt a b c =>
    k_extra "my_enter"
    k_steps
    k_extra "my_ret"
    exact NewSeq.txt o9 l9 (by with_reducible assumption)
example : True := by
  k_with "@call ref" => ((k_here; (with_reducible show wpAny _ _ (call (Value.ref 207) [Value.int _ _]) _ _ _); k_dflt ((refine' Ret.use (is_whole_int _ _ _ _) K_val ?k1 ?k2 ?k3 ?k4 ?k5 ?kK ?kd ?ku ?_); k_extra "my_use";  refine fun h9 tk9 F9 N9 => ?_;  (try dsimp only); (try k_fold))))
  trivial
theorem eq_int (w : World) (i j : Int) (t u : Tok) (news : Led) : Ret w 4 20 (.ref 256) [.int i t, .int j u] news (ValP (.bool (i == j)) news) := by
  k_extra "my_enter"
  k_steps
  all_goals (k_extra "my_ret"; exact ⟨rfl, rfl⟩)
section
variable {prog : Program} {w : World} {A : Around} {E : Value → Shared → Prop} {s : Shared} {hS : Heap} {gS : Array GenState} {dS : Drawn} {tS : Nat} {oS : OsState} {env : Env} {h₀ : Heap} {x : Str} {body : List Stmt} {Q : Flow → Shared → Prop}
theorem iter_tupJ {ax : Addr} {lo : Obj} {vs : List Value} {k : Nat} {m₀ : Str → Option Value} {news : Led} (J : Nat → (Str → Option Value) → Led → Prop)
    (hh : A.handled = none) (F : Fr h₀ env.locals hS m₀) (N : News h₀ env.locals hS news) (hc : lo.cls = .type "tuple") (hdX : lo.data = .seq vs.toArray k) (jm : ∀ i m news, J i m news → (ax, lo) ∈ news) (j0 : J 0 m₀ news)
    (turn : ∀ I it i v m₁ news₁ h tk, vs[i]? = some v → J i m₁ news₁ → (∀ p ∈ news₁, p.1 ≠ I) → Fr h₀ env.locals h (fun y => if y = x then some v else m₁ y) → News h₀ env.locals h ((I, it) :: news₁) →
      wpAny (model prog w) A (execs body env) (TurnP h₀ env.locals gS dS oS I it (J (i + 1)) Q) E ⟨h, gS, dS, tk, oS⟩)
    (done : ∀ m₁ news₁ h tk, J vs.length m₁ news₁ → Fr h₀ env.locals h m₁ → News h₀ env.locals h news₁ → Q .next ⟨h, gS, dS, tk, oS⟩) :
    wpAny (model prog w) A (pyIter (.ref ax)) (fun it s₂ => LoopAtV prog w A h₀ env x body Q E it s₂) E ⟨hS, gS, dS, tS, oS⟩ := by
  have hax := N _ (jm _ _ _ j0)
  have hl : hS.IsTuple ax vs.toArray := ⟨lo, hax.1, hc, k, hdX⟩
  have hlt : ax < hS.objs.size := Heap.lt_size hax.1
  refine wpAny_pyIter_tuple hl ?_
  have W := Walks.tuple (prog := prog) (w := w) hh hS.objs.size ax (Nat.ne_of_lt hlt) vs.toArray
  rw [show vs.toArray.size = vs.length by simp] at W
  refine loop_J W J ?_ (fun i h st => let ⟨o, e, _⟩ := st.1; ⟨o, e⟩) ⟨⟨_, Heap.get?_push_size _ rfl, rfl, rfl⟩, hl.at fun o e => Heap.get?_push_of_some _ e⟩ ?_ (next_is_new F)
    (fun p hp e => absurd (Heap.lt_size (N p hp).1) (e ▸ Nat.lt_irrefl _)) (F.push _) (fun p hp => ⟨Heap.get?_push_of_some _ (N p hp).1, (N p hp).2⟩) j0 ?_ ?_
  · intro b hb
    rcases List.mem_cons.mp hb with h1 | h1
    · exact .inl h1
    · exact .inr ⟨lo, fun i m news j => by rw [List.mem_singleton.mp h1]; exact jm i m news j⟩
  · intro hm
    rcases List.mem_cons.mp hm with h1 | h1
    · exact absurd F.ns.lt (h1 ▸ Nat.lt_irrefl _)
    · exact hax.2.1 (List.mem_singleton.mp h1).symm
  · rintro it i v m₁ news₁ h tk hi hP hJ ho F₁ N₁
    exact turn _ it i v m₁ news₁ h tk (by simpa using hP) hJ ho F₁ N₁
  · exact done
end
/-- a tuple as made -/
abbrev tupOf (vs : List Value) : Obj := { cls := .type "tuple", data := .seq vs.toArray }
example : True := by
  k_with "my_for" => ((k_here; (rename Fr _ _ _ _ => lF'); (with_unfolding_all refine' For_invVF lF' ?k1 ?k2 ?_; (case k1 => exact rfl); (case k2 => exact rfl); k_whole)))
  trivial
example : True := by
  k_with "@exec For Name Tuple cons nil" => (k_extra "my_for")
  trivial
example : True := by
  k_with "@exec For Name Name cons nil" => (k_extra "my_for")
  trivial
example : True := by
  k_with "@exec For Name Call cons nil" => (k_extra "my_for")
  trivial
theorem class_int (w : World) (i j : Int) (t u : Tok) (news : Led) : Ret w 4 20 (.ref 268) [.int i t, .int j u] news (ValP (.bool false) news) := by
  k_extra "my_enter"
  k_steps
  rename_i D h9 lF lN o9
  refine' iter_tupJ (vs := [.ref 82, .ref 125, .ref 146, .ref 104, .ref 181]) (lo := tupOf [.ref 82, .ref 125, .ref 146, .ref 104, .ref 181]) (fun _ m' n' => Has m' [("one", .int i t), ("other", .int j u)] ∧ n' = (D, tupOf [.ref 82, .ref 125, .ref 146, .ref 104, .ref 181]) :: news) ?hh ?hF ?hN ?hc ?hdX ?jm ?j0 ?turn ?done
  case hh => exact rfl
  case hF => exact lF
  case hN => exact lN
  case hc => exact rfl
  case hdX => exact rfl
  case jm => exact fun _ _ _ e => by rw [e.2]; exact List.mem_cons_self
  case j0 => exact ⟨⟨rfl, rfl, trivial⟩, rfl⟩
  case turn =>
    intro I it i9 v m₁ n₁ h₁ tk₁ hv hJ ho F₁ N₁
    obtain ⟨hM, hn⟩ := hJ
    subst n₁
    obtain ⟨m₂, rfl⟩ := hM.ups
    replace F₁ : Fr g' L' h₁ _ := F₁
    replace N₁ : News g' L' h₁ _ := N₁
    clear lF lN
    have hv5 : v = .ref 82 ∨ v = .ref 125 ∨ v = .ref 146 ∨ v = .ref 104 ∨ v = .ref 181 := by
      have := List.mem_of_getElem? hv; simpa using this
    rcases hv5 with rfl | rfl | rfl | rfl | rfl
    all_goals
      k_steps
      dsimp only [TurnP]
      exact TurnE.introP (pre := []) (by k_asm) (by k_asm) ho ⟨⟨rfl, rfl, trivial⟩, rfl⟩
  case done =>
    intro m₁ n₁ h₁ tk₁ hJ F₁ N₁
    obtain ⟨hM, hn⟩ := hJ
    subst n₁
    obtain ⟨m₂, rfl⟩ := hM.ups
    replace F₁ : Fr g' L' h₁ _ := F₁
    replace N₁ : News g' L' h₁ _ := N₁
    clear lF lN
    try dsimp only
    k_steps
    refine hret _ _ _ news (by k_asm) (News.sub (by k_asm) (by k_extra "my_sub")) ⟨rfl, rfl⟩
example : True := by
  k_with "@call ref" => ((k_here; (with_reducible show wpAny _ _ (call (Value.ref 256) [Value.int _ _, Value.int _ _]) _ _ _); k_dflt ((refine' Ret.use (eq_int _ _ _ _ _ _) K_val ?k1 ?k2 ?k3 ?k4 ?k5 ?kK ?kd ?ku ?_); k_extra "my_use";  refine fun h9 tk9 F9 N9 => ?_;  (try dsimp only); (try k_fold))))
  trivial
example : True := by
  k_with "@call ref" => ((k_here; (with_reducible show wpAny _ _ (call (Value.ref 268) [Value.int _ _, Value.int _ _]) _ _ _); k_dflt ((refine' Ret.use (class_int _ _ _ _ _ _) K_val ?k1 ?k2 ?k3 ?k4 ?k5 ?kK ?kd ?ku ?_); k_extra "my_use";  refine fun h9 tk9 F9 N9 => ?_;  (try dsimp only); (try k_fold))))
  trivial
theorem equal_by_int (w : World) (i j : Int) (t u : Tok) (news : Led) (f : Value) : Ret w 8 60 (.ref 275) [.int i t, .int j u, f] news (ValP (.bool (i == j)) news) := by
  k_extra "my_enter"
  k_steps
  all_goals
    refine hret _ _ _ news (by k_asm) (News.sub (by k_asm) (by k_extra "my_sub")) ⟨?_, rfl⟩
    simp_all
example : True := by
  k_with "@call ref" => ((k_here; (with_reducible show wpAny _ _ (call (Value.ref 275) [Value.int _ _, Value.int _ _, _]) _ _ _); k_dflt ((refine' Ret.use (equal_by_int _ _ _ _ _ _ _) K_val ?k1 ?k2 ?k3 ?k4 ?k5 ?kK ?kd ?ku ?_); k_extra "my_use";  refine fun h9 tk9 F9 N9 => ?_;  (try dsimp only); (try k_fold))))
  trivial
theorem equal_int (w : World) (i j : Int) (t u : Tok) (news : Led) : Ret w 10 80 (.ref 289) [.int i t, .int j u] news (ValP (.bool (i == j)) news) := by
  k_extra "my_enter"
  k_steps
  k_extra "my_ret"; exact ⟨rfl, rfl⟩
example : True := by
  k_with "@call ref" => ((k_here; (with_reducible show wpAny _ _ (call (Value.ref 289) [Value.int _ _, Value.int _ _]) _ _ _); k_dflt ((refine' Ret.use (equal_int _ _ _ _ _ _) K_val ?k1 ?k2 ?k3 ?k4 ?k5 ?kK ?kd ?ku ?_); k_extra "my_use";  refine fun h9 tk9 F9 N9 => ?_;  (try dsimp only); (try k_fold))))
  trivial
section
variable {prog : Program} {w : World} {A A₀ : Around} {hS h₀ base : Heap} {gS : Array GenState} {dS : Drawn} {tS : Nat} {oS : OsState} {K : Frag} {L : Addr} {m mg mb : Str → Option Value} {news : Led} {p : Program} {loose : List Str} {mean : ExcName → Option Value} {env : Env} {outer : List Env}
  {R : Result → Shared → Prop} {name qual : Str} {params : Arguments} {body : List Stmt} {scope : Scope} {dV kV doc pm cdv ct oc : Value} {an od : Option Addr} {osl : Array (Option Value)} {f : Addr} {args : Args} {binds : List (Str × Value)}
theorem enter_defC {body' : List Stmt} (hb : body = body') (B : Below A₀ base outer h₀) (F : Fr h₀ L hS m) (X₀ : K.In h₀) (N : News h₀ L hS news) (T : Top p loose mean mg mb h₀) (hA : A.frames = some (env :: outer)) (hf : env.frame = some L) (hke : env.scope.kind = .function)
    (ho : K.lookup f = some ⟨oc, od, .func (fnOf name qual params body scope dV kV doc pm an cdv ct), osl⟩) (hcd : codeIn K cdv qual = true) (hroom : A.depth < recursionLimit)
    (hbind : BindsTo ⟨hS, gS, dS, tS, oS⟩ (fnOf name qual params body scope dV kV doc pm an cdv ct) args binds) (hkind : (binds.all fun y => scope.names.lookup y.1 == some .local || scope.names.lookup y.1 == some .cell) = true)
    (hnd : ((cellsFrom 0 scope.names []).map (·.1)).Nodup)
    (h : ∀ g L' h₁ tk cells, Fr h₀ L g m → Fr g L' h₁ (bindL (envOfC qual scope L' f cdv).kindOf binds fun _ => none) → News g L' h₁ (cells ++ news) →
      CellsAre (bindC (envOfC qual scope L' f cdv).kindOf binds fun _ => none) (cellsFrom (L' + 1) scope.names []) cells → Below A base (env :: outer) g → K.In g → Top p loose mean mg mb g → (∀ p ∈ news, p.1 < L') →
      wpAny (model prog w) (A.deeper (envOfC qual scope L' f cdv)) (execs body' (envOfC qual scope L' f cdv))
        (fun fl s' => LeaveK h₀ L m g R (match fl with | .ret v => v | _ => .none) s')
        (fun e s' => wpAny (model prog w) (A.deeper (envOfC qual scope L' f cdv)) (leaving (envOfC qual scope L' f cdv) e) (fun _ s'' => R (.error e) s'') (fun e' s'' => R (.error e') s'') s')
        ⟨h₁, gS, dS, tk, oS⟩)
    (hco : scope.isCoroutine = false) (hgen : scope.isGenerator = false) (hk : scope.kind = .function) : codeAny (model prog w) A (.call (.ref f) args) R ⟨hS, gS, dS, tS, oS⟩ :=
  by subst hb; exact code_defC B F X₀ N T hA hf hke ho hcd hroom hbind hkind hnd h hco hgen hk
end
example : True := by
  k_with "my_enterC" => ((k_extra "my_intro"; refine wpAny_call ?_; k_dflt (k_extra "my_enterC2")))
  trivial
example : True := by
  k_with "my_enterC2" => ((refine' enter_defC ?kb ?k1 ?k2 ?k3 ?k4 ?k5 ?kA ?kF ?kK ?k6 ?k7 ?k8 ?k9 ?kB ?kD ?_ ?c2 ?c3 ?c4; (case kA => exact rfl); (case kF => exact rfl); (case kK => assumption); (case k1 => k_asm); (case k2 => k_asm); (case k3 => k_asm); (case k4 => k_asm); (case k5 => k_asm); (case k6 => k_is); (case k7 => k_is); (case k8 => ktr_room); (case k9 => first | exact bnd_of rfl | exact BindsTo.of_eq rfl | exact binds_K (by k_in) rfl (by k_is) rfl rfl rfl); (case kB => exact rfl); (case kD => decide +kernel); (case c2 => exact rfl); (case c3 => exact rfl); (case c4 => exact rfl); (case kb => k_extra "my_norm"); k_whole; intro g' L' h' tk' cells' FG' F' N' Y' B' X' T' oL9;  (first | (have hY9 := CellsAre.one Y'; obtain ⟨oc9, hE9, dc9⟩ := hY9; subst hE9; clear Y') | (have hY9 := CellsAre.two Y'; obtain ⟨oc9, oc9', hE9, dc9, dc9'⟩ := hY9; subst hE9; clear Y') | k_cells Y'); (try simp only [List.cons_append, List.nil_append] at N'); (try dsimp only); (try k_fold)))
  trivial
example : True := by
  k_with "my_compT" => ((k_dflt (refine LCt.ListComp_T (F₀ := by k_asm) (by with_unfolding_all rfl) (by decide) (by rfl) (by decide) (by rfl) ?_)))
  trivial
example : True := by
  k_with "@CompSrcT" => (k_extra "my src")
  trivial
section
variable {prog : Program} {w : World} {A : Around} {s : Shared} {hS : Heap} {gS : Array GenState} {dS : Drawn} {tS : Nat} {oS : OsState} {h₀ : Heap} {L : Addr} {m : Str → Option Value} {env : Env}
/-- a comprehension with a test, by an invariant over the made list and the ledger -/
theorem compJT {ct elt : Expr} {x : Str} {scope : Scope} {cl : List (Str × Addr)} {S : Led → Prop} {P : Nat → Value → Prop} {Fin : List Value → Led → Prop} {n : Nat} (J : Nat → List Value → Led → Prop)
    (turn : ∀ i ys news v I oI C oC D m₂ h tk (E' : Value → Shared → Prop), i < n → J i ys news → P i v → LCg.NsObj oC m₂ → m₂ x = some v → Fr h₀ L h m → News h₀ L h ((I, oI) :: (C, oC) :: (D, LCg.lst ys) :: news) → LCg.Off3 I C D news → ((@Ne Nat I C) ∧ (@Ne Nat I D) ∧ (@Ne Nat C D)) →
      wpAny (model prog w) A (isTrue ct (compEnvC scope cl C env) (eval ct (compEnvC scope cl C env))) (fun ok s' => if ok = true then
        wpAny (model prog w) A (eval elt (compEnvC scope cl C env)) (LCg.CompEnd h₀ L m ⟨h, gS, dS, tk, oS⟩ I oI C oC D (LCg.lst ys) S (fun y news' => J (i + 1) (ys ++ [y]) news')) E' s'
        else LCg.CompEnd h₀ L m ⟨h, gS, dS, tk, oS⟩ I oI C oC D (LCg.lst ys) S (fun _ news' => J (i + 1) ys news') Value.none s') E' ⟨h, gS, dS, tk, oS⟩)
    (fin : ∀ ys news, J n ys news → Fin ys news) : ∀ k i ys news, i + k = n → J i ys news → LCt.CompRestT prog w A h₀ L m env ct elt x scope cl ⟨hS, gS, dS, tS, oS⟩ S P Fin k i ys news := by
  intro k
  induction k with
  | zero => intro i ys news hi j; obtain rfl : i = n := by omega
            exact .zero (fin _ _ j)
  | succ k ih =>
    intro i ys news hi j
    refine .succ fun v I oI C oC D m₂ h tk E' hP ho hm F N off ne => ?_
    refine wpAny_mono (turn i ys news v I oI C oC D m₂ h tk E' (by omega) j hP ho hm F N off ne) (fun ok s₂ hy => ?_) fun _ _ e => e
    cases ok with
    | true =>
      simp only [if_true] at hy ⊢
      refine wpAny_mono hy (fun y s₃ hz => ?_) fun _ _ e => e
      obtain ⟨h', tk', news', e, F', N', o', hS, j'⟩ := hz
      exact ⟨h', tk', news', e, F', N', o', hS, ih _ _ _ (by omega) j'⟩
    | false =>
      simp only [Bool.false_eq_true, if_false] at hy ⊢
      obtain ⟨h', tk', news', e, F', N', o', hS, j'⟩ := hy
      exact ⟨h', tk', news', e, F', N', o', hS, ih _ _ _ (by omega) j'⟩
end
/-- the items that are another number -/
def keepV (one : Int) : Value → Bool
  | .int n _ => !(one == n)
  | _ => true
theorem keep_ints {one : Int} {vs : List Value} {ns : List Int} (h : IntsAre vs ns) : IntsAre (vs.filter (keepV one)) (ns.filter fun n => !(one == n)) := by
  induction h with
  | nil => exact .nil
  | cons n t _ ih =>
    rw [List.filter_cons, List.filter_cons]
    show IntsAre (if (!(one == n)) = true then _ else _) _
    split
    · exact .cons n t ih
    · exact ih
theorem keep_take {one : Int} {vs : List Value} {i : Nat} {v : Value} (h : vs[i]? = some v) : (vs.take (i + 1)).filter (keepV one) = (vs.take i).filter (keepV one) ++ (if keepV one v then [v] else []) := by
  rw [List.take_add_one, h, List.filter_append]
  congr 1
  show List.filter _ [v] = _
  rw [List.filter_cons]
  split <;> rfl
theorem lisp_remove_ok (w : World) (so : String) (one : Int) (t : Tok) (v : Value) (vs : List Value) (ns : List Int) (la : Addr) (ka : Nat) (news : Led) (hla : (la, listOf [.int one t, v].toArray ka) ∈ news) (hs : SeqIn w news so v vs) (hi : IntsAre vs ns) (hb : vs.length ≤ 1000) (hn : ∀ n ∈ ns, 0 ≤ n ∧ n ≤ 1000) :
    Ret w 30 300 (.ref 430) [.none, .ref la] news (NewSeq w so (vs.filter (keepV one)) news) := by
  have hbf : (vs.filter (keepV one)).length ≤ 1000 := Nat.le_trans (List.length_filter_le ..) hb
  have hir := keep_ints (one := one) hi
  have hnr : ∀ n ∈ ns.filter (fun n => !(one == n)), 0 ≤ n ∧ n ≤ 1000 := fun n hm => hn n (List.mem_filter.mp hm).1
  k_extra "my_enterC"
  have hStopComp : StopComp := .mk
  have hStopSrc : StopSrc := .mk
  k_steps
  k_extra "my_compT"
  k_steps
  rename Fr _ _ _ _ => lF
  rename News _ _ _ _ => lN
  refine LCt.CompSrcT.ledger rfl lF lN (List.mem_cons_self) (by simp only [List.size_toArray, PySem.sizeLine_eq]; omega) (fun g => compJT (fun i ys nw => nw = (l9, listOf vs.toArray kk9) :: (L' + 1, oc9) :: news ∧ ys = (vs.take i).filter (keepV one)) ?turn ?fin _ 0 [] _ (Nat.zero_add _) ⟨rfl, rfl⟩)
  case turn =>
    rintro i ys nw v I oI C oC D m₂ h tk E' hi9 ⟨rfl, rfl⟩ hP ho hm F9 N9 off ne
    have hP' : vs[i]? = some v := by simpa using hP
    obtain ⟨n, t, hni, rfl⟩ := ints_at hi hP'
    have hk := keep_take (one := one) hP'
    clear lF lN
    k_steps
    all_goals
      refine LCg.CompEnd.intro (by k_asm) (by k_asm) _ (fun p hp => hp) off (.inr ⟨_, List.mem_cons_self, rfl, _, rfl⟩) ⟨rfl, ?_⟩
      rw [hk]
      simp_all [keepV]
  case fin =>
    rintro ys nw ⟨rfl, rfl⟩
    rw [show vs.toArray.size = vs.length by simp, List.take_length]
    clear lF lN
    intro D h tk F9 N9 o1
    have o9' := off_one o1
    try dsimp only
    k_steps
    k_extra "my_ret"
    have hL : Over news (L' + 1) := fun p hp => Nat.lt_succ_of_lt (oL9 p hp)
    exact NewSeq.mid (mid := [_, _]) hS9 hA9 (.over (Over.sub o9 fun p hp => .tail _ hp) (.over hL .nil))
/-- a chain of cells, its ledger written out; no order told -/
inductive Cells (w : World) : Value → List Value → Value → Led → Prop
  | nil {v : Value} : Cells w v [] v []
  | cons {v v1 tv : Value} {vs : List Value} {cs : Led} {x d : Addr} {t1 t2 : Tok} : Cells w v vs tv cs → Cells w (.ref x) (v1 :: vs) tv ((x, instObj 82 d) :: (d, consD w t1 t2 v1 v) :: cs)
theorem Cells.append {w : World} {a b c : Value} {us ds : List Value} {P B : Led} (h : Cells w a us b P) (k : Cells w b ds c B) : Cells w a (us ++ ds) c (P ++ B) := by
  induction h with
  | nil => exact k
  | cons _ ih => exact .cons (ih k)
abbrev addrs (l : Led) : List Nat := l.map fun p => p.1
/-- all addresses of the ledger are told once -/
def Sep (l : Led) : Prop := (addrs l).Nodup
theorem Sep.perm {l k : Led} (h : Sep l) (p : l.Perm k) : Sep k := (p.map _).nodup_iff.mp h
theorem Sep.cons {a : Addr} {o : Obj} {l : Led} (h : Sep ((a, o) :: l)) : (∀ p ∈ l, p.1 ≠ a) ∧ Sep l := by
  have := List.nodup_cons.mp h
  exact ⟨fun p hp e => this.1 (List.mem_map.mpr ⟨p, hp, e⟩), this.2⟩
theorem Sep.mk {a : Addr} {o : Obj} {l : Led} (h : ∀ p ∈ l, p.1 ≠ a) (k : Sep l) : Sep ((a, o) :: l) := by
  refine List.nodup_cons.mpr ⟨fun hm => ?_, k⟩
  obtain ⟨p, hp, e⟩ := List.mem_map.mp hm
  exact h p hp e
theorem Sep.left {l k : Led} (h : Sep (l ++ k)) : Sep l := by
  have := h; unfold Sep addrs at this; rw [List.map_append] at this; exact (List.nodup_append.mp this).1
theorem Sep.addr {l k : Led} (h : Sep l) (p : (addrs l).Perm (addrs k)) : Sep k := p.nodup_iff.mp h
theorem inst_ne_cons {w : World} {d : Addr} {t1 t2 : Tok} {v1 v2 : Value} : instObj 82 d ≠ consD w t1 t2 v1 v2 := fun e => by
  have := congrArg Obj.cls e; cases this
theorem ChainIn.cells {w : World} {h₀ h : Heap} {L : Addr} {news : Led} {v : Value} {vs : List Value} (X : (hd.heap_39 w.params).In h₀) (N : News h₀ L h news) (c : ChainIn w news v vs) :
    ∃ cl, Cells w v vs (.ref 64) cl ∧ (∀ p ∈ cl, p ∈ news) ∧ Sep cl ∧ ∀ p ∈ cl, (∃ y e ws, p = (y, instObj 82 e) ∧ ChainIn w news (.ref y) ws ∧ ws.length ≤ vs.length) ∨ (∃ e t1 t2 v1 v2 ws, p = (e, consD w t1 t2 v1 v2) ∧ ChainIn w news v2 ws ∧ ws.length < vs.length) := by
  induction c with
  | nil => exact ⟨[], .nil, List.forall_mem_nil _, List.nodup_nil, List.forall_mem_nil _⟩
  | @cons v vs x d t1 t2 t i hx hdX hr ih =>
    obtain ⟨cl, hc, hs, hsep, hp⟩ := ih
    have hxd : ∀ p ∈ (d, consD w t1 t2 (.int i t) v) :: cl, p.1 ≠ x := by
      refine List.forall_mem_cons.mpr ⟨fun e => ?_, fun p hm e => ?_⟩
      · have e' : d = x := e
        subst e'
        exact inst_ne_cons (led_one N hx hdX)
      · rcases hp p hm with ⟨y, e', ws, rfl, hw, hl⟩ | ⟨e', s1, s2, v1, v2, ws, rfl, hw, hl⟩
        · have e : y = x := e
          subst e
          have := congrArg List.length (hw.det X N (.cons hx hdX hr))
          rw [List.length_cons] at this; omega
        · have e : e' = x := e
          subst e
          exact inst_ne_cons (led_one N hx (hs _ hm))
    have hdd : ∀ p ∈ cl, p.1 ≠ d := by
      intro p hm e
      rcases hp p hm with ⟨y, e', ws, rfl, hw, hl⟩ | ⟨e', s1, s2, v1, v2, ws, rfl, hw, hl⟩
      · have e : y = d := e
        subst e
        exact inst_ne_cons (led_one N (hs _ hm) hdX)
      · have e : e' = d := e
        subst e
        have q := (consD_inj (led_one N hdX (hs _ hm))).2
        subst q
        have := congrArg List.length (hw.det X N hr)
        omega
    refine ⟨_, .cons hc, ?_, Sep.mk hxd (Sep.mk hdd hsep), ?_⟩
    · exact List.forall_mem_cons.mpr ⟨hx, List.forall_mem_cons.mpr ⟨hdX, hs⟩⟩
    · refine List.forall_mem_cons.mpr ⟨.inl ⟨_, _, _, rfl, .cons hx hdX hr, Nat.le_refl _⟩, List.forall_mem_cons.mpr ⟨.inr ⟨_, _, _, _, _, _, rfl, hr, Nat.lt_succ_self _⟩, fun p hm => ?_⟩⟩
      rcases hp p hm with ⟨y, e', ws, q, hw, hl⟩ | ⟨e', s1, s2, v1, v2, ws, q, hw, hl⟩
      · exact .inl ⟨y, e', ws, q, hw, Nat.le_succ_of_le hl⟩
      · exact .inr ⟨e', s1, s2, v1, v2, ws, q, hw, Nat.lt_succ_of_lt hl⟩
theorem Cells.chain {w : World} {news : Led} {v : Value} {vs : List Value} {cs : Led} {ns : List Int} (h : Cells w v vs (.ref 64) cs) (hi : IntsAre vs ns) (hs : ∀ p ∈ cs, p ∈ news) : ChainIn w news v vs := by
  generalize ht : Value.ref 64 = tv at h
  induction h generalizing ns with
  | nil => subst ht; exact .nil
  | cons _ ih =>
    cases hi with
    | cons n t hi => exact .cons (hs _ (.head _)) (hs _ (.tail _ (.head _))) (ih hi (fun p hp => hs p (.tail _ (.tail _ hp))) ht)
theorem Cells.ref {w : World} {v tv : Value} {vs : List Value} {cs : Led} (h : Cells w v vs tv cs) (ht : ∃ b, tv = .ref b) : ∃ a, v = .ref a := by
  cases h with
  | nil => exact ht
  | cons _ => exact ⟨_, rfl⟩
theorem Apart.sub {cs cs' news : Led} (h : Apart cs news) (hs : ∀ p ∈ cs', p ∈ cs) : Apart cs' news := fun p hp => h p (hs p hp)
theorem SeqIn.apart {w : World} {so : String} {v : Value} {vs : List Value} {cs : Led} (h : SeqIn w cs so v vs) (hl : so = "list") : ChainIn w cs v vs := by
  cases h with
  | list c => exact c
  | vec => exact absurd hl (by decide)
  | txt => exact absurd hl (by decide)
theorem Apart.addr {l k news : Led} (h : Apart l news) (hs : ∀ a ∈ addrs k, a ∈ addrs l) : Apart k news := fun p hp q hq e => by
  obtain ⟨p', hp', e'⟩ := List.mem_map.mp (hs p.1 (List.mem_map_of_mem hp))
  exact h p' hp' q hq (e'.trans e)
/-- a deed that turns a sequence of the call's own and tells one -/
def Turned (w : World) (so : String) (vs : List Value) (rest : Led) (r : Value) (n' : Led) : Prop := ∃ cs, n' = cs ++ rest ∧ SeqIn w n' so r vs
theorem NewSeq.turned {w : World} {so : String} {vs : List Value} {rest : Led} {r : Value} {n' cs : Led} (h : NewSeq w so vs (cs ++ rest) r n') : Turned w so vs rest r n' := by
  obtain ⟨c, rfl, h1, _⟩ := h
  exact ⟨c ++ cs, by simp, h1.mono fun p hp => List.mem_append_left _ hp⟩
section
variable {w : World} {A : Around} {E : Value → Shared → Prop} {s : Shared} {h₀ : Heap} {L x : Addr} {m : Str → Option Value} {news : Led} {vs : List Value} {Q : Value → Shared → Prop}
theorem I_chain_125 (F : Fr h₀ L s.heap m) (X : (hd.heap_39 w.params).In h₀) (N : News h₀ L s.heap news) (c : ChainIn w news (.ref x) vs) (h : Q (.bool false) { s with toks := s.toks + 1 }) : wpAny (model PR w) A (call (.builtin "isinstance") [.ref x, .ref 125]) Q E s := by
  cases c with
  | nil => exact I_nil_125 F X N h
  | cons hx hdd _ => exact I_82_125 F X N hx hdd h
theorem I_chain_104 (F : Fr h₀ L s.heap m) (X : (hd.heap_39 w.params).In h₀) (N : News h₀ L s.heap news) (c : ChainIn w news (.ref x) vs) (h : Q (.bool false) { s with toks := s.toks + 1 }) : wpAny (model PR w) A (call (.builtin "isinstance") [.ref x, .ref 104]) Q E s := by
  cases c with
  | nil => exact I_nil_104 F X N h
  | cons hx hdd _ => exact I_82_104 F X N hx hdd h
end
example : True := by
  k_with "@call builtin:isinstance" => ((k_here; (with_reducible show wpAny _ _ (call _ [Value.ref _, Value.ref 125]) _ _ _); k_dflt (refine' I_chain_125 ?k1 ?k2 ?k3 ?k4 ?_; (case k4 => with_reducible assumption); (case k1 => k_asm); (case k2 => k_asm); (case k3 => k_asm); k_whole)))
  trivial
example : True := by
  k_with "@call builtin:isinstance" => ((k_here; (with_reducible show wpAny _ _ (call _ [Value.ref _, Value.ref 104]) _ _ _); k_dflt (refine' I_chain_104 ?k1 ?k2 ?k3 ?k4 ?_; (case k4 => with_reducible assumption); (case k1 => k_asm); (case k2 => k_asm); (case k3 => k_asm); k_whole)))
  trivial
section
variable {w : World} {vs : List Value} {rest : Led} {k : Nat} {m₁ : Str → Option Value} {n₁ : Led} {h₀ h₁ : Heap} {L : Addr} {G : Prop}
/-- a chain's own cells, apart from the rest -/
theorem cells_elim {v : Value} {ns : List Int} {cs : Led} (X : (hd.heap_39 w.params).In h₀) (N : News h₀ L h₁ (cs ++ rest)) (hc : ChainIn w cs v vs) (ha : Apart cs rest) (hi : IntsAre vs ns)
    (hk : ∀ cl', Cells w v vs (.ref 64) cl' → Sep cl' → Apart cl' rest → ChainIn w (cl' ++ rest) v vs → News h₀ L h₁ (cl' ++ rest) → G) : G := by
  obtain ⟨cl', hC, hsub, hsep, _⟩ := hc.cells X (News.sub N fun p hp => List.mem_append_left _ hp)
  exact hk cl' hC hsep (Apart.sub ha hsub) (hC.chain hi fun p hp => List.mem_append_left _ hp) (News.sub N fun p hp => (List.mem_append.mp hp).elim (fun h => List.mem_append_left _ (hsub _ h)) (fun h => List.mem_append_right _ h))
theorem led_1 {α : Type} {A B R : List α} {a b : α} : ∀ p ∈ a :: b :: (A ++ B ++ R), p ∈ A ++ (a :: b :: B) ++ R := fun p hp => by
  simp only [List.mem_cons, List.mem_append] at hp ⊢
  rcases hp with h | h | (h | h) | h <;> simp only [h, true_or, or_true]
theorem perm_2 {α : Type} {A B : List α} {a b : α} : (A ++ (a :: b :: B)).Perm (a :: b :: (A ++ B)) := List.perm_middle.trans (.cons _ List.perm_middle)
def NrevJ (w : World) (vs : List Value) (rest : Led) (k : Nat) (m' : Str → Option Value) (n' : Led) : Prop :=
  ∃ fv hv A B us ds, Has m' [("found", .ref fv), ("here", .ref hv)] ∧ (∀ p ∈ A ++ B ++ rest, p ∈ n') ∧ Cells w (.ref fv) us (.ref 64) A ∧ Cells w (.ref hv) ds (.ref 64) B ∧ vs = us.reverse ++ ds ∧ Sep (A ++ B) ∧ Apart (A ++ B) rest ∧ k = ds.length
theorem NrevJ.elim (hJ : NrevJ w vs rest k m₁ n₁) (F : Fr h₀ L h₁ m₁) (N : News h₀ L h₁ n₁)
    (hnil : ∀ m₂ fv A, Fr h₀ L h₁ (Mine.ups [("found", .ref fv), ("here", .ref 64)] m₂) → News h₀ L h₁ (A ++ rest) → Cells w (.ref fv) vs.reverse (.ref 64) A → G)
    (hcons : ∀ m₂ fv hv d b t1 t2 v1 k' R, Fr h₀ L h₁ (Mine.ups [("found", .ref fv), ("here", .ref hv)] m₂) → News h₀ L h₁ ((hv, instObj 82 d) :: (d, consD w t1 t2 v1 (.ref b)) :: R) → @Ne Nat hv d → (∀ p ∈ R, p.1 ≠ d) → k' < k →
      (∀ m' n', Has m' [("found", .ref hv), ("here", .ref b)] → (∀ p ∈ (hv, instObj 82 d) :: (d, consD w t1 t2 v1 (.ref fv)) :: R, p ∈ n') → NrevJ w vs rest k' m' n') → G) : G := by
  obtain ⟨fv, hv, A, B, us, ds, hM, hn, hA, hB, hve, hsp, hap, rfl⟩ := hJ
  obtain ⟨m₂, rfl⟩ := hM.ups
  generalize h64 : Value.ref 64 = tv at hB
  cases hB with
  | nil =>
    obtain rfl : (64 : Addr) = hv := Value.ref.inj h64
    rw [List.append_nil] at hn hve
    exact hnil _ fv A F (News.sub N hn) (by rw [hve, List.reverse_reverse]; exact hA)
  | @cons v2 v1 _ ds' B3 x d t1 t2 hB3 =>
    subst h64
    obtain ⟨b, rfl⟩ := hB3.ref ⟨64, rfl⟩
    obtain ⟨s1, s2⟩ := (hsp.perm perm_2).cons
    obtain ⟨s3, s4⟩ := s2.cons
    have hdx : d ≠ hv := s1 _ (.head _)
    have hap' : Apart ((hv, instObj 82 d) :: (d, consD w t1 t2 v1 (.ref b)) :: (A ++ B3)) rest := hap.sub fun p hp => perm_2.mem_iff.mpr hp
    refine hcons m₂ fv hv d b t1 t2 v1 _ (A ++ B3 ++ rest) F (News.sub N fun p hp => hn p (led_1 p hp)) (fun e => hdx e.symm) (fun p hp => ?_) (Nat.lt_succ_self _) fun m' n' hm' hs' => ⟨hv, b, (hv, instObj 82 d) :: (d, consD w t1 t2 v1 (.ref fv)) :: A, B3, v1 :: us, ds', hm', hs', .cons hA, hB3, by rw [hve, List.reverse_cons, List.append_assoc]; rfl, ?_, ?_, rfl⟩
    · exact (List.mem_append.mp hp).elim (fun h => s3 p h) fun h e => hap' _ (.tail _ (.head _)) p h e.symm
    · exact Sep.mk (List.forall_mem_cons.mpr ⟨hdx, fun p hp => s1 p (.tail _ hp)⟩) (Sep.mk s3 s4)
    · exact List.forall_mem_cons.mpr ⟨hap' _ (.head _), List.forall_mem_cons.mpr ⟨hap' (d, consD w t1 t2 v1 (.ref b)) (.tail _ (.head _)), fun p hp => hap' p (.tail _ (.tail _ hp))⟩⟩
end
theorem nrev_list (w : World) (v : Value) (vs : List Value) (ns : List Int) (la : Addr) (ka : Nat) (cs rest : Led) (hla : (la, listOf [v].toArray ka) ∈ rest) (hc : ChainIn w cs v vs) (ha : Apart cs rest) (hi : IntsAre vs ns) (hb : vs.length ≤ 1000) :
    Ret w 20 200 (.ref 420) [.none, .ref la] (cs ++ rest) (Turned w "list" vs.reverse rest) := by
  have hir := IntsAre.rev hi
  obtain ⟨va, rfl⟩ := hc.ref
  refine Ret.intro ?_
  intro mean mg mb dp un gd cn cs' a ccd cl outer A₀ base h₀ L m hS gS dS tS oS Q E B F XB N TB hk hok hu hret
  have X := Frag.In.keeps XB (Below.stays B)
  have T := Top.keeps TB (Below.stays B)
  refine cells_elim X N hc ha hi fun cl' hC hsep hA hcl N' => ?_
  clear N hc ha
  have hla' : (la, listOf [.ref va].toArray ka) ∈ cl' ++ rest := List.mem_append_right _ hla
  refine wpAny_call ?_
  k_dflt (k_extra "my_enter2")
  have hStopWhile : StopWhile := .mk
  have hsq := SeqIn.list hcl
  k_steps
  rename Fr _ _ _ _ => lF
  rename News _ _ _ _ => lN
  refine While_inv (NrevJ w vs rest) lF (News.sub (l' := cl' ++ rest) lN fun p hp => .tail _ (.tail _ hp)) ⟨64, va, [], cl', [], vs, ⟨rfl, rfl, trivial⟩, fun _ h => h, .nil, hC, rfl, hsep, hA, rfl⟩ ?_
  intro k m₁ n₁ h₁ tk₁ F₁ N₁ hJ
  clear lF lN
  refine hJ.elim F₁ N₁ (fun m₂ fv P F₂ N₂ hP => ?_) fun m₂ fv hv d b t1 t2 v1 k' R F₂ N₂ hxd hr9 hlt hnx => ?_
  · clear F₁ N₁ hJ
    k_steps
    exact hret _ _ _ (P ++ rest) (by k_asm) (by k_asm) ⟨P, rfl, .list (hP.chain hir fun p hp => List.mem_append_left _ hp)⟩
  · clear F₁ N₁ hJ
    k_steps
    refine While_next (by k_asm) (by k_asm) hlt ?_; exact hnx _ _ ⟨rfl, rfl, trivial⟩ fun p hp => by k_mem
theorem nrev_vec (w : World) (x d l : Addr) (t1 : Tok) (n : Nat) (vs : List Value) (la : Addr) (ka : Nat) (cs rest : Led) (hla : (la, listOf [.ref x].toArray ka) ∈ rest) (hx : (x, instObj 125 d) ∈ cs) (hdd : (d, vecD w t1 (.ref l)) ∈ cs) (hl : (l, listOf vs.toArray n) ∈ cs) (ha : Apart cs rest) (hb : vs.length ≤ 1000) :
    Ret w 20 200 (.ref 420) [.none, .ref la] (cs ++ rest) (Turned w "vector" vs.reverse rest) := by
  intro mean mg mb dp un gd cn cs' a ccd cl outer A₀ base h₀ L m s Q E B F XB N TB hk hok hu hret
  have X := Frag.In.keeps XB (Below.stays B)
  have T := Top.keeps TB (Below.stays B)
  have hxd : @Ne Nat x d := fun e => by
    subst e
    have := congrArg Obj.cls (led_one N (List.mem_append_left _ hx) (List.mem_append_left _ hdd)); cases this
  have hld : @Ne Nat l d := fun e => by
    subst e
    exact absurd (Value.type.inj (congrArg Obj.cls (led_one N (List.mem_append_left _ hl) (List.mem_append_left _ hdd)))) (by decide)
  have hr9 : ∀ p ∈ rest, p.1 ≠ d := fun p hp e => ha _ hdd p hp e.symm
  replace N : News h₀ L s.heap ((x, instObj 125 d) :: (l, listOf vs.toArray n) :: (d, vecD w t1 (.ref l)) :: rest) := News.sub N fun p hp => by
    rcases List.mem_cons.mp hp with rfl | hp
    · exact List.mem_append_left _ hx
    · rcases List.mem_cons.mp hp with rfl | hp
      · exact List.mem_append_left _ hl
      · rcases List.mem_cons.mp hp with rfl | hp
        · exact List.mem_append_left _ hdd
        · exact List.mem_append_right _ hp
  refine wpAny_call ?_
  k_dflt (k_extra "my_enter2")
  k_steps
  k_extra "my_ret"
  exact ⟨[_, _, _, _], rfl, .vec (.tail _ (.head _)) (.tail _ (.tail _ (.tail _ (.head _)))) (.head _)⟩
example : True := by
  k_with "@call ref" => ((k_here; (with_reducible show wpAny _ _ (call (Value.ref 413) [_, _]) _ _ _); k_dflt ((refine' Ret.use (lisp_reverse_ok _ _ _ _ _ _ _ _ ?p1 ?p2 ?p3 ?p4 ?p5) K_new ?k1 ?k2 ?k3 ?k4 ?k5 ?kK ?kd ?ku ?_); k_extra "my_use"; (case p1 => k_mem); (case p2 => k_extra "my_seq"); (case p3 => with_reducible assumption); (case p4 => k_extra "my_bound"); (case p5 => with_reducible assumption); refine fun r9 cs9 hS9 hA9 h9 tk9 F9 N9 => ?_;  (try dsimp only); (try k_fold))))
  trivial
theorem nrev_txt (w : World) (x d l : Addr) (t1 t2 : Tok) (n : Nat) (vs : List Value) (ns : List Int) (la : Addr) (ka : Nat) (news : Led) (hla : (la, listOf [.ref x].toArray ka) ∈ news) (hx : (x, instObj 104 d) ∈ news) (hdd : (d, txtD w t1 t2 (.ref l) .none) ∈ news) (hl : (l, listOf vs.toArray n) ∈ news) (hi : IntsAre vs ns) (hb : vs.length ≤ 1000) (hn : ∀ n ∈ ns, 0 ≤ n ∧ n ≤ 1000) :
    Ret w 25 250 (.ref 420) [.none, .ref la] news (NewSeq w "string" vs.reverse news) := by
  have hs : SeqIn w news "string" (.ref x) vs := .txt hx hdd hl
  k_extra "my_enter"
  k_steps
  k_extra "my_ret"
  exact .mk cs9 hS9 hA9
theorem Ret.mono {w : World} {D U D' U' : Nat} {f : Value} {args : List Value} {news : Led} {p q : Value → Led → Prop} (R : Ret w D U f args news p) (hdX : D ≤ D') (hu : U ≤ U') (h : ∀ r n, p r n → q r n) : Ret w D' U' f args news q :=
  fun mean mg mb dp un gd cn cs a ccd cl outer A₀ base h₀ L m s Q E B F X N T hk h1 h2 ret => R mean mg mb dp un gd cn cs a ccd cl outer A₀ base h₀ L m s Q E B F X N T hk (by omega) (by omega) fun r h' tk' n' F' N' p' => ret r h' tk' n' F' N' (h _ _ p')
theorem lisp_nreverse_ok (w : World) (so : String) (v : Value) (vs : List Value) (ns : List Int) (la : Addr) (ka : Nat) (cs rest : Led) (hla : (la, listOf [v].toArray ka) ∈ rest) (hs : SeqIn w cs so v vs) (ha : Apart cs rest) (hi : IntsAre vs ns) (hb : vs.length ≤ 1000) (hn : ∀ n ∈ ns, 0 ≤ n ∧ n ≤ 1000) :
    Ret w 25 250 (.ref 420) [.none, .ref la] (cs ++ rest) (Turned w so vs.reverse rest) := by
  cases hs with
  | list c => exact (nrev_list w v vs ns la ka cs rest hla c ha hi hb).mono (by decide) (by decide) fun _ _ h => h
  | vec a b c => exact (nrev_vec w _ _ _ _ _ vs la ka cs rest hla a b c ha hb).mono (by decide) (by decide) fun _ _ h => h
  | txt a b c => exact (nrev_txt w _ _ _ _ _ _ vs ns la ka (cs ++ rest) (List.mem_append_right _ hla) (List.mem_append_left _ a) (List.mem_append_left _ b) (List.mem_append_left _ c) hi hb hn).mono (by decide) (by decide) fun _ _ h => h.turned
theorem is_array_arr (w : World) (so : String) (x : Value) (vs : List Value) (news : Led) (hs : SeqIn w news so x vs) (hso : so ≠ "list") : Ret w 4 20 (.ref 324) [x] news (ValP (.bool true) news) := by
  cases hs with
  | list c => exact absurd rfl hso
  | vec a b _ => exact is_array_vec w _ _ _ _ a b
  | txt a b _ => exact is_array_txt w _ _ _ _ a b
example : True := by
  k_with "@call ref" => ((k_here; (with_reducible show wpAny _ _ (call (Value.ref 324) [_]) _ _ _); k_dflt ((refine' Ret.use (is_array_arr _ _ _ _ _ ?p1 ?p2) K_val ?k1 ?k2 ?k3 ?k4 ?k5 ?kK ?kd ?ku ?_); k_extra "my_use"; (case p1 => k_extra "my_seq"); (case p2 => with_reducible assumption); refine fun h9 tk9 F9 N9 => ?_;  (try dsimp only); (try k_fold))))
  trivial
example : True := by
  k_with "@call ref" => ((k_here; (with_reducible show wpAny _ _ (call (Value.ref 324) [_]) _ _ _); k_dflt ((refine' Ret.use (is_array_txt _ _ _ _ _ ?p1 ?p2) K_val ?k1 ?k2 ?k3 ?k4 ?k5 ?kK ?kd ?ku ?_); k_extra "my_use"; (case p1 => k_mem); (case p2 => k_mem); refine fun h9 tk9 F9 N9 => ?_;  (try dsimp only); (try k_fold))))
  trivial
example : True := by
  k_with "@call ref" => ((k_here; (with_reducible show wpAny _ _ (call (Value.ref 324) [_]) _ _ _); k_dflt ((refine' Ret.use (is_array_vec _ _ _ _ _ ?p1 ?p2) K_val ?k1 ?k2 ?k3 ?k4 ?k5 ?kK ?kd ?ku ?_); k_extra "my_use"; (case p1 => k_mem); (case p2 => k_mem); refine fun h9 tk9 F9 N9 => ?_;  (try dsimp only); (try k_fold))))
  trivial
example : True := by
  k_with "@call ref" => ((k_here; (with_reducible show wpAny _ _ (call (Value.ref 324) [_]) _ _ _); k_dflt ((refine' Ret.use (is_array_chain _ _ _ _ ?p1) K_val ?k1 ?k2 ?k3 ?k4 ?k5 ?kK ?kd ?ku ?_); k_extra "my_use"; (case p1 => with_reducible assumption); refine fun h9 tk9 F9 N9 => ?_;  (try dsimp only); (try k_fold))))
  trivial
example : True := by
  k_with "@exec Assign cons ListComp" => (k_extra "my comp")
  trivial
example : True := by
  k_with "my_compTA" => ((k_dflt (refine LCt.Assign_ListComp_T (F₀ := by k_asm) (by rfl) (by with_unfolding_all rfl) (by with_unfolding_all rfl) (by decide) (by rfl) (by decide) (by rfl) (by rfl) (by rfl) ?_)))
  trivial
theorem delete_arr (w : World) (so : String) (one : Int) (t : Tok) (x : Value) (vs : List Value) (ns : List Int) (la : Addr) (ka : Nat) (news : Led) (hla : (la, listOf [.int one t, x].toArray ka) ∈ news) (hs : SeqIn w news so x vs) (hso : so ≠ "list") (hi : IntsAre vs ns) (hb : vs.length ≤ 1000) (hn : ∀ n ∈ ns, 0 ≤ n ∧ n ≤ 1000) :
    Ret w 30 300 (.ref 425) [.none, .ref la] news (Turned w so (vs.filter (keepV one)) news) := by
  have hbf : (vs.filter (keepV one)).length ≤ 1000 := Nat.le_trans (List.length_filter_le ..) hb
  have hir := keep_ints (one := one) hi
  have hnr : ∀ n ∈ ns.filter (fun n => !(one == n)), 0 ≤ n ∧ n ≤ 1000 := fun n hm => hn n (List.mem_filter.mp hm).1
  k_extra "my_enterC"
  have hStopComp : StopComp := .mk
  have hStopSrc : StopSrc := .mk
  k_steps
  k_extra "my_compTA"
  k_steps
  rename Fr _ _ _ _ => lF
  rename News _ _ _ _ => lN
  refine LCt.CompSrcT.ledger rfl lF lN (List.mem_cons_self) (by simp only [List.size_toArray, PySem.sizeLine_eq]; omega) (fun g => compJT (fun i ys nw => nw = (l9, listOf vs.toArray kk9) :: (L' + 1, oc9) :: news ∧ ys = (vs.take i).filter (keepV one)) ?turn ?fin _ 0 [] _ (Nat.zero_add _) ⟨rfl, rfl⟩)
  case turn =>
    rintro i ys nw v I oI C oC D m₂ h tk E' hi9 ⟨rfl, rfl⟩ hP ho hm F9 N9 off ne
    have hP' : vs[i]? = some v := by simpa using hP
    obtain ⟨n, t, hni, rfl⟩ := ints_at hi hP'
    have hk := keep_take (one := one) hP'
    clear lF lN
    k_steps
    all_goals
      refine LCg.CompEnd.intro (by k_asm) (by k_asm) _ (fun p hp => hp) off (.inr ⟨_, List.mem_cons_self, rfl, _, rfl⟩) ⟨rfl, ?_⟩
      rw [hk]
      simp_all [keepV]
  case fin =>
    rintro ys nw ⟨rfl, rfl⟩
    rw [show vs.toArray.size = vs.length by simp, List.take_length]
    clear lF lN
    intro D h tk F9 N9 o1
    have o9' := off_one o1
    replace N9 : News g' L' h ((D, listOf (vs.filter (keepV one)).toArray (vs.filter (keepV one)).length) :: (L' + 1, oc9) :: news) := News.sub N9 fun p hp => by
      rcases List.mem_cons.mp hp with rfl | hp
      · exact .head _
      · exact .tail _ (.tail _ hp)
    try dsimp only
    k_steps
    · refine hret _ _ _ news (by k_asm) (News.sub (by k_asm) fun p hp => .tail _ (.tail _ (.tail _ hp))) ⟨[], rfl, ?_⟩
      rw [show vs.filter (keepV one) = vs from List.filter_sublist.eq_of_length (by omega)]
      exact hs
    · replace N9 : News g' L' h9 ((D, listOf (vs.filter (keepV one)).toArray (vs.filter (keepV one)).length) :: (l9, listOf vs.toArray kk9) :: (L' + 1, oc9) :: news) := News.sub N9 fun p hp => by
        rcases List.mem_cons.mp hp with rfl | hp
        · exact .tail _ (.head _)
        · rcases List.mem_cons.mp hp with rfl | hp
          · exact .head _
          · exact .tail _ (.tail _ hp)
      have hD9 : ∀ p ∈ (l9, listOf vs.toArray kk9) :: (L' + 1, oc9) :: news, p.1 ≠ D := List.forall_mem_cons.mpr ⟨Nat.ne_of_gt (o9 _ (.head _)), fun p hp => o9' p (.tail _ hp)⟩
      k_steps
      k_extra "my_ret"
      exact ⟨cs9 ++ [_, _], by rw [List.append_assoc]; rfl, hS9.mono fun p hp => List.mem_append_left _ hp⟩

section
variable {prog : Program} {w : World} {A : Around} {E : Value → Shared → Prop} {Q : Flow → Shared → Prop} {hS : Heap} {gS : Array GenState} {dS : Drawn} {tS : Nat} {oS : OsState} {env : Env} {h₀ : Heap} {L : Addr}
def DoneAt (h₀ : Heap) (L : Addr) (gS : Array GenState) (dS : Drawn) (oS : OsState) (D : (Str → Option Value) → Led → Prop) (f : Flow) (s₃ : Shared) : Prop :=
  f = .next ∧ ∃ h' tk m' n', s₃ = ⟨h', gS, dS, tk, oS⟩ ∧ Fr h₀ L h' m' ∧ News h₀ L h' n' ∧ D m' n'
theorem DoneAt.mk {D : (Str → Option Value) → Led → Prop} {h' : Heap} {tk : Nat} {m' : Str → Option Value} {n' : Led} (F : Fr h₀ L h' m') (N : News h₀ L h' n') (d : D m' n') : DoneAt h₀ L gS dS oS D .next ⟨h', gS, dS, tk, oS⟩ := ⟨rfl, h', tk, m', n', rfl, F, N, d⟩
/-- a while that is left by its test alone -/
theorem While_then {test : Expr} {body : List Stmt} {pos : Pos} {m : Str → Option Value} {news : Led} (J : Nat → (Str → Option Value) → Led → Prop) (D : (Str → Option Value) → Led → Prop) {n₀ : Nat}
    (F : Fr h₀ L hS m) (N : News h₀ L hS news) (hJ : J n₀ m news)
    (turn : ∀ n m₁ news₁ h₁ tk₁, Fr h₀ L h₁ m₁ → News h₀ L h₁ news₁ → J n m₁ news₁ →
      wpAny (model prog w) A (isTrue test env (eval test env)) (fun b s₂ =>
        if b = true then wpAny (model prog w) A (execs body env) (WhileStep2 h₀ L ⟨hS, gS, dS, tS, oS⟩ J (DoneAt h₀ L gS dS oS D) n) E s₂
        else DoneAt h₀ L gS dS oS D .next s₂) E ⟨h₁, gS, dS, tk₁, oS⟩)
    (done : ∀ m₁ news₁ h₁ tk₁, Fr h₀ L h₁ m₁ → News h₀ L h₁ news₁ → D m₁ news₁ → Q .next ⟨h₁, gS, dS, tk₁, oS⟩)
    (hE : PassesOwn (model prog w) A env E := by passes_own) :
    wpAny (model prog w) A (exec (.While test body [] pos) env) Q E ⟨hS, gS, dS, tS, oS⟩ := by
  refine wpAny_mono (While_inv (Q := DoneAt h₀ L gS dS oS D) J F N hJ turn hE) (fun f s₃ h => ?_) fun _ _ e => e
  obtain ⟨rfl, h', tk, m', n', rfl, F', N', d⟩ := h
  exact done m' n' h' tk F' N' d
end
theorem Cells.snoc {w : World} {a : Value} {us : List Value} {x d : Addr} {t1 t2 : Tok} {v1 b : Value} {P : Led} (h : Cells w a us (.ref x) P) : Cells w a (us ++ [v1]) b (P ++ [(x, instObj 82 d), (d, consD w t1 t2 v1 b)]) := h.append (.cons .nil)
theorem intv {vs : List Value} {ns : List Int} (h : IntsAre vs ns) : ∀ v ∈ vs, ∃ n t, v = .int n t := fun v hv => by
  obtain ⟨i, hi, rfl⟩ := List.mem_iff_getElem.mp hv
  obtain ⟨n, t, _, e⟩ := ints_at h (List.getElem?_eq_getElem hi)
  exact ⟨n, t, e⟩
section
variable {w : World} {one : Int} {vs fs : List Value} {cl' rest : Led} {fv : Addr} {k : Nat} {m₁ : Str → Option Value} {n₁ : Led} {h₀ h₁ : Heap} {L : Addr} {G : Prop}
/-- the first loop: what is ahead, what is left -/
def DelJ1 (w : World) (one : Int) (vs : List Value) (cl' rest : Led) (k : Nat) (m' : Str → Option Value) (n' : Led) : Prop :=
  ∃ fv A2 B2 us ds, Has m' [("first", .ref fv)] ∧ (∀ p ∈ A2 ++ B2 ++ rest, p ∈ n') ∧ cl' = A2 ++ B2 ∧ Cells w (.ref fv) ds (.ref 64) B2 ∧ vs = us ++ ds ∧ us.filter (keepV one) = [] ∧ k = ds.length
def DelD1 (w : World) (one : Int) (vs : List Value) (cl' rest : Led) (m' : Str → Option Value) (n' : Led) : Prop :=
  ∃ fv A2 B2 us ds, Has m' [("first", .ref fv)] ∧ (∀ p ∈ A2 ++ B2 ++ rest, p ∈ n') ∧ cl' = A2 ++ B2 ∧ Cells w (.ref fv) ds (.ref 64) B2 ∧ vs = us ++ ds ∧ us.filter (keepV one) = [] ∧ ∀ v r, ds = v :: r → keepV one v = true
/-- the second loop -/
def DelJ2 (w : World) (one : Int) (fs : List Value) (rest : Led) (fv : Addr) (k : Nat) (m' : Str → Option Value) (n' : Led) : Prop :=
  ∃ hv P B G us ds, Has m' [("here", .ref hv), ("first", .ref fv)] ∧ (∀ p ∈ P ++ B ++ G ++ rest, p ∈ n') ∧ Cells w (.ref fv) us (.ref hv) P ∧ Cells w (.ref hv) ds (.ref 64) B ∧ fs = us ++ ds.filter (keepV one) ∧ (∀ v r, ds = v :: r → keepV one v = true) ∧ (∀ v ∈ ds, ∃ n t, v = .int n t) ∧ Sep (P ++ B ++ G) ∧ Apart (P ++ B ++ G) rest ∧ k = ds.length
def DelD2 (w : World) (fs : List Value) (rest : Led) (fv : Addr) (m' : Str → Option Value) (n' : Led) : Prop :=
  ∃ P, Has m' [("first", .ref fv)] ∧ (∀ p ∈ P ++ rest, p ∈ n') ∧ Cells w (.ref fv) fs (.ref 64) P
theorem DelJ1.elim (hJ : DelJ1 w one vs cl' rest k m₁ n₁) (F : Fr h₀ L h₁ m₁) (hiv : ∀ v ∈ vs, ∃ n t, v = .int n t)
    (hnil : ∀ m₂, Fr h₀ L h₁ (Mine.ups [("first", .ref 64)] m₂) → (∀ m', Has m' [("first", .ref 64)] → DelD1 w one vs cl' rest m' n₁) → G)
    (hcons : ∀ m₂ fv d b t1 t2 n1 u1 k', Fr h₀ L h₁ (Mine.ups [("first", .ref fv)] m₂) → (fv, instObj 82 d) ∈ n₁ → (d, consD w t1 t2 (.int n1 u1) (.ref b)) ∈ n₁ → k' < k →
      (keepV one (.int n1 u1) = false → ∀ m', Has m' [("first", .ref b)] → DelJ1 w one vs cl' rest k' m' n₁) → (keepV one (.int n1 u1) = true → ∀ m', Has m' [("first", .ref fv)] → DelD1 w one vs cl' rest m' n₁) → G) : G := by
  obtain ⟨fv, A2, B2, us, ds, hM, hn, hcl2, hB2, hve, hus, rfl⟩ := hJ
  obtain ⟨m₂, rfl⟩ := hM.ups
  have hB0 := hB2
  generalize h64 : Value.ref 64 = tv at hB2
  cases hB2 with
  | nil =>
    obtain rfl : (64 : Addr) = fv := Value.ref.inj h64
    exact hnil _ F fun m' hm' => ⟨_, A2, _, us, [], hm', hn, hcl2, hB0, hve, hus, fun _ _ e => nomatch e⟩
  | @cons v2 v1 _ ds' B3 x d t1 t2 hB3 =>
    subst h64
    obtain ⟨b, rfl⟩ := hB3.ref ⟨64, rfl⟩
    obtain ⟨n1, u1, rfl⟩ := hiv v1 (by rw [hve]; exact List.mem_append_right _ (.head _))
    refine hcons _ _ _ _ _ _ _ _ _ F (hn _ (List.mem_append_left _ (List.mem_append_right _ (.head _)))) (hn _ (List.mem_append_left _ (List.mem_append_right _ (.tail _ (.head _))))) (Nat.lt_succ_self _) (fun e m' hm' => ⟨b, A2 ++ [(fv, instObj 82 d), (d, consD w t1 t2 (.int n1 u1) (.ref b))], B3, us ++ [.int n1 u1], ds', hm', ?_, ?_, hB3, ?_, ?_, rfl⟩) fun e m' hm' => ⟨fv, A2, _, us, _, hm', hn, hcl2, hB0, hve, hus, fun v r q => ?_⟩
    · rw [List.append_assoc A2]; exact hn
    · rw [List.append_assoc A2]; exact hcl2
    · rw [List.append_assoc]; exact hve
    · rw [List.filter_append, hus, List.filter_cons, e]; rfl
    · injection q with q _; rw [← q]; exact e
theorem DelD1.elim (hD : DelD1 w one vs cl' rest m₁ n₁) (F : Fr h₀ L h₁ m₁) (hiv : ∀ v ∈ vs, ∃ n t, v = .int n t) (hA : Apart cl' rest) (hsep : Sep cl')
    (hk : ∀ m₂ fv k, Fr h₀ L h₁ (Mine.ups [("first", .ref fv)] m₂) → (∀ m', Has m' [("here", .ref fv), ("first", .ref fv)] → DelJ2 w one (vs.filter (keepV one)) rest fv k m' n₁) → G) : G := by
  obtain ⟨fv, A2, B2, us, ds, hM, hn, rfl, hB2, hve, hus, hk1⟩ := hD
  obtain ⟨m₂, rfl⟩ := hM.ups
  refine hk _ _ _ F fun m' hm' => ⟨fv, [], B2, [], [], ds, hm', ?_, .nil, hB2, ?_, hk1, ?_, ?_, ?_, rfl⟩
  · rw [List.append_nil]; exact fun p hp => hn p ((List.mem_append.mp hp).elim (fun h => List.mem_append_left _ (List.mem_append_right _ h)) fun h => List.mem_append_right _ h)
  · rw [hve, List.filter_append, hus]
  · exact fun v hv => hiv v (by rw [hve]; exact List.mem_append_right _ hv)
  · rw [List.append_nil]; exact (hsep.perm List.perm_append_comm).left
  · rw [List.append_nil]; exact hA.sub fun p hp => List.mem_append_right _ hp
theorem led_2 {α : Type} {P B G R n : List α} {a b : α} (h : ∀ p ∈ P ++ (a :: b :: B) ++ G ++ R, p ∈ n) : a ∈ n ∧ b ∈ n := ⟨h a (by simp), h b (by simp)⟩
theorem led_2s {α : Type} {P B G : List α} {a b : α} : P ++ (a :: b :: B) ++ G = P ++ [a, b] ++ B ++ G := by simp
theorem led_4 {α : Type} {P B G R : List α} {a b c d : α} : ∀ p ∈ a :: b :: c :: d :: (P ++ B ++ G ++ R), p ∈ P ++ (a :: b :: c :: d :: B) ++ G ++ R := fun p hp => by
  simp only [List.mem_cons, List.mem_append] at hp ⊢
  rcases hp with h | h | h | h | ((h | h) | h) | h <;> simp only [h, true_or, or_true]
theorem led_4d {α : Type} {P B G R n : List α} {a b c d : α} (h : ∀ p ∈ a :: b :: c :: d :: (P ++ B ++ G ++ R), p ∈ n) : ∀ p ∈ P ++ (a :: b :: B) ++ (c :: d :: G) ++ R, p ∈ n := fun p hp => h p (by
  simp only [List.mem_cons, List.mem_append] at hp ⊢
  rcases hp with ((h | h | h | h) | h | h | h) | h <;> simp only [h, true_or, or_true])
theorem led_4k {α : Type} {P B G R n : List α} {a b c d : α} (h : ∀ p ∈ a :: b :: c :: d :: (P ++ B ++ G ++ R), p ∈ n) : ∀ p ∈ P ++ [a, b] ++ (c :: d :: B) ++ G ++ R, p ∈ n := fun p hp => h p (by
  simp only [List.mem_cons, List.mem_append, List.not_mem_nil, or_false] at hp ⊢
  rcases hp with (((h | h | h) | h | h | h) | h) | h <;> simp only [h, true_or, or_true])
theorem perm_4 {α : Type} {P B G : List α} {a b c d : α} : (P ++ (a :: b :: c :: d :: B) ++ G).Perm (b :: a :: c :: d :: (P ++ B ++ G)) := by
  simp only [List.append_assoc, List.cons_append]
  exact List.perm_middle.trans (.trans (.cons _ List.perm_middle) (.trans (.swap _ _ _) (.cons _ (.cons _ (.trans List.perm_middle (.cons _ List.perm_middle))))))
theorem perm_4d {P B G : List Nat} {a b c d : Nat} : (P ++ (a :: b :: c :: d :: B) ++ G).Perm (P ++ (a :: b :: B) ++ (c :: d :: G)) := by
  simp only [List.append_assoc, List.cons_append]
  exact .append_left _ (.cons _ (.cons _ (.symm (.trans List.perm_middle (.cons _ List.perm_middle)))))
theorem addrs_d {P B G : Led} {a b c d : Addr} {oa ob ob' oc od : Obj} : (addrs (P ++ ((a, oa) :: (b, ob) :: (c, oc) :: (d, od) :: B) ++ G)).Perm (addrs (P ++ ((a, oa) :: (b, ob') :: B) ++ ((c, oc) :: (d, od) :: G))) := by
  simp only [addrs, List.map_append, List.map_cons]; exact perm_4d
theorem DelJ2.elim (hJ : DelJ2 w one fs rest fv k m₁ n₁) (F : Fr h₀ L h₁ m₁) (N : News h₀ L h₁ n₁)
    (hnil : ∀ m₂, Fr h₀ L h₁ (Mine.ups [("here", .ref 64), ("first", .ref fv)] m₂) → News h₀ L h₁ n₁ → (∀ m', Has m' [("first", .ref fv)] → DelD2 w fs rest fv m' n₁) → G)
    (hone : ∀ m₂ hv d t1 t2 v1 k', Fr h₀ L h₁ (Mine.ups [("here", .ref hv), ("first", .ref fv)] m₂) → News h₀ L h₁ n₁ → (hv, instObj 82 d) ∈ n₁ → (d, consD w t1 t2 v1 (.ref 64)) ∈ n₁ → k' < k → (∀ m', Has m' [("here", .ref 64), ("first", .ref fv)] → DelJ2 w one fs rest fv k' m' n₁) → G)
    (htwo : ∀ m₂ hv d b e c t1 t2 t3 t4 v1 n2 u2 k1 k2 R, Fr h₀ L h₁ (Mine.ups [("here", .ref hv), ("first", .ref fv)] m₂) → News h₀ L h₁ ((hv, instObj 82 d) :: (d, consD w t1 t2 v1 (.ref b)) :: (b, instObj 82 e) :: (e, consD w t3 t4 (.int n2 u2) (.ref c)) :: R) →
      @Ne Nat hv d → @Ne Nat b d → @Ne Nat e d → (∀ p ∈ R, p.1 ≠ d) → (∀ p ∈ rest, p ∈ R) → k1 < k → k2 < k →
      (keepV one (.int n2 u2) = false → ∀ m' n', Has m' [("here", .ref hv), ("first", .ref fv)] → (∀ p ∈ (hv, instObj 82 d) :: (d, consD w t1 t2 v1 (.ref c)) :: (b, instObj 82 e) :: (e, consD w t3 t4 (.int n2 u2) (.ref c)) :: R, p ∈ n') → DelJ2 w one fs rest fv k1 m' n') →
      (keepV one (.int n2 u2) = true → ∀ m' n', Has m' [("here", .ref b), ("first", .ref fv)] → (∀ p ∈ (hv, instObj 82 d) :: (d, consD w t1 t2 v1 (.ref b)) :: (b, instObj 82 e) :: (e, consD w t3 t4 (.int n2 u2) (.ref c)) :: R, p ∈ n') → DelJ2 w one fs rest fv k2 m' n') → G) : G := by
  obtain ⟨hv, P, B, Gb, us, ds, hM, hn, hP, hB, hf, hk, hd, hsp, hap, rfl⟩ := hJ
  obtain ⟨m₂, rfl⟩ := hM.ups
  generalize h64 : Value.ref 64 = tv at hB
  cases hB with
  | nil =>
    obtain rfl : (64 : Addr) = hv := Value.ref.inj h64
    refine hnil _ F N fun m' hm' => ⟨P, hm', fun p hp => hn p ?_, by rw [hf, List.filter_nil, List.append_nil]; exact hP⟩
    rw [List.append_nil, List.append_assoc]
    exact (List.mem_append.mp hp).elim (fun h => List.mem_append_left _ h) fun h => List.mem_append_right _ (List.mem_append_right _ h)
  | @cons v2 v1 _ ds' B4 x d t1 t2 hB4 =>
    subst h64
    obtain ⟨b, rfl⟩ := hB4.ref ⟨64, rfl⟩
    have hk1 : keepV one v1 = true := hk _ _ rfl
    have hd3 : ∀ v ∈ ds', ∃ n t, v = .int n t := fun v hv => hd v (.tail _ hv)
    have h2 := led_2 hn
    rw [List.filter_cons, if_pos hk1] at hf
    generalize h64 : Value.ref 64 = tv at hB4
    cases hB4 with
    | nil =>
      obtain rfl : (64 : Addr) = b := Value.ref.inj h64
      rw [led_2s] at hn hsp hap
      exact hone _ _ _ _ _ _ _ F N h2.1 h2.2 (Nat.lt_succ_self _) fun m' hm' => ⟨64, _, [], Gb, us ++ [v1], [], hm', hn, hP.snoc, .nil, by rw [hf]; exact (List.append_nil _).symm, (fun _ _ q => nomatch q), List.forall_mem_nil _, hsp, hap, rfl⟩
    | @cons v2 v3 _ ds'' B5 x e t3 t4 hB5 =>
      subst h64
      obtain ⟨c, rfl⟩ := hB5.ref ⟨64, rfl⟩
      obtain ⟨n2, u2, rfl⟩ := hd3 _ (.head _)
      obtain ⟨s1, _⟩ := (hsp.perm perm_4).cons
      refine htwo m₂ hv d b e c t1 t2 t3 t4 v1 n2 u2 (ds''.length + 1) (ds''.length + 1) (P ++ B5 ++ Gb ++ rest) F (News.sub N fun p hp => hn p (led_4 p hp)) (s1 _ (.head _)) (s1 _ (.tail _ (.head _))) (s1 _ (.tail _ (.tail _ (.head _)))) (fun p hp => ?_) (fun p hp => List.mem_append_right _ hp) (Nat.lt_succ_self _) (Nat.lt_succ_self _) (fun q m' n' hm' hs' => ?_) fun q m' n' hm' hs' => ?_
      · rcases List.mem_append.mp hp with hp | hp
        · exact s1 _ (.tail _ (.tail _ (.tail _ hp)))
        · exact fun q => hap (d, consD w t1 t2 v1 (.ref b)) (List.mem_append_left _ (List.mem_append_right _ (.tail _ (.head _)))) p hp q.symm
      · refine ⟨hv, P, _, _, us, v1 :: ds'', hm', led_4d hs', hP, .cons hB5, ?_, fun v r q => ?_, fun v hv => ?_, hsp.addr addrs_d, hap.addr fun a ha => addrs_d.mem_iff.mpr ha, rfl⟩
        · rw [hf, List.filter_cons, q, List.filter_cons, if_pos hk1]; rfl
        · injection q with q _; rw [← q]; exact hk1
        · rcases List.mem_cons.mp hv with rfl | hv
          · exact hd _ (.head _)
          · exact hd3 _ (.tail _ hv)
      · rw [led_2s] at hsp hap
        refine ⟨b, _, _, Gb, us ++ [v1], .int n2 u2 :: ds'', hm', led_4k hs', hP.snoc, .cons hB5, by rw [hf, List.append_assoc]; rfl, fun v r q' => ?_, hd3, hsp, hap, rfl⟩
        injection q' with q' _; rw [← q']; exact q
theorem DelD2.elim (hD : DelD2 w fs rest fv m₁ n₁) (F : Fr h₀ L h₁ m₁) (hk : ∀ m₂ P, Fr h₀ L h₁ (Mine.ups [("first", .ref fv)] m₂) → (∀ p ∈ P ++ rest, p ∈ n₁) → Cells w (.ref fv) fs (.ref 64) P → G) : G := by
  obtain ⟨P, hM, hn, hP⟩ := hD
  obtain ⟨m₂, rfl⟩ := hM.ups
  exact hk _ P F hn hP
theorem DelJ1.all (h : DelJ1 w one vs cl' rest k m₁ n₁) : ∀ p ∈ rest, p ∈ n₁ := by
  obtain ⟨_, _, _, _, _, _, hn, _⟩ := h; exact fun p hp => hn p (List.mem_append_right _ hp)
theorem DelD1.all (h : DelD1 w one vs cl' rest m₁ n₁) : ∀ p ∈ rest, p ∈ n₁ := by
  obtain ⟨_, _, _, _, _, _, hn, _⟩ := h; exact fun p hp => hn p (List.mem_append_right _ hp)
theorem DelJ2.all (h : DelJ2 w one fs rest fv k m₁ n₁) : ∀ p ∈ rest, p ∈ n₁ := by
  obtain ⟨_, _, _, _, _, _, _, hn, _⟩ := h; exact fun p hp => hn p (List.mem_append_right _ hp)
end
theorem delete_list (w : World) (one : Int) (t : Tok) (v : Value) (vs : List Value) (ns : List Int) (la : Addr) (ka : Nat) (cs rest : Led) (hla : (la, listOf [.int one t, v].toArray ka) ∈ rest) (hc : ChainIn w cs v vs) (ha : Apart cs rest) (hi : IntsAre vs ns) (hb : vs.length ≤ 1000) :
    Ret w 30 300 (.ref 425) [.none, .ref la] (cs ++ rest) (Turned w "list" (vs.filter (keepV one)) rest) := by
  have hir := keep_ints (one := one) hi
  have hiv := intv hi
  obtain ⟨va, rfl⟩ := hc.ref
  refine Ret.intro ?_
  intro mean mg mb dp un gd cn cs' a ccd cl outer A₀ base h₀ L m hS gS dS tS oS Q E B F XB N TB hk hok hu hret
  have X := Frag.In.keeps XB (Below.stays B)
  have T := Top.keeps TB (Below.stays B)
  refine cells_elim X N hc ha hi fun cl' hC hsep hA hcl N => ?_
  rename (News _ _ _ (cs ++ rest)) => hNold
  clear hNold hc ha
  have hla' : (la, listOf [.int one t, .ref va].toArray ka) ∈ cl' ++ rest := List.mem_append_right _ hla
  refine wpAny_call ?_
  k_dflt (k_extra "my_enterC2")
  have hcl3 : ChainIn w ((L' + 1, oc9) :: (cl' ++ rest)) (.ref va) vs := hcl.mono fun _ h => .tail _ h
  have hsq := SeqIn.list hcl3
  have hStopWhile : StopWhile := .mk
  k_steps
  rename Fr _ _ _ _ => lF
  rename News _ _ _ _ => lN
  have hA9 : Apart cl' ((L' + 1, oc9) :: rest) := fun p hp => List.forall_mem_cons.mpr ⟨Nat.ne_of_lt (Nat.lt_succ_of_lt (oL9 p (List.mem_append_left _ hp))), hA p hp⟩
  replace lN := News.sub (l' := cl' ++ (L' + 1, oc9) :: rest) lN (fun p hp => (List.mem_append.mp hp).elim (fun h => .tail _ (.tail _ (List.mem_append_left _ h))) fun h => (List.mem_cons.mp h).elim (fun h => h ▸ .tail _ (.head _)) fun h => .tail _ (.tail _ (List.mem_append_right _ h)))
  have hStopWhile : StopWhile := .mk
  refine While_then (DelJ1 w one vs cl' ((L' + 1, oc9) :: rest)) (DelD1 w one vs cl' ((L' + 1, oc9) :: rest)) lF lN ⟨va, [], cl', [], vs, ⟨rfl, trivial⟩, fun _ h => h, rfl, hC, rfl, rfl, rfl⟩ ?turn ?done
  case turn =>
    intro k m₁ n₁ h₁ tk₁ F₁ N₁ hJ
    clear lF lN
    have hO : (L' + 1, oc9) ∈ n₁ := hJ.all _ (.head _)
    have hla2 : (la, listOf [.int one t, .ref va].toArray ka) ∈ n₁ := hJ.all _ (.tail _ hla)
    refine hJ.elim F₁ hiv (fun m₂ F₂ hd => ?_) fun m₂ fv d b t1 t2 n1 u1 k' F₂ hm1 hm2 hlt hnx hst => ?_
    · clear F₁ hJ
      k_steps
      refine .mk (by k_asm) N₁ ?_; exact hd _ ⟨rfl, trivial⟩
    · clear F₁ hJ
      k_steps
      · refine While_next (by k_asm) (by k_asm) hlt ?_; exact hnx (by simp_all [keepV]) _ ⟨rfl, trivial⟩
      · refine .mk (by k_asm) (by k_asm) ?_; exact hst (by simp_all [keepV]) _ ⟨rfl, trivial⟩
  case done =>
    intro m₁ n₁ h₁ tk₁ F₁ N₁ hD
    clear lF lN
    have hO : (L' + 1, oc9) ∈ n₁ := hD.all _ (.head _)
    have hla2 : (la, listOf [.int one t, .ref va].toArray ka) ∈ n₁ := hD.all _ (.tail _ hla)
    refine hD.elim F₁ hiv hA9 hsep fun m₂ fv k F₂ hj => ?_
    clear F₁ hD
    try dsimp only
    k_steps
    rename Fr _ _ _ _ => lF
    rename News _ _ _ _ => lN
    refine While_then (DelJ2 w one (vs.filter (keepV one)) ((L' + 1, oc9) :: rest) fv) (DelD2 w (vs.filter (keepV one)) ((L' + 1, oc9) :: rest) fv) lF lN (hj _ ⟨rfl, rfl, trivial⟩) ?turn2 ?done2
    case turn2 =>
      intro k m₁ n₁ h₁ tk₁ F₁ N₁ hJ
      clear lF lN hj hO hla2
      have hO : (L' + 1, oc9) ∈ n₁ := hJ.all _ (.head _)
      have hla2 : (la, listOf [.int one t, .ref va].toArray ka) ∈ n₁ := hJ.all _ (.tail _ hla)
      refine hJ.elim F₁ N₁ (fun m₂ F₂ N₂ hd => ?_) (fun m₂ hv d t1 t2 v1 k' F₂ N₂ hm1 hm2 hlt hnx => ?_) fun m₂ hv d b e c t1 t2 t3 t4 v1 n2 u2 k1 k2 R F₂ N₂ hxd hbd hed hr9 hR hl1 hl2 hdr hkp => ?_
      · clear F₁ N₁ hJ
        k_steps
        refine .mk (by k_asm) (by k_asm) ?_; exact hd _ ⟨rfl, trivial⟩
      · clear F₁ N₁ hJ
        k_steps
        refine While_next (by k_asm) (by k_asm) hlt ?_; exact hnx _ ⟨rfl, rfl, trivial⟩
      · clear F₁ N₁ hJ hO hla2
        have hO : (L' + 1, oc9) ∈ R := hR _ (.head _)
        have hla2 : (la, listOf [.int one t, .ref va].toArray ka) ∈ R := hR _ (.tail _ hla)
        k_steps
        · refine While_next (by k_asm) (by k_asm) hl1 ?_; exact hdr (by simp_all [keepV]) _ _ ⟨rfl, rfl, trivial⟩ fun _ h => h
        · refine While_next (by k_asm) (by k_asm) hl2 ?_; exact hkp (by simp_all [keepV]) _ _ ⟨rfl, rfl, trivial⟩ fun _ h => h
    case done2 =>
      intro m₁ n₁ h₁ tk₁ F₁ N₁ hD
      refine hD.elim F₁ fun m₂ P F₂ hn hP => ?_
      clear lF lN hj hO hla2 F₁ hD
      try dsimp only
      k_steps
      refine hret _ _ _ (P ++ rest) (by k_asm) (News.sub (by k_asm) fun p hp => hn p ((List.mem_append.mp hp).elim (fun h => List.mem_append_left _ h) fun h => List.mem_append_right _ (.tail _ h))) ⟨P, rfl, .list (hP.chain hir fun p hp => List.mem_append_left _ hp)⟩
theorem lisp_delete_ok (w : World) (so : String) (one : Int) (t : Tok) (v : Value) (vs : List Value) (ns : List Int) (la : Addr) (ka : Nat) (cs rest : Led) (hla : (la, listOf [.int one t, v].toArray ka) ∈ rest) (hs : SeqIn w cs so v vs) (ha : Apart cs rest) (hi : IntsAre vs ns) (hb : vs.length ≤ 1000) (hn : ∀ n ∈ ns, 0 ≤ n ∧ n ≤ 1000) :
    Ret w 30 300 (.ref 425) [.none, .ref la] (cs ++ rest) (Turned w so (vs.filter (keepV one)) rest) := by
  have up : ∀ r n', Turned w so (vs.filter (keepV one)) (cs ++ rest) r n' → Turned w so (vs.filter (keepV one)) rest r n' := by
    rintro r n' ⟨c, rfl, h⟩
    exact ⟨c ++ cs, by rw [List.append_assoc], h⟩
  by_cases hso : so = "list"
  · subst hso
    exact delete_list w one t v vs ns la ka cs rest hla (hs.apart rfl) ha hi hb
  · exact (delete_arr w so one t _ vs ns la ka (cs ++ rest) (List.mem_append_right _ hla) (hs.mono fun p hp => List.mem_append_left _ hp) hso hi hb hn).mono (Nat.le_refl _) (Nat.le_refl _) up
theorem sigC (P : Params) : ∃ nm q bs sn sub ab col dd k0 k1 k2 k3 k5, (hd.heap_39 P).lookup 38 = some (excClassObj nm q 38 37 bs [.type "Exception", .type "BaseException", .type "object"] true sn sub ab col dd k0 k1 k2 k3 k5 "Exception.__new__") :=
  ⟨_, _, _, _, _, _, _, _, _, _, _, _, _, rfl⟩
theorem sig_ns (P : Params) : nsOkIn (hd.heap_39 P) 37 = true := by kernel_rfl
theorem sig_init (P : Params) : findIn (hd.heap_39 P) (.ref 38) "__init__" = some (some (.ref 35)) := by kernel_rfl
theorem sig_init_fn (P : Params) : typeIn (hd.heap_39 P) (.ref 35) = some (.type "function") := by kernel_rfl
theorem sig_call (P : Params) : specialIn (hd.heap_39 P) (.ref 38) "__call__" = some (some (.builtin "type.__call__")) := by kernel_rfl
theorem sig_type (P : Params) : instIn (hd.heap_39 P) (.ref 38) (.type "type") = some true := by kernel_rfl
theorem sig_self (P : Params) : mroIn (hd.heap_39 P) 38 (.ref 38) = some true := by kernel_rfl
theorem sig_none (P : Params) {x : Str} (h : nsIn (hd.heap_39 P) 37 x = some none) {hh : Heap} (X : (hd.heap_39 P).In hh) : hh.nsMap 37 x = none := nsMap_none_of_in X (sig_ns P) h
/-- an exception of the project's own, as made -/
abbrev sigObj (t : Addr) : Obj := { cls := .ref 38, data := .fields #[.ref t, .none, .none, .none, .bool false, .none] }
section
variable {w : World} {A : Around} {E : Value → Shared → Prop} {s : Shared} {h₀ : Heap} {L : Addr} {m : Str → Option Value} {news : Led} {R : Result → Shared → Prop}
theorem make_sig {v1 v2 : Value} (F : Fr h₀ L s.heap m) (X : (hd.heap_39 w.params).In h₀) (N : News h₀ L s.heap news)
    (h : ∀ e t h', Fr h₀ L h' m → News h₀ L h' ((e, sigObj t) :: (t, tupOf [v1, v2]) :: news) → Over news t → @LT.lt Nat _ t e →
      codeAny (model PR w) (A.under (.builtin "type.__call__" ⟨[.ref 38, v1, v2], []⟩)) (.call (.ref 35) ⟨[.ref e, v1, v2], []⟩) (InitBack e R) { s with heap := h' }) :
    codeAny (model PR w) A (.call (.ref 38) ⟨[v1, v2], []⟩) R s := by
  replace X := X.keeps F.keep
  obtain ⟨nm, q, bs, sn, sub, ab, col, dd, k0, k1, k2, k3, k5, hK⟩ := sigC w.params
  have hC := X _ _ hK
  obtain ⟨hh, g, d, t, os⟩ := s
  dsimp only at X hC F N h
  have FB := PySem.F.excBase_Exception
  have call := looks_specialIn (M := model PR w) X (sig_call w.params)
  have typ := looks_instIn (M := model PR w) X (sig_type w.params)
  have self := looks_mroIn (M := model PR w) X (sig_self w.params)
  have hi := looks_findIn (M := model PR w) X (sig_init w.params)
  refine codeAny_of_tree ?_
  show wpAny _ _ (callAny (.ref 38) _) _ _ _
  refine nd_load hC ?_
  show wpAny _ _ (callAny.viaDunder (.ref 38) _) _ _ _
  unfold callAny.viaDunder
  refine wpAny_bind (call.at ?_)
  try dsimp only
  rw [tc_bind]
  refine wpAny_bind (wpAny_pure (wpAny_bind (wpAny_pure ?_)))
  refine wpAny_pure (a := Fin.again (.call (.builtin "type.__call__") ⟨.ref 38 :: [v1, v2], []⟩)) (And.intro rfl ?_)
  refine codeAny_call_builtin_at (Code.quiet_builtin _ (by decide +kernel)) entry_typeCall (check_slot tc_kind tc_split typ (tc_args _ _ _) ?_)
  unfold Builtin.«type.__call__»
  repeat (first | with_reducible refine wpAny_loadPart_at hC ?_ | with_reducible refine wpAny_madeBy_exc hC ?_ | wp_step)
  refine codeAny_call_builtin_code (Code.quiet_builtin _ FB.quiet) (wpAny_check_new_sub FB hC ?_)
  refine codeAny_exc_new_sub FB hC ?_ (by simp [PySem.sizeLine_eq])
  show wpAny _ _ _ _ _ _
  have k : ∀ b o, hh.get? b = some o → ((hh.push (tupOf [v1, v2])).push (sigObj hh.objs.size)).get? b = some o := fun b o e => Heap.get?_push_of_some _ (Heap.get?_push_of_some _ e)
  have hx : ((hh.push (tupOf [v1, v2])).push (sigObj hh.objs.size)).get? (hh.objs.size + 1) = some (sigObj hh.objs.size) := by heap_get
  have t1 : Looks (model PR w) ((hh.push (tupOf [v1, v2])).push (sigObj hh.objs.size)) (typeOf (.ref (hh.objs.size + 1))) (.ref 38) := (Looks.ld hx).andThen .now
  have s1 := self.keeps k
  have i1 := hi.keeps k
  have b1 := (bind_fn (M := model PR w) X (.ref (hh.objs.size + 1)) (sig_init_fn w.params)).keeps k
  have N' := (N.push F (tupOf [v1, v2])).push (F.push _) (sigObj hh.objs.size)
  rw [Heap.size_push] at N'
  have z := h _ hh.objs.size _ ((F.push _).push _) N' (fun p hp => Heap.lt_size (N p hp).1) (Nat.lt_succ_self _)
  unfold isInstance callSpecial? specialOf
  repeat (first | with_reducible refine wpAny_call ?_ | lk)
  refine codeAny_mono z fun r s' z => ?_
  rcases r with e | (v | _ | _ | _) <;> first | exact z | exact z.elim | skip
  obtain ⟨rfl, z⟩ := z
  exact wpAny_pure (wpAny_pure z)
end
def DictIs (o : Obj) (m : Str → Option Value) : Prop := ∃ es ep, o.data = .dict es ep ∧ StrKeys es ∧ UniqKeys es ∧ ∀ name, nsFind es name = m name
theorem DictIs.of {h : Heap} {d : Addr} {m : Str → Option Value} (x : h.Ns1 d m) : ∃ o, h.get? d = some o ∧ DictIs o m := let ⟨o, es, ep, e, r⟩ := x; ⟨o, e, es, ep, r⟩
theorem DictIs.ns1 {h : Heap} {d : Addr} {o : Obj} {m : Str → Option Value} (x : DictIs o m) (e : h.get? d = some o) : h.Ns1 d m := let ⟨es, ep, r⟩ := x; ⟨o, es, ep, e, r⟩
/-- an exception of the project's own with its fields' dict -/
abbrev sigObjD (t d : Addr) : Obj := { cls := .ref 38, dict := some d, data := .fields #[.ref t, .none, .none, .none, .bool false, .none] }
theorem fr_two {h₀ h h' : Heap} {L a b : Addr} {m : Str → Option Value} (F : Fr h₀ L h m) (k : ∀ c o, c ≠ a → c ≠ b → h.get? c = some o → h'.get? c = some o) (ha : h₀.get? a = none) (hb : h₀.get? b = none) (la : a ≠ L) (lb : b ≠ L) : Fr h₀ L h' m :=
  ⟨F.ns.at' fun o e => k L o la.symm lb.symm e, fun c o e => k c o (fun q => by rw [q, ha] at e; cases e) (fun q => by rw [q, hb] at e; cases e) (F.keep c o e), F.above⟩
theorem sig_setattr (P : Params) : findIn (hd.heap_39 P) (.ref 38) "__setattr__" = some (some (.builtin "object.__setattr__")) := by kernel_rfl
theorem sig_mro (P : Params) : ∃ cd, clsIn (hd.heap_39 P) 38 = some cd ∧ cd.mro = [.ref 38, .type "Exception", .type "BaseException", .type "object"] ∧ cd.hasDict = true := ⟨_, rfl, rfl, rfl⟩
theorem sig_object (P : Params) : mroIn (hd.heap_39 P) 38 (.type "object") = some true := by kernel_rfl
theorem sig_base (P : Params) : mroIn (hd.heap_39 P) 38 (.type "BaseException") = some true := by kernel_rfl
section
variable {w : World} {A : Around} {E : Value → Shared → Prop} {s : Shared} {e : Addr} {ox : Obj} {od : Option Obj} {name : Str} {tk : Tok} {v : Value} {R : Result → Shared → Prop}
open Builtin Builtin.ObjectAttr in
theorem sig_open (X : (hd.heap_39 w.params).In s.heap) (I : InstAt s.heap e ox 38 od) (ha : findIn (hd.heap_39 w.params) (.ref 38) name = some none)
    (h : wpAny (model PR w) A.in1 (storeInOwnDict (.ref e) (.ref 38) (.str name tk) name v false)
      (fun fin s' => match fin with | .done f => R (.ok f) s' | .again c' => c'.quiet = true ∧ codeAny (model PR w) A c' R s') (fun e s' => R (.error e) s') s) :
    codeAny (model PR w) A (.call (.builtin "object.__setattr__") ⟨[.ref e, .str name tk, v], []⟩) R s := by
  have SF := PySem.F.store_object
  obtain ⟨cd, hc, hmr, _⟩ := sig_mro w.params
  have sub : Looks (model PR w) s.heap (isInstance (.ref e) (.type "object")) true := I.type.andThen (looks_mroIn X (sig_object w.params))
  refine codeAny_call_builtin SF.slot.plain SF.entry (@check_slot (model PR w) _ _ s "object.__setattr__" "object" "__setattr__" (.ref e) [.str name tk, v] [] _ SF.kind SF.split sub (SF.args (.ref e) (.str name tk) v) ?_)
  have hm : Looks (model PR w) s.heap (mroOf (.ref 38)) cd.mro := (looks_clsIn X hc).andThen .now
  rw [osa_eq, refuse_eq]
  refine wpAny_bind (wpAny_bind (I.type.here (wpAny_bind (hm.here ?_))))
  rw [hmr, refuseLoop_ref, PySem.F.store_Exception.passes]
  refine wpAny_pure (wpAny_bind (I.type.here (wpAny_bind ((looks_findIn X ha).here (wpAny_bind (Looks.now.here ?_))))))
  exact h
open Builtin Builtin.ObjectAttr in
theorem dict_store {dx : Addr} {mA : Str → Option Value} {Q : Fin → Shared → Prop} {hh : Heap} {g : Array GenState} {dr : Drawn} {k : Nat} {os : OsState} {ns : List Str} (D : hh.Ns1 dx mA) (hw : Within mA ns) (hz : ns.length ≤ 1000)
    (h : ∀ h', h'.Ns1 dx (fun y => if y = name then some v else mA y) → Heap.SameBut dx hh h' → ∀ k', Q (.done (.ret .none)) ⟨h', g, dr, k', os⟩) :
    wpAny (model PR w) A (storeInDict dx (.str name tk) name v) Q E ⟨hh, g, dr, k, os⟩ := by
  unfold storeInDict newKeyGuard
  refine wpAny_bind (wpAny_pure (wpAny_bind (wpAny_nsSet1 D fun h' hn' hs => ?_)))
  obtain ⟨oD, esD, epD, hoD, hdD, hcD⟩ := hn'.count (Within.cons name v hw)
  refine wpAny_bind (wpAny_lookBehind hoD (by rw [hdD]; exact pastItsLine_dict (Nat.le_trans hcD (by rw [List.length_cons, sizeLine_eq]; omega))) ?_)
  exact wpAny_pure (h h' hn' hs _)
end
section
variable {w : World} {A : Around} {E : Value → Shared → Prop} {s : Shared} {h₀ : Heap} {L e t : Addr} {m : Str → Option Value} {rest : Led} {name : Str} {v : Value} {Q : Unit → Shared → Prop}
theorem sig_first (F : Fr h₀ L s.heap m) (X : (hd.heap_39 w.params).In h₀) (N : News h₀ L s.heap ((e, sigObj t) :: rest)) (hne : ∀ p ∈ rest, p.1 ≠ e) (ha : findIn (hd.heap_39 w.params) (.ref 38) name = some none)
    (h : ∀ d od h' tk', Fr h₀ L h' m → News h₀ L h' ((e, sigObjD t d) :: (d, od) :: rest) → (∀ p ∈ rest, p.1 ≠ d) → d ≠ e → DictIs od (fun y => if y = name then some v else none) → Q () { s with heap := h', toks := tk' }) :
    wpAny (model PR w) A (setAttr (.ref e) name v) Q E s := by
  have X' := X.keeps F.keep
  obtain ⟨cd, hcd, hmr, hhd⟩ := sig_mro w.params
  obtain ⟨hh, g, dr, tk, os⟩ := s
  dsimp only at X' F N h
  have hx := (N _ (.head _)).1
  have I : InstAt hh e (sigObj t) 38 none := ⟨hx, rfl, rfl, trivial⟩
  refine set_plain X' I (sig_setattr w.params) (sig_open X' I ha ?_)
  refine wpAny_bind (wpAny_pure (wpAny_bind (wpAny_bind (wpAny_loadPart hx (wpAny_bind ((looks_clsIn X' hcd).here ?_))))))
  rw [hhd]
  have hx₁ : (hh.push { cls := .type "dict", data := .dict #[] }).get? e = some (sigObj t) := Heap.get?_push_of_some _ hx
  have hxs : e ≠ hh.objs.size := Nat.ne_of_lt (Heap.lt_size hx)
  refine wpAny_bind (wpAny_alloc' (wpAny_bind (wpAny_update' hx₁ ?_)))
  refine wpAny_pure (a := some hh.objs.size) ?_
  have hgd : ((hh.push { cls := .type "dict", data := .dict #[] }).update e fun o => { o with dict := some hh.objs.size }).get? hh.objs.size = some { cls := .type "dict", data := .dict #[] } :=
    (Heap.get?_update_ne _ _ _ _ hxs.symm).trans (Heap.get?_push_at rfl rfl)
  have hnd : ((hh.push { cls := .type "dict", data := .dict #[] }).update e fun o => { o with dict := some hh.objs.size }).Ns hh.objs.size (fun _ => none) :=
    ⟨_, #[], _, hgd, rfl, fun e he => absurd he (by simp), fun _ => rfl⟩
  have hxe : ((hh.push { cls := .type "dict", data := .dict #[] }).update e fun o => { o with dict := some hh.objs.size }).get? e = some (sigObjD t hh.objs.size) := Heap.get?_update_self _ hx₁ rfl
  refine dict_store (ns := []) (Heap.Ns1.of_empty hnd) Within.nil (Nat.zero_le _) fun h' hn' hs k' => ?_
  obtain ⟨od, hod, hD⟩ := DictIs.of hn'
  have fresh : ∀ c o, hh.get? c = some o → c ≠ hh.objs.size := fun c o q => Nat.ne_of_lt (Heap.lt_size q)
  have keep : ∀ c o, c ≠ e → c ≠ hh.objs.size → hh.get? c = some o → h'.get? c = some o := fun c o q1 q2 q =>
    (hs.2 c q2).trans ((Heap.get?_update_ne _ _ _ _ q1).trans (Heap.get?_push_of_some _ q))
  have he0 : h₀.get? e = none := (N _ (.head _)).2.2
  have hd0 : h₀.get? hh.objs.size = none := none_at_size (s := ⟨hh, g, dr, tk, os⟩) F
  have hLe : e ≠ L := (N _ (.head _)).2.1
  have hLd : hh.objs.size ≠ L := Nat.ne_of_gt F.ns.lt
  refine h hh.objs.size od h' k' (fr_two F keep he0 hd0 hLe hLd) (fun p hp => ?_) (fun p hp => fresh _ _ (N p (.tail _ hp)).1) hxs.symm hD
  rcases List.mem_cons.mp hp with rfl | hp
  · exact ⟨(hs.2 e hxs).trans hxe, hLe, he0⟩
  · rcases List.mem_cons.mp hp with rfl | hp
    · exact ⟨hod, hLd, hd0⟩
    · have z := N p (.tail _ hp)
      exact ⟨keep _ _ (hne p hp) (fresh _ _ z.1) z.1, z.2⟩
theorem sig_next {d : Addr} {od : Obj} {mA : Str → Option Value} {ns : List Str} (F : Fr h₀ L s.heap m) (X : (hd.heap_39 w.params).In h₀) (N : News h₀ L s.heap ((e, sigObjD t d) :: (d, od) :: rest)) (hne : ∀ p ∈ rest, p.1 ≠ d) (hde : d ≠ e) (D : DictIs od mA) (hw : Within mA ns) (hz : ns.length ≤ 1000) (ha : findIn (hd.heap_39 w.params) (.ref 38) name = some none)
    (h : ∀ od h' tk', Fr h₀ L h' m → News h₀ L h' ((e, sigObjD t d) :: (d, od) :: rest) → DictIs od (fun y => if y = name then some v else mA y) → Q () { s with heap := h', toks := tk' }) :
    wpAny (model PR w) A (setAttr (.ref e) name v) Q E s := by
  have X' := X.keeps F.keep
  obtain ⟨cd, hcd, hmr, hhd⟩ := sig_mro w.params
  obtain ⟨hh, g, dr, tk, os⟩ := s
  dsimp only at X' F N h
  have hx := (N _ (.head _)).1
  have hdd := N _ (.tail _ (.head _))
  have I : InstAt hh e (sigObjD t d) 38 (some od) := ⟨hx, rfl, rfl, hdd.1⟩
  refine set_plain X' I (sig_setattr w.params) (sig_open X' I ha ?_)
  refine wpAny_bind (wpAny_pure (wpAny_bind (wpAny_bind (wpAny_loadPart hx (wpAny_bind ((looks_clsIn X' hcd).here ?_))))))
  rw [hhd]
  refine wpAny_pure (a := some d) ?_
  refine dict_store (D.ns1 hdd.1) hw hz fun h' hn' hs k' => ?_
  obtain ⟨od', hod, hD⟩ := DictIs.of hn'
  have keep : ∀ c o, c ≠ d → c ≠ d → hh.get? c = some o → h'.get? c = some o := fun c o q1 _ q => (hs.2 c q1).trans q
  refine h od' h' k' (fr_two F keep hdd.2.2 hdd.2.2 hdd.2.1 hdd.2.1) (fun p hp => ?_) hD
  rcases List.mem_cons.mp hp with rfl | hp
  · exact ⟨(hs.2 e hde.symm).trans hx, (N _ (.head _)).2⟩
  · rcases List.mem_cons.mp hp with rfl | hp
    · exact ⟨hod, hdd.2⟩
    · have z := N p (.tail _ (.tail _ hp))
      exact ⟨(hs.2 _ (hne p hp)).trans z.1, z.2⟩
end
theorem sig_no_symbol (P : Params) : findIn (hd.heap_39 P) (.ref 38) "symbol" = some none := by kernel_rfl
theorem sig_no_data (P : Params) : findIn (hd.heap_39 P) (.ref 38) "data" = some none := by kernel_rfl
/-- the dict of an exception of the project's own tells this symbol -/
def SigD (od : Obj) (sym : Str) : Prop := ∃ mA tk, DictIs od mA ∧ mA "symbol" = some (.str sym tk)
theorem mkSig (w : World) (sym : Str) (ts : Tok) (v2 : Value) (news : Led) : Ret w 6 40 (.ref 38) [.str sym ts, v2] news (fun r n' => ∃ e t d od tp, r = .ref e ∧ n' = (e, sigObjD t d) :: (d, od) :: (t, tp) :: news ∧ SigD od sym ∧ (∀ p ∈ news, p.1 ≠ e) ∧ (∀ p ∈ news, p.1 ≠ d) ∧ d ≠ e) := by
  k_extra "my_intro"
  refine wpAny_call (make_sig F X N ?_)
  intro e t h' F' N' o9 l9
  have k9 := allLt_of o9
  k_lt2 l9
  k_dflt (k_extra "my_enter2")
  k_steps
  have hne : ∀ p ∈ (t, tupOf [.str sym ts, v2]) :: news, p.1 ≠ e := List.forall_mem_cons.mpr ⟨Nat.ne_of_lt l9, ne_of_over (o9.lt l9)⟩
  rename Fr _ _ _ _ => lF
  refine sig_first lF X' (by k_asm) hne (sig_no_symbol _) ?_
  clear lF
  intro d od h9 tk9 F9 N9 o1 hde D1
  try dsimp only
  k_steps
  rename Fr _ _ _ _ => lF
  refine sig_next lF X' (by k_asm) o1 hde D1 (ns := ["symbol"]) (Within.cons _ _ Within.nil) (by decide) (sig_no_data _) ?_
  clear lF
  intro od' h9 tk9 F9 N9 D2
  try dsimp only
  k_steps
  k_extra "my_ret"
  exact ⟨e, t, d, od', _, rfl, rfl, ⟨_, ts, D2, rfl⟩, fun p hp => hne p (.tail _ hp), fun p hp => o1 p (.tail _ hp), hde⟩
/-- an exception of the project's own on its way: its object still bears its class and its dict -/
def FlyD (base : Heap) (l : List Env) (e d : Addr) (fl : Value) (h : Heap) : Prop :=
  base.StaysIn h ∧ base.get? e = none ∧ h.FunFrames base l ∧
    ∃ oe vs T oT ts, h.get? e = some oe ∧ (oe.cls = .ref 38 ∧ oe.dict = some d) ∧ oe.data = .fields vs ∧ vs[1]? = some (.ref T) ∧ base.get? T = none ∧ T ≠ e ∧ h.get? T = some oT ∧ oT.data = .fields ts ∧ ts[3]? = some fl
theorem mapFields_dict (o : Obj) (f : Array Value → Array Value) : (Obj.mapFields f o).dict = o.dict := by
  obtain ⟨c, d, da, sl⟩ := o
  cases da <;> rfl
section
variable {M : Model} {A : Around} {E : Value → Shared → Prop} {s : Shared} {base : Heap} {env : Env} {outer : List Env} {L e d : Addr} {Q : Unit → Shared → Prop}
theorem entryD {oe : Obj} {vs : Array Value} {head : Value} {hadNext : Bool}
    (hfr : A.frames = some (env :: outer)) (hl : s.heap.FunFrames base (env :: outer)) (hf : env.frame = some L)
    (he : s.heap.get? e = some oe) (hkb : base.StaysIn s.heap) (hen : base.get? e = none) (hdX : oe.data = .fields vs) (hsz : 1 < vs.size) (hc : oe.cls = .ref 38) (hdd : oe.dict = some d)
    (h : ∀ h', FlyD base (env :: outer) e d (rawInt L) h' → s.heap.UpToSlots h' → Q () { s with heap := h' }) :
    wpAny M A (do let a ← frameOf env; let pl ← entryPlaceOf L hadNext; let b ← EntryCells.newEntry head a .none (rawInt L) .none pl; setField (.ref e) 1 b) Q E s := by
  have out : e ∉ (env :: outer).filterMap (·.frame) := fun hm => by
    obtain ⟨_, o, ho, hnf⟩ := hl.mem hm
    rw [he] at ho; cases ho; exact hnf vs hdX
  refine wpAny_bind (wpAny_frameOf_fun hfr hl hf fun h₁ hs₁ => ?_)
  refine wpAny_bind (wpAny_entryPlaceOf fun pl hpl => ?_)
  unfold EntryCells.newEntry newFields
  refine wpAny_bind (wpAny_newObj_type ?_ (hpl.sizeOk5 _ _ _ _ _))
  have he₁ : h₁.get? e = some oe := (hs₁.2.1 e out).trans he
  have kb₁ : base.StaysIn h₁ := fun b o hb => (hs₁.2.1 b fun hm => by rw [(hl.mem hm).1] at hb; cases hb).trans (hkb b o hb)
  generalize hTB : ({ cls := .type "traceback", dict := none, data := .fields ([head, .ref L, .none, rawInt L, .none] ++ (if pl.isEmpty then List.replicate 6 Value.none else pl)).toArray } : Obj) = TB
  have hTd : ∃ ts : Array Value, TB.data = .fields ts ∧ ts[3]? = some (rawInt L) := by
    rw [← hTB]
    exact ⟨_, rfl, by first | (simp; done) | (rcases hpl with rfl | ⟨_, _, _, _, _, _, _, rfl⟩ <;> simp)⟩
  obtain ⟨ts, hTd, hT3⟩ := hTd
  have he₂ := Heap.get?_push_of_some (h := h₁) TB he₁
  refine wpAny_setField he₂ hdX hsz (h _ ?_ ?_)
  · have hTe : h₁.objs.size ≠ e := Nat.ne_of_gt (Heap.lt_size he₁)
    have hd₃ := Obj.data_mapFields hdX (·.setIfInBounds 1 (Value.ref h₁.objs.size))
    refine ⟨fun b o hb => ?_, hen, hl.of_keeps fun b o hb hnf => ?_, _, _, h₁.objs.size, _, _, Heap.get?_update_self (Obj.mapFields (·.setIfInBounds 1 (Value.ref h₁.objs.size))) he₂ (Obj.isFreed_of_fields hd₃), ⟨(Obj.cls_mapFields _ _).trans hc, (mapFields_dict _ _).trans hdd⟩, hd₃, by simp [hsz], kb₁.fresh, hTe, ?_, hTd, hT3⟩
    · rw [Heap.get?_update_other _ _ (fun q => by rw [← q, hen] at hb; cases hb)]
      exact Heap.get?_push_of_some _ (kb₁ b o hb)
    · obtain ⟨sl, hsl⟩ := hs₁.2.2 b o hb
      refine ⟨{ o with slots := sl }, ?_, rfl⟩
      rw [Heap.get?_update_other _ _ (fun q => by rw [← q, he] at hb; cases hb; exact hnf vs hdX)]
      exact Heap.get?_push_of_some _ hsl
    · rw [Heap.get?_update_other _ _ hTe.symm]
      exact Heap.get?_push_size _ (Obj.isFreed_of_fields hTd)
  · intro b o hb hnf
    obtain ⟨sl, hsl⟩ := hs₁.2.2 b o hb
    refine ⟨sl, ?_⟩
    rw [Heap.get?_update_other _ _ (fun q => by rw [← q, he] at hb; cases hb; exact hnf vs hdX)]
    exact Heap.get?_push_of_some _ hsl
theorem noteD_first {oe : Obj} {vs : Array Value} (hfr : A.frames = some (env :: outer)) (hl : s.heap.FunFrames base (env :: outer)) (hf : env.frame = some L)
    (he : s.heap.get? e = some oe) (hkb : base.StaysIn s.heap) (hen : base.get? e = none) (hdX : oe.data = .fields vs) (h1 : vs[1]? = some .none) (hc : oe.cls = .ref 38) (hdd : oe.dict = some d)
    (h : ∀ h', FlyD base (env :: outer) e d (rawInt L) h' → s.heap.UpToSlots h' → Q () { s with heap := h' }) : wpAny M A (noteFrame (.ref e) env) Q E s := by
  unfold noteFrame
  simp only [hf]
  refine wpAny_bind (wpAny_field he hdX h1 ?_)
  rw [if_neg (by decide)]
  exact entryD hfr hl hf he hkb hen hdX (Array.getElem?_eq_some_iff.mp h1).1 hc hdd h
theorem noteD_next (hfr : A.frames = some (env :: outer)) (hf : env.frame = some L) (ht : FlyD base (env :: outer) e d .none s.heap)
    (h : ∀ h', FlyD base (env :: outer) e d (rawInt L) h' → s.heap.UpToSlots h' → Q () { s with heap := h' }) : wpAny M A (noteFrame (.ref e) env) Q E s := by
  obtain ⟨hkb, hen, hl, oe, vs, T, oT, ts, he, ⟨hcls, hdd⟩, hdX, h1, hnT, hTe, hT, hdT, h3⟩ := ht
  unfold noteFrame
  simp only [hf]
  refine wpAny_bind (wpAny_field he hdX h1 ?_)
  rw [if_pos (show (Value.ref T != Value.none) = true from by simp)]
  refine wpAny_bind (wpAny_field hT hdT h3 ?_)
  rw [if_neg (show ¬ ((Value.none == rawInt L) = true) from by simp [rawInt])]
  refine wpAny_bind (wpAny_setField hT hdT (Array.getElem?_eq_some_iff.mp h3).1 ?_)
  have other : ∀ b, b ≠ T → (s.heap.update T (Obj.mapFields (·.setIfInBounds 3 Value.none))).get? b = s.heap.get? b := fun b hb => Heap.get?_update_other _ _ (Ne.symm hb)
  have plain : ∀ b o, s.heap.get? b = some o → (∀ vs, o.data ≠ .fields vs) → b ≠ T := fun b o hb hnf q => by
    rw [q, hT] at hb; cases hb; exact hnf ts hdT
  refine entryD hfr (hl.of_keeps fun b o hb hnf => ⟨o, (other b (plain b o hb hnf)).trans hb, rfl⟩) hf ((other e (Ne.symm hTe)).trans he)
    (fun b o hb => (other b fun q => by rw [q, hnT] at hb; cases hb).trans (hkb b o hb)) hen hdX (Array.getElem?_eq_some_iff.mp h1).1 hcls hdd
    fun h' x1 x2 => h h' x1 fun b o hb hnf => x2 b o ((other b (plain b o hb hnf)).trans hb) hnf
theorem unflightD {l : List Env} {fl : Value} (ht : FlyD base l e d fl s.heap) (h : ∀ h', FlyD base l e d .none h' → s.heap.UpToSlots h' → Q () { s with heap := h' }) : wpAny M A (setFlight (.ref e) none) Q E s := by
  obtain ⟨hkb, hen, hl, oe, vs, T, oT, ts, he, hcls, hdX, h1, hnT, hTe, hT, hdT, h3⟩ := ht
  have other : ∀ b, b ≠ T → (s.heap.update T (Obj.mapFields (·.setIfInBounds 3 ((none : Option Addr).elim Value.none fun f => rawInt f)))).get? b = s.heap.get? b := fun b hb => Heap.get?_update_other _ _ (Ne.symm hb)
  have plain : ∀ b o, s.heap.get? b = some o → (∀ vs, o.data ≠ .fields vs) → b ≠ T := fun b o hb hnf q => by
    rw [q, hT] at hb; cases hb; exact hnf ts hdT
  unfold setFlight
  refine wpAny_bind (wpAny_field he hdX h1 ?_)
  rw [if_pos (show (Value.ref T != Value.none) = true from by simp)]
  refine wpAny_setField hT hdT (Array.getElem?_eq_some_iff.mp h3).1 (h _ ⟨fun b o hb => (other b fun q => by rw [q, hnT] at hb; cases hb).trans (hkb b o hb), hen, hl.of_keeps fun b o hb hnf => ⟨o, (other b (plain b o hb hnf)).trans hb, rfl⟩,
    oe, vs, T, _, _, (other e (Ne.symm hTe)).trans he, hcls, hdX, h1, hnT, hTe, Heap.get?_update_self _ hT (Obj.isFreed_of_fields (Obj.data_mapFields hdT _)), Obj.data_mapFields hdT _, by simp [(Array.getElem?_eq_some_iff.mp h3).1]⟩ fun b o hb hn => ⟨o.slots, (other b (plain b o hb hn)).trans hb⟩)
theorem FlyD.tail {fl : Value} {h : Heap} (x : FlyD base (env :: outer) e d fl h) : FlyD base outer e d fl h := ⟨x.1, x.2.1, x.2.2.1.2.2, x.2.2.2⟩
end
/-- the exception flies, the ledger stands, the frames of l are there -/
def RaisedD (base : Heap) (l : List Env) (e d : Addr) (od : Obj) (news : Led) (h : Heap) : Prop :=
  ∃ B, base.StaysIn B ∧ (∀ q ∈ (d, od) :: news, B.get? q.1 = some q.2 ∧ base.get? q.1 = none) ∧ FlyD B l e d .none h
theorem RaisedD.sub {base : Heap} {l : List Env} {e d : Addr} {od : Obj} {news news' : Led} {h : Heap} (x : RaisedD base l e d od news h) (hs : ∀ p ∈ news', p ∈ news) : RaisedD base l e d od news' h :=
  let ⟨B, a, b, c⟩ := x; ⟨B, a, fun q hq => b q ((List.mem_cons.mp hq).elim (fun e => e ▸ .head _) fun hq => .tail _ (hs q hq)), c⟩
section
variable {M : Model} {A : Around} {E : Value → Shared → Prop} {s' : Shared} {base g g₂ : Heap} {outer : List Env} {env : Env} {L e t d : Addr} {od : Obj} {m : Str → Option Value} {Q : Unit → Shared → Prop} {news : Led}
/-- a made exception leaves the frame in which it was raised -/
theorem leave_sig (K : Below A base outer g) (F : Fr g L s'.heap m) (N : News g L s'.heap ((e, sigObjD t d) :: (d, od) :: news)) (hne : ∀ p ∈ (d, od) :: news, p.1 ≠ e) (hf : env.frame = some L) (hk : env.scope.kind = .function)
    (hQ : ∀ h', RaisedD base outer e d od news h' → g.UpToSlots h' → Q () { s' with heap := h' }) :
    wpAny M (A.deeper env) (leaving env (.ref e)) Q E s' := by
  have K' := pushX K F hf hk
  have st := fun b o q => K.stays b o q
  have hen : base.get? e = none := fresh_of_stays K.stays (N _ (.head _)).2.2
  have hdn : base.get? d = none := fresh_of_stays K.stays (N _ (.tail _ (.head _))).2.2
  have hin : ∀ x ∈ (env :: outer), ∀ b, x.frame = some b → b ∈ e :: (env :: outer).filterMap (·.frame) := fun x hx b hb => .tail _ (List.mem_filterMap.mpr ⟨x, hx, hb⟩)
  have st' : base.StaysIn (hideAll s'.heap (e :: (env :: outer).filterMap (·.frame))) := fun b o q => hideAll_get _ (K'.stays b o q) fun hm => by
    rcases List.mem_cons.mp hm with hm | hm
    · rw [hm, hen] at q; cases q
    · rw [(K'.frames.mem hm).1] at q; cases q
  have hl : ∀ q ∈ (d, od) :: news, (hideAll s'.heap (e :: (env :: outer).filterMap (·.frame))).get? q.1 = some q.2 ∧ base.get? q.1 = none := fun q hq => by
    refine ⟨hideAll_get _ (N q (.tail _ hq)).1 fun hm => ?_, fresh_of_stays K.stays (N q (.tail _ hq)).2.2⟩
    rcases List.mem_cons.mp hm with hm | hm
    · exact hne q hq hm
    · obtain ⟨x, hx, hfx⟩ := List.mem_filterMap.mp hm
      rcases List.mem_cons.mp hx with rfl | hx
      · exact (N q (.tail _ hq)).2.1 (Option.some.inj (hfx.symm.trans hf))
      · obtain ⟨o, ho, _⟩ := (K.frames.mem (List.mem_filterMap.mpr ⟨x, hx, hfx⟩)).2
        rw [(N q (.tail _ hq)).2.2] at ho; cases ho
  unfold leaving
  refine wpAny_bind (noteD_first (base := hideAll s'.heap (e :: (env :: outer).filterMap (·.frame))) K'.stack (funFrames_hide K'.frames hin) hf (N _ (.head _)).1 (fun b o q => of_hideAll _ q) (hideAll_none _ (.head _)) rfl rfl rfl rfl fun h₁ x1 x2 => ?_)
  refine unflightD x1 fun h₂ y1 y2 => ?_
  exact hQ h₂ ⟨_, st', hl, y1.tail⟩ (((Heap.UpToSlots.of_keeps F.keep).trans x2).trans y2)
/-- it leaves a frame further out -/
theorem leave_onD (K : Below A base outer g) (F : Fr g L g₂ m) (R : RaisedD base (env :: outer) e d od news s'.heap) (hsm : g₂.UpToSlots s'.heap) (hf : env.frame = some L)
    (hQ : ∀ h', RaisedD base outer e d od news h' → g.UpToSlots h' → Q () { s' with heap := h' }) (hst : (A.deeper env).frames = some (env :: outer)) :
    wpAny M (A.deeper env) (leaving env (.ref e)) Q E s' := by
  obtain ⟨B, hB, hl, hfl⟩ := R
  unfold leaving
  refine wpAny_bind (noteD_next hst hf hfl fun h₁ x1 x2 => ?_)
  refine unflightD x1 fun h₂ y1 y2 => ?_
  exact hQ h₂ ⟨B, hB, hl, y1.tail⟩ ((((Heap.UpToSlots.of_keeps F.keep).trans hsm).trans x2).trans y2)
end
/-- a call that ends with an exception of the project's own; the old ledger stands -/
def Rai (w : World) (D U : Nat) (f : Value) (args : List Value) (news : Led) (sym : Str) : Prop :=
  ∀ (mean : ExcName → Option Value) (mg mb : Str → Option Value) (dp un : Nat) (gd : Option (List Code)) (cn : Str) (cs : Scope) (a : Addr) (ccd : Value) (cl : List (Str × Addr)) (outer : List Env) (A₀ : Around) (base h₀ : Heap) (L : Addr) (m : Str → Option Value) (s : Shared) (Q E : Value → Shared → Prop),
    Below A₀ base outer h₀ → Fr h₀ L s.heap m → (hd.heap_39 w.params).In base → News h₀ L s.heap news → Top VW LO mean mg mb base → cs.kind = .function → dp + D < recursionLimit → un + U < cLine →
    (∀ e d od g h' tk', Fr h₀ L g m → g.UpToSlots h' → RaisedD base (envX cn cs L a ccd cl :: outer) e d od news h' → SigD od sym → E (.ref e) { s with heap := h', toks := tk' }) →
    wpAny (model PR w) (ktrTop dp un gd cn cs L a ccd cl outer) (call f args) Q E s
theorem Rai.intro {w : World} {D U : Nat} {f : Value} {args : List Value} {news : Led} {sym : Str}
    (k : ∀ (mean : ExcName → Option Value) (mg mb : Str → Option Value) (dp un : Nat) (gd : Option (List Code)) (cn : Str) (cs : Scope) (a : Addr) (ccd : Value) (cl : List (Str × Addr)) (outer : List Env) (A₀ : Around) (base h₀ : Heap) (L : Addr) (m : Str → Option Value) (hS : Heap) (gS : Array GenState) (dS : Drawn) (tS : Nat) (oS : OsState) (Q E : Value → Shared → Prop),
      Below A₀ base outer h₀ → Fr h₀ L hS m → (hd.heap_39 w.params).In base → News h₀ L hS news → Top VW LO mean mg mb base → cs.kind = .function → dp + D < recursionLimit → un + U < cLine →
      (∀ e d od g h' tk', Fr h₀ L g m → g.UpToSlots h' → RaisedD base (envX cn cs L a ccd cl :: outer) e d od news h' → SigD od sym → E (.ref e) ⟨h', gS, dS, tk', oS⟩) →
      wpAny (model PR w) (ktrTop dp un gd cn cs L a ccd cl outer) (call f args) Q E ⟨hS, gS, dS, tS, oS⟩) : Rai w D U f args news sym :=
  fun mean mg mb dp un gd cn cs a ccd cl outer A₀ base h₀ L m s => k mean mg mb dp un gd cn cs a ccd cl outer A₀ base h₀ L m s.heap s.gens s.drawn s.toks s.os
theorem Rai.use {w : World} {D U : Nat} {f : Value} {args : List Value} {news : Led} {sym : Str} (R : Rai w D U f args news sym)
    {mean : ExcName → Option Value} {mg mb : Str → Option Value} {dp un : Nat} {gd : Option (List Code)} {cn : Str} {cs : Scope} {a : Addr} {ccd : Value} {cl : List (Str × Addr)} {outer : List Env} {A₀ : Around} {base h₀ : Heap} {L : Addr} {m : Str → Option Value} {hS : Heap} {gS : Array GenState} {dS : Drawn} {tS : Nat} {oS : OsState} {Q E : Value → Shared → Prop}
    (B : Below A₀ base outer h₀) (F : Fr h₀ L hS m) (XB : (hd.heap_39 w.params).In base) (N : News h₀ L hS news) (TB : Top VW LO mean mg mb base) (hk : cs.kind = .function) (hdX : dp + D < recursionLimit) (hu : un + U < cLine)
    (k : ∀ e d od g h' tk', Fr h₀ L g m → g.UpToSlots h' → RaisedD base (envX cn cs L a ccd cl :: outer) e d od news h' → SigD od sym → E (.ref e) ⟨h', gS, dS, tk', oS⟩) :
    wpAny (model PR w) (ktrTop dp un gd cn cs L a ccd cl outer) (call f args) Q E ⟨hS, gS, dS, tS, oS⟩ := R _ _ _ _ _ _ _ _ _ _ _ _ _ _ _ _ _ _ _ _ B F XB N TB hk hdX hu k
def RaiseAt (w : World) (E : Value → Shared → Prop) (v : Value) (s₁ : Shared) : Prop := ∃ e t d o, v = .ref e ∧ s₁.heap.get? 38 = some o ∧ (hd.heap_39 w.params).lookup 38 = some o ∧ s₁.heap.get? e = some (sigObjD t d) ∧ E (.ref e) s₁
theorem RaiseAt.mk {w : World} {E : Value → Shared → Prop} {s : Shared} {h₀ : Heap} {L e t d : Addr} {m : Str → Option Value} {news : Led} (X : (hd.heap_39 w.params).In h₀) (F : Fr h₀ L s.heap m) (N : News h₀ L s.heap news) (hm : (e, sigObjD t d) ∈ news) (h : E (.ref e) s) : RaiseAt w E (.ref e) s := by
  obtain ⟨nm, q, bs, sn, sub, ab, col, dd, k0, k1, k2, k3, k5, hK⟩ := sigC w.params
  exact ⟨e, t, d, _, rfl, (X.keeps F.keep) _ _ hK, hK, (N _ hm).1, h⟩
section
variable {M : Model} {A : Around} {E : Value → Shared → Prop} {s : Shared} {env : Env} {C Nn : Addr} {nm q : Str} {bs bm : List Value} {hdct : Bool} {sn : List Str} {sub : List Value} {ab : Bool} {col : Option Bool} {dd : Option Addr} {k0 k1 k2 k3 k5 : Option Value} {newId : String}
theorem raise_inst {x : Sem Value} {Q : Flow → Shared → Prop} (hbase : bm.contains (.type "BaseException") = true) (hh : A.handled = none)
    (h : wpAny M A x (fun v s₁ => ∃ e t d, v = .ref e ∧ s₁.heap.get? C = some (excClassObj nm q C Nn bs bm hdct sn sub ab col dd k0 k1 k2 k3 k5 newId) ∧
      s₁.heap.get? e = some { cls := .ref C, dict := some d, data := .fields #[.ref t, .none, .none, .none, .bool false, .none] } ∧ E (.ref e) s₁) E s) :
    wpAny M A (raiseStmt env (some x) none) Q E s := by
  have hcB : (Value.ref C :: bm).contains (.type "BaseException") = true := by rw [List.contains_cons, hbase, Bool.or_true]
  unfold raiseStmt
  refine wpAny_bind (wpAny_mono h (fun v s₁ h₁ => ?_) fun _ _ x => x)
  obtain ⟨e, t, d, rfl, hC, he, hE⟩ := h₁
  obtain ⟨hp, g, d, tk, os⟩ := s₁
  repeat (first | with_reducible refine wpAny_loadPart_at he ?_ | with_reducible refine wpAny_loadPart_at hC ?_ | (with_reducible refine wpAny_isSubtype_exc hC ?_; rw [hcB]) | wp_step)
  exact wpAny_raiseNew_none hh hE
end
theorem Raise_sig {w : World} {A : Around} {E : Value → Shared → Prop} {s : Shared} {env : Env} {x : PySem.Expr} {pos : Pos} {Q : Flow → Shared → Prop} (hh : A.handled = none) (h : wpAny (model PR w) A (eval x env) (RaiseAt w E) E s) :
    wpAny (model PR w) A (exec (.Raise (some x) none pos) env) Q E s := by
  obtain ⟨nm, q, bs, sn, sub, ab, col, dd, k0, k1, k2, k3, k5, hK⟩ := sigC w.params
  rw [arm_exec_Raise]
  refine wpAny_bind (wpAny_standAt (raise_inst (C := 38) (nm := nm) (q := q) (Nn := 37) (bs := bs) (bm := [.type "Exception", .type "BaseException", .type "object"]) (hdct := true) (sn := sn) (sub := sub) (ab := ab) (col := col) (dd := dd) (k0 := k0) (k1 := k1) (k2 := k2) (k3 := k3) (k5 := k5) (newId := "Exception.__new__") (by decide) hh
    (wpAny_bind (wpAny_mono h (fun v s₁ h₁ => ?_) fun _ _ x => x))))
  obtain ⟨e, t, d, o, rfl, h1, h2, h3, h4⟩ := h₁
  rw [hK] at h2
  cases h2
  exact wpAny_bind (wpAny_standAt (wpAny_pure ⟨e, t, d, rfl, h1, h3, h4⟩))
/-- an exception that tells sym, made by the call -/
def SigRes (sym : Str) (news : Led) (r : Value) (n' : Led) : Prop := ∃ e t d od, r = .ref e ∧ n' = (e, sigObjD t d) :: (d, od) :: news ∧ SigD od sym ∧ (∀ p ∈ (d, od) :: news, p.1 ≠ e) ∧ (∀ p ∈ news, p.1 ≠ d)
def KSigRes (sym : Str) (news : Led) (P : Value → Led → Prop) : Prop := ∀ e t d od, SigD od sym → (∀ p ∈ (d, od) :: news, p.1 ≠ e) → (∀ p ∈ news, p.1 ≠ d) → P (.ref e) ((e, sigObjD t d) :: (d, od) :: news)
theorem K_sigres {sym : Str} {news : Led} : ∀ P, KSigRes sym news P → ∀ r n, SigRes sym news r n → P r n := by
  rintro P h _ _ ⟨e, t, d, od, rfl, rfl, h1, h2, h3⟩; exact h e t d od h1 h2 h3
theorem ne_tail {l : Led} {p : Addr × Obj} {x : Addr} (h : ∀ q ∈ p :: l, q.1 ≠ x) : ∀ q ∈ l, q.1 ≠ x := fun q hq => h q (.tail _ hq)
example : True := by
  k_with "my_sig" => ((subst e9 e9'))
  trivial
example : True := by
  k_with "@exec Raise" => ((k_here; k_dflt (refine Raise_sig ?k1 ?_; (case k1 => exact rfl))))
  trivial
example : True := by
  k_with "@exec Raise some none" => ((k_here; k_dflt (refine Raise_sig ?k1 ?_; (case k1 => exact rfl))))
  trivial
example : True := by
  k_with "my_raise" => ((
  (refine RaiseAt.mk (by k_asm) (by k_asm) (by k_asm) (List.mem_cons_self) ?_);
  (refine leave_sig (by k_asm) (by k_asm) (by k_asm) (by with_reducible assumption) rfl rfl ?_);
  intro hR9 R9 U9; (refine hret _ _ _ _ _ _ (by k_asm) U9 (RaisedD.sub R9 (by k_extra "my_sub")) (by with_reducible assumption))))
  trivial
theorem Ret.drop {w : World} {D U : Nat} {f : Value} {args : List Value} {news : Led} {p q : Value → Led → Prop} (R : Ret w D U f args news p) (h : ∀ r n, p r n → ∃ n', (∀ x ∈ n', x ∈ n) ∧ q r n') : Ret w D U f args news q :=
  fun mean mg mb dp un gd cn cs a ccd cl outer A₀ base h₀ L m s Q E B F X N T hk h1 h2 ret => R mean mg mb dp un gd cn cs a ccd cl outer A₀ base h₀ L m s Q E B F X N T hk h1 h2 fun r h' tk' n' F' N' p' => by
    obtain ⟨n'', hs, hq⟩ := h _ _ p'
    exact ret r h' tk' n'' F' (News.sub N' hs) hq
theorem mkSig2 (w : World) (sym : Str) (ts : Tok) (v2 : Value) (news : Led) : Ret w 6 40 (.ref 38) [.str sym ts, v2] news (SigRes sym news) := by
  refine (mkSig w sym ts v2 news).drop fun r n h => ?_
  obtain ⟨e, t, d, od, tp, rfl, rfl, h1, h2, h3, h4⟩ := h
  refine ⟨(e, sigObjD t d) :: (d, od) :: news, fun x hx => ?_, e, t, d, od, rfl, rfl, h1, List.forall_mem_cons.mpr ⟨h4, h2⟩, h3⟩
  rcases List.mem_cons.mp hx with rfl | hx
  · exact .head _
  · rcases List.mem_cons.mp hx with rfl | hx
    · exact .tail _ (.head _)
    · exact .tail _ (.tail _ (.tail _ hx))
example : True := by
  k_with "@call ref" => ((k_here; (with_reducible show wpAny _ _ (call (Value.ref 38) [Value.str _ _, _]) _ _ _); k_dflt ((refine' Ret.use (mkSig2 _ _ _ _ _) K_sigres ?k1 ?k2 ?k3 ?k4 ?k5 ?kK ?kd ?ku ?_); k_extra "my_use";  refine fun e8 t8 d8 od8 hsg9 hne9 hnd9 h9 tk9 F9 N9 => ?_;  (try dsimp only); (try k_fold))))
  trivial
theorem wrong_ok (w : World) (nm : Str) (ts : Tok) (v : Value) (news : Led) : Ret w 8 60 (.ref 221) [.str nm ts, v] news (SigRes "wrong-type-argument" news) := by
  k_extra "my_enter"
  k_steps
  refine hret _ _ _ ((e8, sigObjD t8 d8) :: (d8, od8) :: news) (by k_asm) (News.sub (by k_asm) ?_) ⟨e8, t8, d8, od8, rfl, rfl, hsg9, ?_, ne_tail hnd9⟩
  · intro p hp
    rcases List.mem_cons.mp hp with rfl | hp
    · exact .head _
    · rcases List.mem_cons.mp hp with rfl | hp
      · exact .tail _ (.head _)
      · exact .tail _ (.tail _ (.tail _ hp))
  · intro p hp
    rcases List.mem_cons.mp hp with rfl | hp
    · exact hne9 _ (.head _)
    · exact hne9 _ (.tail _ (.tail _ hp))
example : True := by
  k_with "@call ref" => ((k_here; (with_reducible show wpAny _ _ (call (Value.ref 221) [Value.str _ _, _]) _ _ _); k_dflt ((refine' Ret.use (wrong_ok _ _ _ _ _) K_sigres ?k1 ?k2 ?k3 ?k4 ?k5 ?kK ?kd ?ku ?_); k_extra "my_use";  refine fun e8 t8 d8 od8 hsg9 hne9 hnd9 h9 tk9 F9 N9 => ?_;  (try dsimp only); (try k_fold))))
  trivial
theorem need_place_out (w : World) (v : Value) (p n : Int) (t u : Tok) (news : Led) (h0 : ¬ (0 ≤ p ∧ p < n)) : Rai w 12 100 (.ref 343) [v, .int p t, .int n u] news "args-out-of-range" := by
  k_extra "my_enter"
  k_steps
  all_goals k_extra "my_raise"
theorem is_code_neg (w : World) (i : Int) (t : Tok) (news : Led) (h : i < 0) : Ret w 4 20 (.ref 310) [.int i t] news (ValP (.bool false) news) := by
  have q := is_code_int w i t news
  rw [show (decide (0 ≤ i) && decide (i ≤ 4194303)) = false by simp; omega] at q
  exact q
theorem need_code_neg (w : World) (i : Int) (t : Tok) (news : Led) (h : i < 0) : Rai w 12 100 (.ref 317) [.int i t] news "wrong-type-argument" := by
  k_extra "my_enter"
  k_with "my code" => ((with_reducible show wpAny _ _ (call (Value.ref 310) _) _ _ _); k_dflt (refine' Ret.use (is_code_neg _ _ _ _ h) K_val ?k1 ?k2 ?k3 ?k4 ?k5 ?kK ?kd ?ku ?_); k_extra "my_use"; refine fun h9 tk9 F9 N9 => ?_; (try dsimp only); (try k_fold))
  k_steps
  all_goals k_extra "my_raise"
example : True := by
  k_with "@call ref" => ((k_here; (with_reducible show wpAny _ _ (call (Value.ref 303) [Value.int _ _, _]) _ _ _); k_dflt ((refine' Ret.use (rest_at_chain _ _ _ _ _ _ ?p1 ?p2) K_rest ?k1 ?k2 ?k3 ?k4 ?k5 ?kK ?kd ?ku ?_); k_extra "my_use"; (case p1 => k_extra "my_chain"); (case p2 => k_extra "my_bound"); refine fun a9 hC9 h9 tk9 F9 N9 => ?_;  (try dsimp only); (try k_fold))))
  trivial
example : True := by
  k_with "my_pass" => (((show wpAny _ _ (leaving _ _) _ _ _); (refine leave_onD (by k_asm) F8 R8 U8 rfl ?_ (Around.frames_deeper (Below.stack (by assumption)))); intro hR9 R9 U9; (refine hret _ _ _ _ _ _ (by k_asm) U9 (RaisedD.sub R9 (by k_extra "my_sub")) (by with_reducible assumption))))
  trivial
example : True := by
  k_with "my_rng" => (first | with_reducible assumption | omega)
  trivial
example : True := by
  k_with "@call ref" => ((k_here; (with_reducible show wpAny _ _ (call (Value.ref 343) [_, Value.int _ _, Value.int _ _]) _ _ _); k_dflt ((refine' Rai.use (need_place_out _ _ _ _ _ _ _ ?p1) ?k1 ?k2 ?k3 ?k4 ?k5 ?kK ?kd ?ku ?_); k_extra "my_use"; (case p1 => k_extra "my_rng"); intro e8 d8 od8 g8 h9 tk9 F8 U8 R8 sg8; k_extra "my_pass")))
  trivial
example : True := by
  k_with "@call ref" => ((k_here; (with_reducible show wpAny _ _ (call (Value.ref 343) [_, Value.int _ _, Value.int _ _]) _ _ _); k_dflt ((refine' Ret.use (need_place_in _ _ _ _ _ _ _ ?p1 ?p2) K_val ?k1 ?k2 ?k3 ?k4 ?k5 ?kK ?kd ?ku ?_); k_extra "my_use"; (case p1 => k_extra "my_int"); (case p2 => k_extra "my_int"); refine fun h9 tk9 F9 N9 => ?_;  (try dsimp only); (try k_fold))))
  trivial
theorem News.inst {h₀ h : Heap} {L a : Addr} {news : Led} (N : News h₀ L h news) {o o' : Obj} (h1 : (a, o) ∈ news) (h2 : (a, o') ∈ news) (hc : o.cls ≠ o'.cls) : False := hc (congrArg Obj.cls (led_one N h1 h2))
theorem aref_list (w : World) (v : Value) (vs : List Value) (p : Int) (tp : Tok) (la : Addr) (ka : Nat) (news : Led) (hla : (la, listOf [v, .int p tp].toArray ka) ∈ news) (hc : ChainIn w news v vs) :
    Rai w 20 200 (.ref 364) [.none, .ref la] news "wrong-type-argument" := by
  k_extra "my_enter"
  k_steps
  k_extra "my_raise"
theorem aset_list (w : World) (v u : Value) (vs : List Value) (p : Int) (tp : Tok) (la : Addr) (ka : Nat) (news : Led) (hla : (la, listOf [v, .int p tp, u].toArray ka) ∈ news) (hc : ChainIn w news v vs) :
    Rai w 20 200 (.ref 371) [.none, .ref la] news "wrong-type-argument" := by
  k_extra "my_enter"
  k_steps
  k_extra "my_raise"
theorem fill_list (w : World) (v u : Value) (vs : List Value) (la : Addr) (ka : Nat) (news : Led) (hla : (la, listOf [v, u].toArray ka) ∈ news) (hc : ChainIn w news v vs) :
    Rai w 20 200 (.ref 378) [.none, .ref la] news "wrong-type-argument" := by
  obtain ⟨va, rfl⟩ := hc.ref
  k_extra "my_enter"
  k_steps
  k_extra "my_raise"
theorem elt_list_in (w : World) (v u : Value) (vs : List Value) (p : Int) (tp : Tok) (la : Addr) (ka : Nat) (news : Led) (hla : (la, listOf [v, .int p tp].toArray ka) ∈ news) (hc : ChainIn w news v vs) (hb : vs.length ≤ 1000) (h0 : 0 ≤ p) (h1 : p < vs.length) (hv : vs[p.toNat]? = some u) :
    Ret w 30 300 (.ref 357) [.none, .ref la] news (ValP u news) := by
  have hl : vs.drop p.toNat = u :: vs.drop (p.toNat + 1) := by
    rw [List.drop_eq_getElem_cons (by omega)]
    rw [List.getElem?_eq_getElem (by omega)] at hv
    rw [Option.some.inj hv]
  k_extra "my_enter"
  k_steps
  rw [hl] at hC9
  cases hC9
  k_steps
  k_extra "my_ret"; exact ⟨rfl, rfl⟩
theorem elt_list_out (w : World) (v : Value) (vs : List Value) (p : Int) (tp : Tok) (la : Addr) (ka : Nat) (news : Led) (hla : (la, listOf [v, .int p tp].toArray ka) ∈ news) (hc : ChainIn w news v vs) (hb : vs.length ≤ 1000) (h0 : ¬ (0 ≤ p ∧ p < vs.length)) :
    Rai w 30 300 (.ref 357) [.none, .ref la] news "args-out-of-range" := by
  by_cases hp : p < 0
  · k_extra "my_enter"
    k_steps
    all_goals k_extra "my_raise"
  · k_extra "my_enter"
    k_steps
    rw [List.drop_eq_nil_of_le (by omega)] at hC9
    cases hC9
    k_steps
    all_goals k_extra "my_raise"
theorem aref_in_vec (w : World) (x d l : Addr) (t1 : Tok) (n : Nat) (p : Int) (tp : Tok) (v : Value) (vs : List Value) (la : Addr) (ka : Nat) (news : Led) (hla : (la, listOf [.ref x, .int p tp].toArray ka) ∈ news) (hx : (x, instObj 125 d) ∈ news) (hdd : (d, vecD w t1 (.ref l)) ∈ news) (hl : (l, listOf vs.toArray n) ∈ news) (hb : vs.length ≤ 1000) (h0 : 0 ≤ p) (h1 : p < vs.length) (hv : vs[p.toNat]? = some v) :
    Ret w 20 200 (.ref 364) [.none, .ref la] news (ValP v news) := by
  k_extra "my_enter"
  k_steps
  refine hret _ _ _ news (by k_asm) (News.sub (by k_asm) (by k_extra "my_sub")) ⟨rfl, rfl⟩
theorem aref_out_vec (w : World) (x d l : Addr) (t1 : Tok) (n : Nat) (p : Int) (tp : Tok) (vs : List Value) (la : Addr) (ka : Nat) (news : Led) (hla : (la, listOf [.ref x, .int p tp].toArray ka) ∈ news) (hx : (x, instObj 125 d) ∈ news) (hdd : (d, vecD w t1 (.ref l)) ∈ news) (hl : (l, listOf vs.toArray n) ∈ news) (hb : vs.length ≤ 1000) (h0 : ¬ (0 ≤ p ∧ p < vs.length)) :
    Rai w 20 200 (.ref 364) [.none, .ref la] news "args-out-of-range" := by
  k_extra "my_enter"
  k_steps
theorem elt_in_vec (w : World) (x d l : Addr) (t1 : Tok) (n : Nat) (p : Int) (tp : Tok) (v : Value) (vs : List Value) (la : Addr) (ka : Nat) (news : Led) (hla : (la, listOf [.ref x, .int p tp].toArray ka) ∈ news) (hx : (x, instObj 125 d) ∈ news) (hdd : (d, vecD w t1 (.ref l)) ∈ news) (hl : (l, listOf vs.toArray n) ∈ news) (hb : vs.length ≤ 1000) (h0 : 0 ≤ p) (h1 : p < vs.length) (hv : vs[p.toNat]? = some v) :
    Ret w 30 300 (.ref 357) [.none, .ref la] news (ValP v news) := by
  k_extra "my_enter"
  k_with "my code" => ((with_reducible show wpAny _ _ (call (Value.ref 364) _) _ _ _); k_dflt (refine' Ret.use (aref_in_vec w x d l t1 n p tp v vs la ka news hla hx hdd hl hb h0 h1 hv) K_val ?k1 ?k2 ?k3 ?k4 ?k5 ?kK ?kd ?ku ?_); k_extra "my_use"; refine fun h9 tk9 F9 N9 => ?_; (try dsimp only); (try k_fold))
  k_steps
  refine hret _ _ _ news (by k_asm) (News.sub (by k_asm) (by k_extra "my_sub")) ⟨rfl, rfl⟩
theorem elt_out_vec (w : World) (x d l : Addr) (t1 : Tok) (n : Nat) (p : Int) (tp : Tok) (vs : List Value) (la : Addr) (ka : Nat) (news : Led) (hla : (la, listOf [.ref x, .int p tp].toArray ka) ∈ news) (hx : (x, instObj 125 d) ∈ news) (hdd : (d, vecD w t1 (.ref l)) ∈ news) (hl : (l, listOf vs.toArray n) ∈ news) (hb : vs.length ≤ 1000) (h0 : ¬ (0 ≤ p ∧ p < vs.length)) :
    Rai w 30 300 (.ref 357) [.none, .ref la] news "args-out-of-range" := by
  k_extra "my_enter"
  k_with "my code" => ((with_reducible show wpAny _ _ (call (Value.ref 364) _) _ _ _); k_dflt (refine' Rai.use (aref_out_vec w x d l t1 n p tp vs la ka news hla hx hdd hl hb h0) ?k1 ?k2 ?k3 ?k4 ?k5 ?kK ?kd ?ku ?_); k_extra "my_use"; intro e8 d8 od8 g8 h9 tk9 F8 U8 R8 sg8; k_extra "my_pass")
  k_steps
theorem aref_in_txt (w : World) (x d l : Addr) (t1 t2 : Tok) (n : Nat) (p : Int) (tp : Tok) (v : Value) (vs : List Value) (la : Addr) (ka : Nat) (news : Led) (hla : (la, listOf [.ref x, .int p tp].toArray ka) ∈ news) (hx : (x, instObj 104 d) ∈ news) (hdd : (d, txtD w t1 t2 (.ref l) .none) ∈ news) (hl : (l, listOf vs.toArray n) ∈ news) (hb : vs.length ≤ 1000) (h0 : 0 ≤ p) (h1 : p < vs.length) (hv : vs[p.toNat]? = some v) :
    Ret w 20 200 (.ref 364) [.none, .ref la] news (ValP v news) := by
  k_extra "my_enter"
  k_steps
  refine hret _ _ _ news (by k_asm) (News.sub (by k_asm) (by k_extra "my_sub")) ⟨rfl, rfl⟩
theorem aref_out_txt (w : World) (x d l : Addr) (t1 t2 : Tok) (n : Nat) (p : Int) (tp : Tok) (vs : List Value) (la : Addr) (ka : Nat) (news : Led) (hla : (la, listOf [.ref x, .int p tp].toArray ka) ∈ news) (hx : (x, instObj 104 d) ∈ news) (hdd : (d, txtD w t1 t2 (.ref l) .none) ∈ news) (hl : (l, listOf vs.toArray n) ∈ news) (hb : vs.length ≤ 1000) (h0 : ¬ (0 ≤ p ∧ p < vs.length)) :
    Rai w 20 200 (.ref 364) [.none, .ref la] news "args-out-of-range" := by
  k_extra "my_enter"
  k_steps
theorem elt_in_txt (w : World) (x d l : Addr) (t1 t2 : Tok) (n : Nat) (p : Int) (tp : Tok) (v : Value) (vs : List Value) (la : Addr) (ka : Nat) (news : Led) (hla : (la, listOf [.ref x, .int p tp].toArray ka) ∈ news) (hx : (x, instObj 104 d) ∈ news) (hdd : (d, txtD w t1 t2 (.ref l) .none) ∈ news) (hl : (l, listOf vs.toArray n) ∈ news) (hb : vs.length ≤ 1000) (h0 : 0 ≤ p) (h1 : p < vs.length) (hv : vs[p.toNat]? = some v) :
    Ret w 30 300 (.ref 357) [.none, .ref la] news (ValP v news) := by
  k_extra "my_enter"
  k_with "my code" => ((with_reducible show wpAny _ _ (call (Value.ref 364) _) _ _ _); k_dflt (refine' Ret.use (aref_in_txt w x d l t1 t2 n p tp v vs la ka news hla hx hdd hl hb h0 h1 hv) K_val ?k1 ?k2 ?k3 ?k4 ?k5 ?kK ?kd ?ku ?_); k_extra "my_use"; refine fun h9 tk9 F9 N9 => ?_; (try dsimp only); (try k_fold))
  k_steps
  refine hret _ _ _ news (by k_asm) (News.sub (by k_asm) (by k_extra "my_sub")) ⟨rfl, rfl⟩
theorem elt_out_txt (w : World) (x d l : Addr) (t1 t2 : Tok) (n : Nat) (p : Int) (tp : Tok) (vs : List Value) (la : Addr) (ka : Nat) (news : Led) (hla : (la, listOf [.ref x, .int p tp].toArray ka) ∈ news) (hx : (x, instObj 104 d) ∈ news) (hdd : (d, txtD w t1 t2 (.ref l) .none) ∈ news) (hl : (l, listOf vs.toArray n) ∈ news) (hb : vs.length ≤ 1000) (h0 : ¬ (0 ≤ p ∧ p < vs.length)) :
    Rai w 30 300 (.ref 357) [.none, .ref la] news "args-out-of-range" := by
  k_extra "my_enter"
  k_with "my code" => ((with_reducible show wpAny _ _ (call (Value.ref 364) _) _ _ _); k_dflt (refine' Rai.use (aref_out_txt w x d l t1 t2 n p tp vs la ka news hla hx hdd hl hb h0) ?k1 ?k2 ?k3 ?k4 ?k5 ?kK ?kd ?ku ?_); k_extra "my_use"; intro e8 d8 od8 g8 h9 tk9 F8 U8 R8 sg8; k_extra "my_pass")
  k_steps
theorem aset_out_vec (w : World) (x d l : Addr) (t1 : Tok) (n : Nat) (p : Int) (tp : Tok) (u : Value) (vs : List Value) (la : Addr) (ka : Nat) (news : Led) (hla : (la, listOf [.ref x, .int p tp, u].toArray ka) ∈ news) (hx : (x, instObj 125 d) ∈ news) (hdd : (d, vecD w t1 (.ref l)) ∈ news) (hl : (l, listOf vs.toArray n) ∈ news) (hb : vs.length ≤ 1000) (h0 : ¬ (0 ≤ p ∧ p < vs.length)) :
    Rai w 20 200 (.ref 371) [.none, .ref la] news "args-out-of-range" := by
  k_extra "my_enter"
  k_steps
theorem aset_in_vec (w : World) (x d l : Addr) (t1 : Tok) (n : Nat) (p : Int) (tp : Tok) (u : Int) (tu : Tok) (vs : List Value) (ns : List Int) (la : Addr) (ka : Nat) (cs rest : Led) (hla : (la, listOf [.ref x, .int p tp, .int u tu].toArray ka) ∈ rest) (hx : (x, instObj 125 d) ∈ cs) (hdd : (d, vecD w t1 (.ref l)) ∈ cs) (hl : (l, listOf vs.toArray n) ∈ cs) (ha : Apart cs rest) (hi : IntsAre vs ns) (hb : vs.length ≤ 1000) (h0 : 0 ≤ p) (h1 : p < vs.length) :
    Ret w 20 200 (.ref 371) [.none, .ref la] (cs ++ rest) (fun r n' => r = .int u tu ∧ Turned w "vector" (vs.set p.toNat (.int u tu)) rest (.ref x) n') := by
  intro mean mg mb dp un gd cn cs' a ccd cl outer A₀ base h₀ L m s Q E B F XB N TB hk hok hu hret
  have X := Frag.In.keeps XB (Below.stays B)
  have T := Top.keeps TB (Below.stays B)
  have hlen : ns.length = vs.length := hi.length.symm
  have hxl : @Ne Nat x l := fun e => by subst e; exact News.inst N (List.mem_append_left _ hx) (List.mem_append_left _ hl) (by intro e; cases e)
  have hdl : @Ne Nat d l := fun e => by subst e; exact News.inst N (List.mem_append_left _ hdd) (List.mem_append_left _ hl) (fun e => absurd (Value.type.inj e) (by decide))
  have hr9 : ∀ p ∈ rest, p.1 ≠ l := fun p hp e => ha _ hl p hp e.symm
  replace N : News h₀ L s.heap ((x, instObj 125 d) :: (d, vecD w t1 (.ref l)) :: (l, listOf vs.toArray n) :: rest) := News.sub N fun p hp => by
    rcases List.mem_cons.mp hp with rfl | hp
    · exact List.mem_append_left _ hx
    · rcases List.mem_cons.mp hp with rfl | hp
      · exact List.mem_append_left _ hdd
      · rcases List.mem_cons.mp hp with rfl | hp
        · exact List.mem_append_left _ hl
        · exact List.mem_append_right _ hp
  refine wpAny_call ?_
  k_dflt (k_extra "my_enter2")
  k_steps
  k_extra "my_ret"
  exact ⟨rfl, [_, _, _], rfl, .vec (.head _) (.tail _ (.head _)) (.tail _ (.tail _ (.head _)))⟩
theorem aset_out_txt (w : World) (x d l : Addr) (t1 t2 : Tok) (n : Nat) (p : Int) (tp : Tok) (u : Value) (vs : List Value) (la : Addr) (ka : Nat) (news : Led) (hla : (la, listOf [.ref x, .int p tp, u].toArray ka) ∈ news) (hx : (x, instObj 104 d) ∈ news) (hdd : (d, txtD w t1 t2 (.ref l) .none) ∈ news) (hl : (l, listOf vs.toArray n) ∈ news) (hb : vs.length ≤ 1000) (h0 : ¬ (0 ≤ p ∧ p < vs.length)) :
    Rai w 20 200 (.ref 371) [.none, .ref la] news "args-out-of-range" := by
  k_extra "my_enter"
  k_steps
theorem aset_in_txt (w : World) (x d l : Addr) (t1 t2 : Tok) (n : Nat) (p : Int) (tp : Tok) (u : Int) (tu : Tok) (vs : List Value) (ns : List Int) (la : Addr) (ka : Nat) (cs rest : Led) (hla : (la, listOf [.ref x, .int p tp, .int u tu].toArray ka) ∈ rest) (hx : (x, instObj 104 d) ∈ cs) (hdd : (d, txtD w t1 t2 (.ref l) .none) ∈ cs) (hl : (l, listOf vs.toArray n) ∈ cs) (ha : Apart cs rest) (hi : IntsAre vs ns) (hb : vs.length ≤ 1000) (h0 : 0 ≤ p) (h1 : p < vs.length) (h2 : 0 ≤ u) (h3 : u ≤ 1000) :
    Ret w 20 200 (.ref 371) [.none, .ref la] (cs ++ rest) (fun r n' => r = .int u tu ∧ Turned w "string" (vs.set p.toNat (.int u tu)) rest (.ref x) n') := by
  intro mean mg mb dp un gd cn cs' a ccd cl outer A₀ base h₀ L m s Q E B F XB N TB hk hok hu hret
  have X := Frag.In.keeps XB (Below.stays B)
  have T := Top.keeps TB (Below.stays B)
  have hlen : ns.length = vs.length := hi.length.symm
  have hxl : @Ne Nat x l := fun e => by subst e; exact News.inst N (List.mem_append_left _ hx) (List.mem_append_left _ hl) (by intro e; cases e)
  have hdl : @Ne Nat d l := fun e => by subst e; exact News.inst N (List.mem_append_left _ hdd) (List.mem_append_left _ hl) (fun e => absurd (Value.type.inj e) (by decide))
  have hr9 : ∀ p ∈ rest, p.1 ≠ l := fun p hp e => ha _ hl p hp e.symm
  replace N : News h₀ L s.heap ((x, instObj 104 d) :: (d, txtD w t1 t2 (.ref l) .none) :: (l, listOf vs.toArray n) :: rest) := News.sub N fun p hp => by
    rcases List.mem_cons.mp hp with rfl | hp
    · exact List.mem_append_left _ hx
    · rcases List.mem_cons.mp hp with rfl | hp
      · exact List.mem_append_left _ hdd
      · rcases List.mem_cons.mp hp with rfl | hp
        · exact List.mem_append_left _ hl
        · exact List.mem_append_right _ hp
  refine wpAny_call ?_
  k_dflt (k_extra "my_enter2")
  k_steps
  k_extra "my_ret"
  exact ⟨rfl, [_, _, _], rfl, .txt (.head _) (.tail _ (.head _)) (.tail _ (.tail _ (.head _)))⟩
example : True := by
  k_with "@call ref" => ((k_here; (with_reducible show wpAny _ _ (call (Value.ref 317) [Value.int _ _]) _ _ _); k_dflt ((refine' Rai.use (need_code_neg _ _ _ _ ?p1) ?k1 ?k2 ?k3 ?k4 ?k5 ?kK ?kd ?ku ?_); k_extra "my_use"; (case p1 => k_extra "my_int"); intro e8 d8 od8 g8 h9 tk9 F8 U8 R8 sg8; k_extra "my_pass")))
  trivial
theorem aset_neg_txt (w : World) (x d l : Addr) (t1 t2 : Tok) (n : Nat) (p : Int) (tp : Tok) (u : Int) (tu : Tok) (vs : List Value) (la : Addr) (ka : Nat) (news : Led) (hla : (la, listOf [.ref x, .int p tp, .int u tu].toArray ka) ∈ news) (hx : (x, instObj 104 d) ∈ news) (hdd : (d, txtD w t1 t2 (.ref l) .none) ∈ news) (hl : (l, listOf vs.toArray n) ∈ news) (hb : vs.length ≤ 1000) (h0 : 0 ≤ p) (h1 : p < vs.length) (h2 : u < 0) :
    Rai w 20 200 (.ref 371) [.none, .ref la] news "wrong-type-argument" := by
  k_extra "my_enter"
  k_steps
example : True := by
  k_with "@call ref" => ((k_here; (with_reducible show wpAny _ _ (call (Value.ref 317) [Value.int _ _]) _ _ _); k_dflt ((refine' Ret.use (need_code_int _ _ _ _ ?p1 ?p2) K_val ?k1 ?k2 ?k3 ?k4 ?k5 ?kK ?kd ?ku ?_); k_extra "my_use"; (case p1 => k_extra "my_int"); (case p2 => k_extra "my_int"); refine fun h9 tk9 F9 N9 => ?_;  (try dsimp only); (try k_fold))))
  trivial
theorem rep_flat (n : Nat) (v : Value) : List.replicate n v = (List.replicate ((n : Int)).toNat [v]).flatten := by simp
theorem rep_flat' (n : Int) (v : Value) : List.replicate n.toNat v = (List.replicate n.toNat [v]).flatten := by simp
theorem fill_vec (w : World) (x d l : Addr) (t1 : Tok) (n : Nat) (u : Int) (tu : Tok) (vs : List Value) (la : Addr) (ka : Nat) (cs rest : Led) (hla : (la, listOf [.ref x, .int u tu].toArray ka) ∈ rest) (hx : (x, instObj 125 d) ∈ cs) (hdd : (d, vecD w t1 (.ref l)) ∈ cs) (hl : (l, listOf vs.toArray n) ∈ cs) (ha : Apart cs rest) (hb : vs.length ≤ 1000) :
    Ret w 20 200 (.ref 378) [.none, .ref la] (cs ++ rest) (fun r n' => r = .ref x ∧ Turned w "vector" (List.replicate vs.length (.int u tu)) rest (.ref x) n') := by
  intro mean mg mb dp un gd cn cs' a ccd cl outer A₀ base h₀ L m s Q E B F XB N TB hk hok hu hret
  have X := Frag.In.keeps XB (Below.stays B)
  have T := Top.keeps TB (Below.stays B)
  have hxd : @Ne Nat x d := fun e => by subst e; exact News.inst N (List.mem_append_left _ hx) (List.mem_append_left _ hdd) (by intro e; cases e)
  have hld : @Ne Nat l d := fun e => by subst e; exact News.inst N (List.mem_append_left _ hl) (List.mem_append_left _ hdd) (fun e => absurd (Value.type.inj e) (by decide))
  have hr9 : ∀ p ∈ rest, p.1 ≠ d := fun p hp e => ha _ hdd p hp e.symm
  replace N : News h₀ L s.heap ((x, instObj 125 d) :: (d, vecD w t1 (.ref l)) :: (l, listOf vs.toArray n) :: rest) := News.sub N fun p hp => by
    rcases List.mem_cons.mp hp with rfl | hp
    · exact List.mem_append_left _ hx
    · rcases List.mem_cons.mp hp with rfl | hp
      · exact List.mem_append_left _ hdd
      · rcases List.mem_cons.mp hp with rfl | hp
        · exact List.mem_append_left _ hl
        · exact List.mem_append_right _ hp
  refine wpAny_call ?_
  k_dflt (k_extra "my_enter2")
  k_steps
  k_extra "my_ret"
  refine ⟨rfl, [_, _, _, _, _], rfl, ?_⟩
  rw [rep_flat]
  exact .vec (.tail _ (.tail _ (.head _))) (.tail _ (.tail _ (.tail _ (.head _)))) (.head _)
theorem fill_txt (w : World) (x d l : Addr) (t1 t2 : Tok) (n : Nat) (u : Int) (tu : Tok) (vs : List Value) (la : Addr) (ka : Nat) (cs rest : Led) (hla : (la, listOf [.ref x, .int u tu].toArray ka) ∈ rest) (hx : (x, instObj 104 d) ∈ cs) (hdd : (d, txtD w t1 t2 (.ref l) .none) ∈ cs) (hl : (l, listOf vs.toArray n) ∈ cs) (ha : Apart cs rest) (hb : vs.length ≤ 1000) (h2 : 0 ≤ u) (h3 : u ≤ 1000) :
    Ret w 20 200 (.ref 378) [.none, .ref la] (cs ++ rest) (fun r n' => r = .ref x ∧ Turned w "string" (List.replicate vs.length (.int u tu)) rest (.ref x) n') := by
  intro mean mg mb dp un gd cn cs' a ccd cl outer A₀ base h₀ L m s Q E B F XB N TB hk hok hu hret
  have X := Frag.In.keeps XB (Below.stays B)
  have T := Top.keeps TB (Below.stays B)
  have hxd : @Ne Nat x d := fun e => by subst e; exact News.inst N (List.mem_append_left _ hx) (List.mem_append_left _ hdd) (by intro e; cases e)
  have hld : @Ne Nat l d := fun e => by subst e; exact News.inst N (List.mem_append_left _ hl) (List.mem_append_left _ hdd) (fun e => absurd (Value.type.inj e) (by decide))
  have hr9 : ∀ p ∈ rest, p.1 ≠ d := fun p hp e => ha _ hdd p hp e.symm
  replace N : News h₀ L s.heap ((x, instObj 104 d) :: (d, txtD w t1 t2 (.ref l) .none) :: (l, listOf vs.toArray n) :: rest) := News.sub N fun p hp => by
    rcases List.mem_cons.mp hp with rfl | hp
    · exact List.mem_append_left _ hx
    · rcases List.mem_cons.mp hp with rfl | hp
      · exact List.mem_append_left _ hdd
      · rcases List.mem_cons.mp hp with rfl | hp
        · exact List.mem_append_left _ hl
        · exact List.mem_append_right _ hp
  refine wpAny_call ?_
  k_dflt (k_extra "my_enter2")
  k_steps
  k_extra "my_ret"
  refine ⟨rfl, [_, _, _, _, _], rfl, ?_⟩
  rw [rep_flat]
  exact .txt (.tail _ (.tail _ (.head _))) (.tail _ (.tail _ (.tail _ (.head _)))) (.head _)
theorem make_vector_ok (w : World) (k : Int) (tk : Tok) (u : Int) (tu : Tok) (la : Addr) (ka : Nat) (news : Led) (hla : (la, listOf [.int k tk, .int u tu].toArray ka) ∈ news) (h0 : 0 ≤ k) (h1 : k ≤ 1000) :
    Ret w 20 200 (.ref 385) [.none, .ref la] news (NewSeq w "vector" (List.replicate k.toNat (.int u tu)) news) := by
  k_extra "my_enter"
  k_steps
  k_extra "my_ret"
  have hO9 : Over news d9 := Over.sub o9 fun p hp => .tail _ (.tail _ hp)
  refine ⟨[_, _, _, _], rfl, ?_, .over (hO9.lt l9) (.over hO9 (.cons (lt_of_all (And.right (by assumption))) (.over (by assumption) .nil)))⟩
  rw [rep_flat']
  exact .vec (.head _) (.tail _ (.head _)) (.tail _ (.tail _ (.head _)))
theorem make_vector_neg (w : World) (k : Int) (tk : Tok) (u : Value) (la : Addr) (ka : Nat) (news : Led) (hla : (la, listOf [.int k tk, u].toArray ka) ∈ news) (h0 : k < 0) :
    Rai w 20 200 (.ref 385) [.none, .ref la] news "wrong-type-argument" := by
  k_extra "my_enter"
  k_steps
  all_goals k_extra "my_raise"
/-- a row: its sort, the value that bears it, what it holds -/
structure RowV where
  so : String
  v : Value
  vs : List Value
abbrev flatV (rows : List RowV) : List Value := rows.flatMap RowV.vs
theorem flat_take {rows : List RowV} {i : Nat} {r : RowV} (h : rows[i]? = some r) : flatV (rows.take (i + 1)) = flatV (rows.take i) ++ r.vs := by
  rw [List.take_add_one, h]; simp [flatV]
theorem flat_len_take {rows : List RowV} {i : Nat} {r : RowV} (h : rows[i]? = some r) : (flatV (rows.take i)).length + r.vs.length ≤ (flatV rows).length := by
  have e := congrArg List.length (flat_take h)
  rw [List.length_append] at e
  rw [← e]
  have : flatV rows = flatV (rows.take (i + 1)) ++ flatV (rows.drop (i + 1)) := by rw [← List.flatMap_append, List.take_append_drop]
  rw [this, List.length_append]; omega
theorem vconcat_ok (w : World) (rows : List RowV) (la : Addr) (ka : Nat) (news : Led) (hla : (la, listOf (rows.map RowV.v).toArray ka) ∈ news) (hs : ∀ r ∈ rows, SeqIn w news r.so r.v r.vs) (hb : (flatV rows).length ≤ 1000) :
    Ret w 20 200 (.ref 399) [.none, .ref la] news (NewSeq w "vector" (flatV rows) news) := by
  k_extra "my_enter"
  have hStopLoop : StopLoop := .mk
  k_steps
  rename Fr _ _ _ _ => lF
  rename News _ _ _ _ => lN
  refine' iter_listJ (vs := rows.map RowV.v) (lo := listOf (rows.map RowV.v).toArray ka) (k := ka) (fun i m' n' => ∃ fl kf, Has m' [("found", .ref fl)] ∧ n' = (fl, listOf (flatV (rows.take i)).toArray kf) :: news ∧ Over news fl) ?hh ?hF ?hN ?hc ?hdX ?jm ?j0 ?turn ?done
  case hh => exact rfl
  case hF => exact lF
  case hN => exact lN
  case hc => exact rfl
  case hdX => exact rfl
  case jm => rintro i m n ⟨fl, kf, _, rfl, _⟩; exact .tail _ hla
  case j0 => exact ⟨_, _, ⟨rfl, trivial⟩, rfl, by assumption⟩
  case turn =>
    intro I it i v m₁ n₁ h₁ tk₁ hv hJ ho F₁ N₁
    obtain ⟨fl, kf, hM, hn, hO⟩ := hJ
    subst n₁
    obtain ⟨m₂, rfl⟩ := hM.ups
    obtain ⟨r, hr, rfl⟩ : ∃ r, rows[i]? = some r ∧ r.v = v := by rw [List.getElem?_map] at hv; simpa using hv
    have hsq := hs r (List.mem_of_getElem? hr)
    have hlen := flat_len_take hr
    have hb1 : r.vs.length ≤ 1000 := by omega
    have hb2 : (flatV (rows.take i)).length + r.vs.length ≤ 1000 := by omega
    replace F₁ : Fr g' L' h₁ _ := F₁
    replace N₁ : News g' L' h₁ _ := N₁
    clear lF lN
    k_steps
    dsimp only [TurnP]
    refine TurnE.intro (news' := (l9, listOf (flatV (rows.take i) ++ r.vs).toArray 0) :: news) (by k_asm) (by k_asm) (fun p hp => ?_) (List.forall_mem_cons.mpr ⟨Nat.ne_of_gt (o9 _ (.tail _ (.head _))), ne_tail ho⟩) ⟨l9, 0, ⟨rfl, trivial⟩, by rw [flat_take hr], Over.sub o9 fun p hp => .tail _ (.tail _ (.tail _ hp))⟩
    rcases List.mem_cons.mp hp with rfl | hp
    · exact .tail _ (.tail _ (.head _))
    · rcases List.mem_cons.mp hp with rfl | hp
      · exact .head _
      · exact .tail _ (.tail _ (.tail _ (.tail _ hp)))
  case done =>
    intro m₁ n₁ h₁ tk₁ hJ F₁ N₁
    obtain ⟨fl, kf, hM, hn, hO⟩ := hJ
    subst n₁
    obtain ⟨m₂, rfl⟩ := hM.ups
    replace F₁ : Fr g' L' h₁ _ := F₁
    replace N₁ : News g' L' h₁ _ := N₁
    clear lF lN
    rw [show (rows.map RowV.v).length = rows.length by simp, List.take_length] at N₁
    try dsimp only
    k_steps
    k_extra "my_ret"
    exact NewSeq.vec o9 l9 hO
theorem things_in_int (w : World) (i : Int) (t : Tok) (news : Led) : Rai w 14 140 (.ref 331) [.int i t] news "wrong-type-argument" := by
  k_extra "my_enter"
  k_with "my code" => ((with_reducible show wpAny _ _ (call (Value.ref 214) _) _ _ _); k_dflt (refine' Ret.use (is_list_int _ _ _ _) K_val ?k1 ?k2 ?k3 ?k4 ?k5 ?kK ?kd ?ku ?_); k_extra "my_use"; refine fun h9 tk9 F9 N9 => ?_; (try dsimp only); (try k_fold))
  k_steps
  k_extra "my_raise"
example : True := by
  k_with "@call ref" => ((k_here; (with_reducible show wpAny _ _ (call (Value.ref 331) [Value.int _ _]) _ _ _); k_dflt ((refine' Rai.use (things_in_int _ _ _ _) ?k1 ?k2 ?k3 ?k4 ?k5 ?kK ?kd ?ku ?_); k_extra "my_use";  intro e8 d8 od8 g8 h9 tk9 F8 U8 R8 sg8; k_extra "my_pass")))
  trivial
theorem vconcat_out (w : World) (rows : List RowV) (la : Addr) (ka : Nat) (news : Led) (t5 : Tok) (hla : (la, listOf (rows.map RowV.v ++ [Value.int 5 t5]).toArray ka) ∈ news) (hs : ∀ r ∈ rows, SeqIn w news r.so r.v r.vs) (hb : (flatV rows).length ≤ 1000) :
    Rai w 20 200 (.ref 399) [.none, .ref la] news "wrong-type-argument" := by
  k_extra "my_enter"
  have hStopLoop : StopLoop := .mk
  k_steps
  rename Fr _ _ _ _ => lF
  rename News _ _ _ _ => lN
  refine' iter_listJ (vs := rows.map RowV.v ++ [Value.int 5 t5]) (lo := listOf (rows.map RowV.v ++ [Value.int 5 t5]).toArray ka) (k := ka) (fun i m' n' => ∃ fl kf, Has m' [("found", .ref fl)] ∧ i ≤ rows.length ∧ n' = (fl, listOf (flatV (rows.take i)).toArray kf) :: news ∧ Over news fl) ?hh ?hF ?hN ?hc ?hdX ?jm ?j0 ?turn ?done
  case hh => exact rfl
  case hF => exact lF
  case hN => exact lN
  case hc => exact rfl
  case hdX => exact rfl
  case jm => rintro i m n ⟨fl, kf, _, _, rfl, _⟩; exact .tail _ hla
  case j0 => exact ⟨_, _, ⟨rfl, trivial⟩, Nat.zero_le _, rfl, by assumption⟩
  case turn =>
    intro I it i v m₁ n₁ h₁ tk₁ hv hJ ho F₁ N₁
    obtain ⟨fl, kf, hM, hle, hn, hO⟩ := hJ
    subst n₁
    obtain ⟨m₂, rfl⟩ := hM.ups
    by_cases hlt : i < rows.length
    rotate_left
    · obtain rfl : i = rows.length := by omega
      rw [List.getElem?_append_right (by simp)] at hv
      have hv : v = .int 5 t5 := by simpa using hv.symm
      subst hv
      replace F₁ : Fr g' L' h₁ _ := F₁
      replace N₁ : News g' L' h₁ _ := N₁
      clear lF lN
      k_steps
    rw [List.getElem?_append_left (by simpa using hlt)] at hv
    obtain ⟨r, hr, rfl⟩ : ∃ r, rows[i]? = some r ∧ r.v = v := by rw [List.getElem?_map] at hv; simpa using hv
    have hsq := hs r (List.mem_of_getElem? hr)
    have hlen := flat_len_take hr
    have hb1 : r.vs.length ≤ 1000 := by omega
    have hb2 : (flatV (rows.take i)).length + r.vs.length ≤ 1000 := by omega
    replace F₁ : Fr g' L' h₁ _ := F₁
    replace N₁ : News g' L' h₁ _ := N₁
    clear lF lN
    k_steps
    dsimp only [TurnP]
    refine TurnE.intro (news' := (l9, listOf (flatV (rows.take i) ++ r.vs).toArray 0) :: news) (by k_asm) (by k_asm) (fun p hp => ?_) (List.forall_mem_cons.mpr ⟨Nat.ne_of_gt (o9 _ (.tail _ (.head _))), ne_tail ho⟩) ⟨l9, 0, ⟨rfl, trivial⟩, hlt, by rw [flat_take hr], Over.sub o9 fun p hp => .tail _ (.tail _ (.tail _ hp))⟩
    rcases List.mem_cons.mp hp with rfl | hp
    · exact .tail _ (.tail _ (.head _))
    · rcases List.mem_cons.mp hp with rfl | hp
      · exact .head _
      · exact .tail _ (.tail _ (.tail _ (.tail _ hp)))
  case done =>
    intro m₁ n₁ h₁ tk₁ hJ F₁ N₁
    obtain ⟨fl, kf, hM, hle, hn, hO⟩ := hJ
    simp only [List.length_append, List.length_map, List.length_cons, List.length_nil] at hle
    omega
theorem item_last {prog : Program} {w : World} {A : Around} {E : Value → Shared → Prop} {s : Shared} {h₀ : Heap} {L l : Addr} {news : Led} {value slice : PySem.Expr} {vs : List Value} {n : Nat} {u : Tok} {v : Value} {Q : Value → Shared → Prop}
    (N : News h₀ L s.heap news) (hm : (l, listOf (vs ++ [v]).toArray n) ∈ news) (h : Q v s)
    (hs : subscripted slice false (.ref l) (.int (-1) u) = operate [.ref l, .int (-1) u] (getItem (.ref l) (.int (-1) u)) := by with_unfolding_all rfl) :
    wpAny (model prog w) A (subscriptTail value slice (.ref l) (.int (-1) u)) Q E s :=
  have hl : s.heap.IsList l (vs ++ [v]).toArray := ⟨_, (N _ hm).1, rfl, n, rfl⟩
  tail_any hl.typeIs slot_list_getitem.lookup (wpAny_getItem_list_neg hl (by decide) (by simp; omega) (by decide) (by
    rw [show ((-1 : Int) + ((vs ++ [v]).toArray.size : Nat)).toNat = vs.length by simp; omega]; simp) h) hs
example : True := by
  k_with "@subscriptTail" => ((k_here; (with_reducible show wpAny _ _ (subscriptTail _ _ (Value.ref _) (Value.int (-1) _)) _ _ _); k_dflt (refine' item_last ?k1 ?k2 ?_ ?k6; (case k1 => k_asm); (case k2 => k_mem); (case k6 => with_unfolding_all rfl); k_whole)))
  trivial
theorem CellsOf.cells {w : World} {v tv : Value} {vs : List Value} {cs : Led} (h : CellsOf w v vs tv cs) : Cells w v vs tv cs := by
  induction h with
  | nil => exact .nil
  | cons _ _ _ ih => exact .cons ih
theorem flat_drop {rows : List RowV} {i : Nat} (hi : i < rows.length) : flatV (rows.drop (rows.length - (i + 1))) = (rows[rows.length - 1 - i]'(by omega)).vs ++ flatV (rows.drop (rows.length - i)) := by
  rw [List.drop_eq_getElem_cons (by omega)]
  show (rows[rows.length - (i + 1)]'(by omega)).vs ++ flatV (rows.drop (rows.length - (i + 1) + 1)) = _
  congr 2
  · congr 1; omega
  · congr 2; omega
example : True := by
  k_with "@call ref" => ((k_here; (with_reducible show wpAny _ _ (call (Value.ref 193) [_, _]) _ _ _); k_dflt ((refine' Ret.use (list_of2 _ _ _ _ _ _ ?p1 ?p2) K_listof ?k1 ?k2 ?k3 ?k4 ?k5 ?kK ?kd ?ku ?_); k_extra "my_use"; (case p1 => k_mem); (case p2 => k_extra "my_bound"); refine fun r9 cs9 hC9 hF9 h9 tk9 F9 N9 => ?_;  (try dsimp only); (try k_fold))))
  trivial
theorem append_ok (w : World) (rows : List RowV) (tv : Value) (la : Addr) (ka : Nat) (news : Led) (hla : (la, listOf (rows.map RowV.v ++ [tv]).toArray ka) ∈ news) (hs : ∀ r ∈ rows, SeqIn w news r.so r.v r.vs) (hb : (flatV rows).length ≤ 1000) (hr3 : rows.length ≤ 900) :
    Ret w 30 300 (.ref 392) [.none, .ref la] news (fun r n' => ∃ cs, n' = cs ++ news ∧ Cells w r (flatV rows) tv cs ∧ Apart cs news) := by
  have hal : (rows.map RowV.v ++ [tv]).length = rows.length + 1 := by simp
  have hal' : (rows.map RowV.v ++ [tv]).length ≤ 1000 := by omega
  k_extra "my_enter"
  have hStopLoop : StopLoop := .mk
  k_steps
  k_extra "my_range"
  refine' iter_rangeJ (n := rows.length) (fun i m' n' => ∃ fv cs, Has m' [("found", fv), ("args", .ref la)] ∧ n' = cs ++ news ∧ Cells w fv (flatV (rows.drop (rows.length - i))) tv cs ∧ Apart cs news) ?hh rgX ?hs ?hn lF' lN' ?j0 ?turn ?done
  case hh => rfl
  case hs => exact small_down (by omega) (by omega) (by omega) (by omega)
  case hn => rw [rangeSize_downNat]; omega
  case j0 =>
    refine ⟨tv, [], ⟨rfl, rfl, trivial⟩, rfl, ?_, .nil⟩
    rw [Nat.sub_zero, List.drop_length]; exact .nil
  case turn =>
    intro I it i t m₁ n₁ h₁ tk₁ hi hJ ho F₁ N₁
    obtain ⟨fv, cells, hM, hn, hC, hA⟩ := hJ
    subst n₁
    obtain ⟨m₂, rfl⟩ := hM.ups
    replace F₁ : Fr g' L' h₁ _ := F₁
    replace N₁ : News g' L' h₁ _ := N₁
    have hla₁ : (la, listOf (rows.map RowV.v ++ [tv]).toArray ka) ∈ cells ++ news := List.mem_append_right _ hla
    have hx : (rows.map RowV.v ++ [tv])[(((rows.map RowV.v ++ [tv]).length : Int) - 2 + (i : Int) * -1).toNat]? = some (rows[rows.length - 1 - i]'(by omega)).v := by
      rw [List.getElem?_append_left (by simp; omega), List.getElem?_map, List.getElem?_eq_getElem (by simp; omega)]
      simp only [Option.map_some]
      congr 3
      simp; omega
    have hr0 : 0 ≤ ((rows.map RowV.v ++ [tv]).length : Int) - 2 + (i : Int) * -1 := by rw [hal]; omega
    have hr1 : ((rows.map RowV.v ++ [tv]).length : Int) - 2 + (i : Int) * -1 < 2000 := by rw [hal]; omega
    have hsq := hs _ (List.getElem_mem (show rows.length - 1 - i < rows.length by omega))
    have hlen := flat_len_take (List.getElem?_eq_getElem (show rows.length - 1 - i < rows.length by omega))
    have hb1 : (rows[rows.length - 1 - i]'(by omega)).vs.length ≤ 1000 := by omega
    clear lF' lN' rgX
    k_steps
    dsimp only [TurnP]
    refine TurnE.intro (news' := cs9 ++ cells ++ news) (by k_asm) (by k_asm) (fun p hp => ?_) (fun p hp => ?_) ⟨r9, cs9 ++ cells, ⟨rfl, rfl, trivial⟩, rfl, ?_, ?_⟩
    · simp at hp ⊢; rcases hp with h | h | h | h <;> simp [h]
    · rcases List.mem_append.mp hp with hp | hp
      · rcases List.mem_append.mp hp with hp | hp
        · exact Nat.ne_of_gt (hF9 p hp (I, it) (.tail _ (.head _)))
        · exact ho p (List.mem_append_left _ hp)
      · exact ho p (List.mem_append_right _ hp)
    · rw [flat_drop hi]; exact hC9.cells.append hC
    · intro p hp
      rcases List.mem_append.mp hp with hp | hp
      · exact fun q hq => (Fresh.apart hF9) p hp q (.tail _ (.tail _ (List.mem_append_right _ hq)))
      · exact hA p hp
  case done =>
    intro m₁ n₁ h₁ tk₁ hJ F₁ N₁
    obtain ⟨fv, cells, hM, hn, hC, hA⟩ := hJ
    subst n₁
    obtain ⟨m₂, rfl⟩ := hM.ups
    replace F₁ : Fr g' L' h₁ _ := F₁
    replace N₁ : News g' L' h₁ _ := N₁
    clear lF' lN' rgX
    try dsimp only
    k_steps
    k_extra "my_ret"
    exact ⟨cells, rfl, by simpa using hC, hA⟩
def numSeq (f l st : Int) : List Int := if f = l then [f] else (List.range ((l - f).fdiv st + 1).toNat).map fun (i : Nat) => f + st * (i : Int)
section
variable {prog : Program} {w : World} {A : Around} {E : Value → Shared → Prop} {s : Shared} {i j : Int} {t u : Tok} {Q : Value → Shared → Prop}
theorem eq_yes (h : i = j) (q : Q (.bool true) s) : wpAny (model prog w) A (compareOp .Eq (.int i t) (.int j u)) Q E s := PyProof.Rows.eq_int (by rw [h, beq_self_eq_true]; exact q)
theorem eq_no (h : i ≠ j) (q : Q (.bool false) s) : wpAny (model prog w) A (compareOp .Eq (.int i t) (.int j u)) Q E s := PyProof.Rows.eq_int (by rw [beq_false_of_ne h]; exact q)
end
theorem fdiv_bound (a b : Int) (h1 : -20 ≤ a) (h2 : a ≤ 20) (h3 : -10 ≤ b) (h4 : b ≤ 10) : -20 ≤ a.fdiv b ∧ a.fdiv b ≤ 20 := by
  have key : ∀ x : Fin 41, ∀ y : Fin 21, -20 ≤ ((x.val : Int) - 20).fdiv ((y.val : Int) - 10) ∧ ((x.val : Int) - 20).fdiv ((y.val : Int) - 10) ≤ 20 := by decide +kernel
  have := key ⟨(a + 20).toNat, by omega⟩ ⟨(b + 10).toNat, by omega⟩
  dsimp only at this
  rw [show ((a + 20).toNat : Int) - 20 = a by omega, show ((b + 10).toNat : Int) - 10 = b by omega] at this
  exact this
example : True := by
  k_with "@compareOp Eq int int" => (k_dflt (first | with_reducible refine eq_yes (by omega) ?_ | with_reducible refine eq_no (by omega) ?_))
  trivial
example : True := by
  k_with "@call builtin:len" => ((k_here; (with_reducible show wpAny _ _ (call (Value.builtin "len") [Value.ref _]) _ _ _); k_dflt (refine' len_led ?k1 ?k2 ?k3 ?_; (case k1 => k_asm); (case k2 => k_mem); (case k3 => k_extra "my_bound"); k_whole); simp only [List.length_cons, List.length_nil]))
  trivial
example : True := by
  k_with "my_sub" => (first | exact fun _ h => .tail _ (.tail _ (.tail _ (.tail _ h))) | exact fun _ h => .tail _ (.tail _ (.tail _ (.tail _ (.tail _ h)))) | exact fun _ h => .tail _ (.tail _ (.tail _ (.tail _ (.tail _ (.tail _ h))))))
  trivial
example : True := by
  k_with "@call ref" => ((k_here; (with_reducible show wpAny _ _ (call (Value.ref 235) [Value.int _ _]) _ _ _); k_dflt ((refine' Ret.use (need_whole_int _ _ _ _) K_val ?k1 ?k2 ?k3 ?k4 ?k5 ?kK ?kd ?ku ?_); k_extra "my_use";  refine fun h9 tk9 F9 N9 => ?_;  (try dsimp only); (try k_fold))))
  trivial
section
variable {prog : Program} {w : World} {A : Around} {s : Shared} {h₀ : Heap} {L : Addr} {m : Str → Option Value} {env : Env}
/-- a comprehension over a ledger that stands -/
theorem compC {elt : Expr} {x : Str} {scope : Scope} {cl : List (Str × Addr)} {S : Led → Prop} {P : Nat → Value → Prop} {Fin : List Value → Led → Prop} {n : Nat} {news : Led} (J : Nat → List Value → Prop)
    (turn : ∀ i ys v I oI C oC D m₂ h tk (E' : Value → Shared → Prop), i < n → J i ys → P i v → LCg.NsObj oC m₂ → m₂ x = some v → Fr h₀ L h m → News h₀ L h ((I, oI) :: (C, oC) :: (D, LCg.lst ys) :: news) → LCg.Off3 I C D news → ((@Ne Nat I C) ∧ (@Ne Nat I D) ∧ (@Ne Nat C D)) →
      wpAny (model prog w) A (eval elt (compEnvC scope cl C env)) (LCg.CompEnd h₀ L m { s with heap := h, toks := tk } I oI C oC D (LCg.lst ys) S (fun y news' => news' = news ∧ J (i + 1) (ys ++ [y]))) E' { s with heap := h, toks := tk })
    (fin : ∀ ys, J n ys → Fin ys news) (j0 : J 0 []) : LCg.CompRest prog w A h₀ L m env elt x scope cl s S P Fin n 0 [] news :=
  compJ (fun i ys nw => nw = news ∧ J i ys) (by rintro i ys nw v I oI C oC D m₂ h tk E' hi ⟨rfl, j⟩ hP ho hm F N off ne; exact turn i ys v I oI C oC D m₂ h tk E' hi j hP ho hm F N off ne)
    (by rintro ys nw ⟨rfl, j⟩; exact fin ys j) n 0 [] news (Nat.zero_add _) ⟨rfl, j0⟩
end
theorem num_same (w : World) (f l st : Int) (tf tl ts : Tok) (la : Addr) (ka : Nat) (news : Led) (hla : (la, listOf [.int f tf, .int l tl, .int st ts].toArray ka) ∈ news) (he : l = f) :
    Ret w 20 200 (.ref 435) [.none, .ref la] news (fun r n' => ∃ vs, IntsAre vs (numSeq f l st) ∧ NewSeq w "list" vs news r n') := by
  k_extra "my_enterC"
  have hc1 : ∀ p ∈ news, p.1 ≠ L' + 1 := fun p hp => Nat.ne_of_lt (Nat.lt_succ_of_lt (oL9 p hp))
  have hc2 : ∀ p ∈ news, p.1 ≠ L' + 1 + 1 := fun p hp => Nat.ne_of_lt (Nat.lt_succ_of_lt (Nat.lt_succ_of_lt (oL9 p hp)))
  k_steps
  all_goals
    k_extra "my_ret"
    refine ⟨[.int f tf], by rw [numSeq, if_pos he.symm]; exact .cons f tf .nil, NewSeq.mid (mid := [_, _, _]) (.list (hC9.chain (.cons f tf .nil) fun _ h => h)) (Fresh.apart hF9) ?_⟩
    exact .over (Over.sub o9 fun p hp => .tail _ (.tail _ hp)) (.cons hc2 (.cons hc1 .nil))
theorem num_err (w : World) (f l st : Int) (tf tl ts : Tok) (la : Addr) (ka : Nat) (news : Led) (hla : (la, listOf [.int f tf, .int l tl, .int st ts].toArray ka) ∈ news) (he : l ≠ f) (h0 : st = 0) :
    Rai w 20 200 (.ref 435) [.none, .ref la] news "error" := by
  k_extra "my_enterC"
  have hc1 : ∀ p ∈ news, p.1 ≠ L' + 1 := fun p hp => Nat.ne_of_lt (Nat.lt_succ_of_lt (oL9 p hp))
  have hc2 : ∀ p ∈ news, p.1 ≠ L' + 1 + 1 := fun p hp => Nat.ne_of_lt (Nat.lt_succ_of_lt (Nat.lt_succ_of_lt (oL9 p hp)))
  k_steps
  all_goals k_extra "my_raise"
theorem num_seq (w : World) (f l st : Int) (tf tl ts : Tok) (la : Addr) (ka : Nat) (news : Led) (hla : (la, listOf [.int f tf, .int l tl, .int st ts].toArray ka) ∈ news) (he : l ≠ f) (h0 : st ≠ 0) (hf1 : -10 ≤ f) (hf2 : f ≤ 10) (hl1 : -10 ≤ l) (hl2 : l ≤ 10) (hs1 : -10 ≤ st) (hs2 : st ≤ 10) :
    Ret w 20 200 (.ref 435) [.none, .ref la] news (fun r n' => ∃ vs, IntsAre vs (numSeq f l st) ∧ NewSeq w "list" vs news r n') := by
  obtain ⟨hq', hq⟩ := fdiv_bound (l - f) st (by omega) (by omega) (by omega) (by omega)
  k_extra "my_enterC"
  have hc1 : ∀ p ∈ news, p.1 ≠ L' + 1 := fun p hp => Nat.ne_of_lt (Nat.lt_succ_of_lt (oL9 p hp))
  have hc2 : ∀ p ∈ news, p.1 ≠ L' + 1 + 1 := fun p hp => Nat.ne_of_lt (Nat.lt_succ_of_lt (Nat.lt_succ_of_lt (oL9 p hp)))
  have hStopComp : StopComp := .mk
  have hStopSrc : StopSrc := .mk
  k_steps
  k_extra "my_comp"
  k_steps
  rename Fr _ _ _ _ => lF
  rename News _ _ _ _ => lN
  rename IsRange _ _ _ _ _ _ _ _ => rgX
  refine' LCg.CompSrc.range ?hh ?hF ?hN ?hr ?hsm ?hn ?hsz ?hk
  case hh => exact rfl
  case hF => exact lF
  case hN => exact lN
  case hr => exact rgX
  case hsm => exact small_one (by omega) (by omega) (by omega) (by omega)
  case hn => exact rangeSize_nat _ _
  case hsz => simp only [PySem.sizeLine_eq]; omega
  refine fun g => compC (fun i ys => IntsAre ys ((List.range i).map fun (k : Nat) => f + st * (k : Int))) ?turn ?fin .nil
  case turn =>
    rintro i ys v I oI C oC D m₂ h tk E' hi9 hJ ⟨t9, rfl⟩ ho hm F9 N9 off ne
    have hi : (i : Int) < 30 := by omega
    clear lF lN rgX
    k_steps
    refine LCg.CompEnd.intro (by k_asm) (by k_asm) _ (fun p hp => hp) off trivial ⟨rfl, ?_⟩
    rw [List.range_succ, List.map_append, Int.zero_add]
    exact IntsAre.append hJ (.cons _ _ .nil)
  case fin =>
    intro ys hJ
    rw [Int.sub_zero] at hJ
    have hys : ys.length ≤ 1000 := by have := hJ.length; simp at this; omega
    clear lF lN rgX
    intro D h tk F9 N9 o1
    have o9' := off_one o1
    try dsimp only
    k_steps
    k_extra "my_ret"
    refine ⟨ys, by rw [numSeq, if_neg he.symm]; exact hJ, NewSeq.mid (mid := [_, _, _, _]) (.list (hC9.chain hJ fun _ h => h)) (Fresh.apart hF9) ?_⟩
    exact .cons (fun p hp => o9' p (.tail _ (.tail _ (.tail _ hp)))) (.cons (lt_of_all (And.right (And.right (by assumption)))) (.cons hc2 (.cons hc1 .nil)))
example : True := by
  k_with "my_bound" => (first | with_reducible assumption | exact Nat.le_trans (by with_reducible assumption) (by decide) | omega)
  trivial
/-- a row told as a list of its sort and its numbers -/
def RowNew (so : String) (vs : List Value) (news : Led) (r : Value) (n' : Led) : Prop := ∃ o li ko kl ts, r = .ref o ∧ n' = (o, listOf [.str (Str.ofString so) ts, .ref li].toArray ko) :: (li, listOf vs.toArray kl) :: news ∧ (∀ p ∈ (li, listOf vs.toArray kl) :: news, p.1 ≠ o) ∧ (∀ p ∈ news, p.1 ≠ li)
def KRow (so : String) (vs : List Value) (news : Led) (P : Value → Led → Prop) : Prop := ∀ o li ko kl ts, (∀ p ∈ (li, listOf vs.toArray kl) :: news, p.1 ≠ o) → (∀ p ∈ news, p.1 ≠ li) → P (.ref o) ((o, listOf [.str (Str.ofString so) ts, .ref li].toArray ko) :: (li, listOf vs.toArray kl) :: news)
theorem K_row {so : String} {vs : List Value} {news : Led} : ∀ P, KRow so vs news P → ∀ r n, RowNew so vs news r n → P r n := by
  rintro P h _ _ ⟨o, li, ko, kl, ts, rfl, rfl, h1, h2⟩; exact h o li ko kl ts h1 h2
theorem row_vec (w : World) (x d l : Addr) (t1 : Tok) (n : Nat) (vs : List Value) (news : Led) (hx : (x, instObj 125 d) ∈ news) (hdd : (d, vecD w t1 (.ref l)) ∈ news) (hl : (l, listOf vs.toArray n) ∈ news) (hb : vs.length ≤ 90) :
    Ret w 10 100 (.ref 454) [.ref x] news (RowNew "vector" vs news) := by
  k_extra "my_enter"
  k_steps
  k_extra "my_ret"
  exact ⟨_, _, _, _, _, rfl, rfl, ne_of_over (by with_reducible assumption), ne_of_over (by with_reducible assumption)⟩
theorem row_txt (w : World) (x d l : Addr) (t1 t2 : Tok) (n : Nat) (vs : List Value) (news : Led) (hx : (x, instObj 104 d) ∈ news) (hdd : (d, txtD w t1 t2 (.ref l) .none) ∈ news) (hl : (l, listOf vs.toArray n) ∈ news) (hb : vs.length ≤ 90) :
    Ret w 10 100 (.ref 454) [.ref x] news (RowNew "string" vs news) := by
  k_extra "my_enter"
  k_steps
  k_extra "my_ret"
  exact ⟨_, _, _, _, _, rfl, rfl, ne_of_over (by with_reducible assumption), ne_of_over (by with_reducible assumption)⟩
def RowJ (w : World) (vs : List Value) (news : Led) (lt : Addr) (k : Nat) (m' : Str → Option Value) (n' : Led) : Prop :=
  ∃ us ds av, Has m' [("found", .ref lt), ("value", .ref av)] ∧ vs = us ++ ds ∧ n' = (lt, listOf us.toArray us.length) :: news ∧ ChainIn w news (.ref av) ds ∧ k = ds.length
theorem row_ar {a b n : Nat} (h : n = a + (b + 1)) (hb : n ≤ 90) : a < 99 ∧ a ≤ 1000 := by omega
theorem RowJ.elim {w : World} {vs : List Value} {news n₁ : Led} {lt : Addr} {k : Nat} {m₁ : Str → Option Value} {h₀ h₁ : Heap} {L : Addr} {G : Prop} (hJ : RowJ w vs news lt k m₁ n₁) (F : Fr h₀ L h₁ m₁) (N : News h₀ L h₁ n₁) (hb : vs.length ≤ 90)
    (hnil : ∀ m₂, Fr h₀ L h₁ (Mine.ups [("found", .ref lt), ("value", .ref 64)] m₂) → News h₀ L h₁ ((lt, listOf vs.toArray vs.length) :: news) → G)
    (hcons : ∀ m₂ us i0 t0 av d t1 t2 a' k', Fr h₀ L h₁ (Mine.ups [("found", .ref lt), ("value", .ref av)] m₂) → News h₀ L h₁ ((lt, listOf us.toArray us.length) :: news) → (av, instObj 82 d) ∈ news → (d, consD w t1 t2 (.int i0 t0) (.ref a')) ∈ news → us.length < 99 → us.length ≤ 1000 → k' < k →
      (∀ m' n', Has m' [("found", .ref lt), ("value", .ref a')] → n' = (lt, listOf (us ++ [Value.int i0 t0]).toArray (us.length + 1)) :: news → RowJ w vs news lt k' m' n') → G) : G := by
  obtain ⟨us, ds, av, hM, hv, rfl, hA, rfl⟩ := hJ
  obtain ⟨m₂, rfl⟩ := hM.ups
  cases hA with
  | nil => rw [List.append_nil] at hv; subst hv; exact hnil _ F N
  | @cons v ds x d t1 t2 t0 i0 hx hdX hr =>
    have hlen := congrArg List.length hv
    rw [List.length_append, List.length_cons] at hlen
    obtain ⟨a', rfl⟩ := hr.ref
    have har := row_ar hlen hb
    refine hcons m₂ us _ _ _ _ _ _ _ _ F N hx hdX har.1 har.2 (Nat.lt_succ_self _) fun m' n' hm' hn' => ⟨us ++ [Value.int i0 t0], ds, a', hm', by rw [hv, List.append_assoc]; rfl, ?_, hr, rfl⟩
    rw [List.length_append]; exact hn'
theorem row_list (w : World) (v : Value) (vs : List Value) (news : Led) (hc : ChainIn w news v vs) (hb : vs.length ≤ 90) :
    Ret w 10 100 (.ref 454) [v] news (RowNew "list" vs news) := by
  obtain ⟨va, rfl⟩ := hc.ref
  k_extra "my_enter"
  have hStopWhile : StopWhile := .mk
  k_steps
  rename Fr _ _ _ _ => lF
  rename News _ _ _ _ => lN
  have hO : Over news l9 := o9
  refine While_inv (RowJ w vs news l9) lF lN ⟨[], vs, va, ⟨rfl, rfl, trivial⟩, rfl, rfl, hc, rfl⟩ ?_
  intro k m₁ n₁ h₁ tk₁ F₁ N₁ hJ
  clear lF lN
  refine hJ.elim F₁ N₁ hb (fun m₂ F₂ N₂ => ?_) fun m₂ us i0 t0 av d t1 t2 a' k' F₂ N₂ hx hdX hu9 hul hlt hnx => ?_
  · clear F₁ N₁ hJ
    k_steps
    k_extra "my_ret"
    exact ⟨_, _, _, _, _, rfl, rfl, ne_of_over (by with_reducible assumption), ne_of_over hO⟩
  · clear F₁ N₁ hJ
    k_steps
    refine While_next (by k_asm) (by k_asm) hlt ?_
    exact hnx _ _ ⟨rfl, rfl, trivial⟩ rfl
theorem row_ok (w : World) (so : String) (v : Value) (vs : List Value) (news : Led) (hs : SeqIn w news so v vs) (hb : vs.length ≤ 90) : Ret w 10 100 (.ref 454) [v] news (RowNew so vs news) := by
  cases hs with
  | list c => exact row_list w v vs news c hb
  | vec a b c => exact row_vec w _ _ _ _ _ vs news a b c hb
  | txt a b c => exact row_txt w _ _ _ _ _ _ vs news a b c hb
theorem new_vec (w : World) (l : Addr) (k : Nat) (ts : Tok) (vs : List Value) (news : Led) (hl : (l, listOf vs.toArray k) ∈ news) (hb : vs.length ≤ 1000) :
    Ret w 14 140 (.ref 461) [.str (Str.ofString "vector") ts, .ref l] news (NewSeq w "vector" vs news) := by
  k_extra "my_enter"
  k_steps
  k_extra "my_ret"
  exact NewSeq.vec o9 l9 (by with_reducible assumption)
theorem new_txt (w : World) (l : Addr) (k : Nat) (ts : Tok) (vs : List Value) (news : Led) (hl : (l, listOf vs.toArray k) ∈ news) (hb : vs.length ≤ 1000) :
    Ret w 14 140 (.ref 461) [.str (Str.ofString "string") ts, .ref l] news (NewSeq w "string" vs news) := by
  k_extra "my_enter"
  k_steps
  k_extra "my_ret"
  exact NewSeq.txt o9 l9 (by with_reducible assumption)
theorem new_list (w : World) (l : Addr) (k : Nat) (ts : Tok) (vs : List Value) (ns : List Int) (news : Led) (hl : (l, listOf vs.toArray k) ∈ news) (hi : IntsAre vs ns) (hb : vs.length ≤ 1000) :
    Ret w 14 140 (.ref 461) [.str (Str.ofString "list") ts, .ref l] news (NewSeq w "list" vs news) := by
  k_extra "my_enter"
  k_steps
  k_extra "my_ret"
  exact NewSeq.mid (mid := [_]) (.list (hC9.chain hi fun _ h => h)) (Fresh.apart hF9) (.over (by with_reducible assumption) .nil)
abbrev deckO (c : Addr) (p : Int) (tp : Tok) (kk : Nat) : Obj := listOf [.ref c, .int p tp].toArray kk
theorem fmod_pos {a m : Int} (h : 0 < m) : 0 ≤ Int.fmod a m ∧ Int.fmod a m < m := by
  rw [Int.fmod_eq_emod_of_nonneg _ (Int.le_of_lt h)]
  exact ⟨Int.emod_nonneg _ (by omega), Int.emod_lt_of_pos _ h⟩
theorem bits_small {b : Int} (h0 : 0 ≤ b) (h1 : b < 2 ^ 40) : Builtin.Int.intBits b ≤ 64 := by
  unfold Builtin.Int.intBits
  split
  · omega
  · have : b.natAbs.log2 < 40 := (Nat.log2_lt (by simp_all)).mpr (by omega)
    omega
section
variable {prog : Program} {w : World} {A : Around} {E : Value → Shared → Prop} {s : Shared} {a b : Int} {t u : Tok} {Q : Value → Shared → Prop}
theorem mod_q (hb : 0 < b) (h : ∀ q, 0 ≤ q → q < b → Q (.int q s.toks) { s with toks := s.toks + 1 }) : wpAny (model prog w) A (binaryOp .Mod (.int a t) (.int b u)) Q E s :=
  PyProof.Rows.mod_int' (by omega) (h _ (fmod_pos hb).1 (fmod_pos hb).2)
theorem mod_any (hb : b ≠ 0) (h : ∀ q, Q (.int q s.toks) { s with toks := s.toks + 1 }) : wpAny (model prog w) A (binaryOp .Mod (.int a t) (.int b u)) Q E s :=
  PyProof.Rows.mod_int' hb (h _)
theorem mul_q (h0 : 0 ≤ b) (h1 : b < 2 ^ 40) (h : ∀ q, Q (.int q s.toks) { s with toks := s.toks + 1 }) : wpAny (model prog w) A (binaryOp .Mult (.int a t) (.int b u)) Q E s :=
  PyProof.Rows.mul_int (h _) (IntMulOk.of_right (bits_small h0 h1))
end
example : True := by
  k_with "@binaryOp Mult int int" => (k_extra "my mult")
  trivial
example : True := by
  k_with "@binaryOp Mod int int" => (k_extra "my mod")
  trivial
set_option maxHeartbeats 1500000 in
abbrev DrawP (m : Int) (c : Addr) (p : Int) (g : Obj → Led) (r : Value) (n : Led) : Prop := ∃ q t tp' kk', r = .int q t ∧ 0 ≤ q ∧ q < m ∧ n = g (deckO c (p + 1) tp' kk')
def KDraw (m : Int) (c : Addr) (p : Int) (g : Obj → Led) (P : Value → Led → Prop) : Prop := ∀ q t tp kk, 0 ≤ q → q < m → P (.int q t) (g (deckO c (p + 1) tp kk))
theorem K_draw {m : Int} {c : Addr} {p : Int} {g : Obj → Led} : ∀ P, KDraw m c p g P → ∀ r n, DrawP m c p g r n → P r n := by
  rintro P h _ _ ⟨q, t, tp, kk, rfl, h1, h2, rfl⟩; exact h q t tp kk h1 h2
theorem draw_ok (w : World) (k c : Addr) (p m : Int) (tp tm : Tok) (kk kc : Nat) (cells : List Value) (ns : List Int) (rest : Led) (hc : (c, listOf cells.toArray kc) ∈ rest) (hk : ∀ q ∈ rest, q.1 ≠ k) (hi : IntsAre cells ns) (hn : ∀ n ∈ ns, 0 ≤ n ∧ n ≤ 1000003) (hl : 1 ≤ cells.length) (hb : cells.length ≤ 50) (hp0 : 0 ≤ p) (hp1 : p ≤ 100000) (hm : 0 < m) (hm1 : m ≤ 20) :
    Ret w 6 60 (.ref 447) [.ref k, .int m tm] ((k, deckO c p tp kk) :: rest) (DrawP m c p (fun o => (k, o) :: rest)) := by
  k_extra "my_enter"
  k_with "my mult" => (k_dflt (refine' mul_q ?k1 ?k2 ?_; (case k1 => omega); (case k2 => omega); k_whole); intro q9; (try dsimp only))
  k_with "my mod" => (first
    | ((with_reducible show wpAny _ _ (binaryOp _ _ (Value.int 4294967291 _)) _ _ _); (k_dflt (refine' mod_any ?k1 ?_; (case k1 => decide); k_whole); intro q9; (try dsimp only)))
    | ((with_reducible show wpAny _ _ (binaryOp _ _ (Value.int 2147483629 _)) _ _ _); (k_dflt (refine' mod_any ?k1 ?_; (case k1 => decide); k_whole); intro q9; (try dsimp only)))
    | (k_dflt (refine' mod_q ?k1 ?_; (case k1 => omega); k_whole); intro q9 hq91 hq92; (try dsimp only)))
  have hcl : cells.length ≤ 1000 := by omega
  by_cases hlt : p + 1 < cells.length
  · k_steps
    k_extra "my_ret"
    exact ⟨q9, _, _, _, rfl, hq91, hq92, rfl⟩
  · k_steps
    k_extra "my_ret"
    exact ⟨q9, _, _, _, rfl, hq91, hq92, rfl⟩
theorem Ret.perm {w : World} {D U : Nat} {f : Value} {args : List Value} {news news' : Led} {p : Value → Led → Prop} (R : Ret w D U f args news p) (h : ∀ x ∈ news, x ∈ news') : Ret w D U f args news' p :=
  fun mean mg mb dp un gd cn cs a ccd cl outer A₀ base h₀ L m s Q E B F X N T hk h1 h2 ret => R mean mg mb dp un gd cn cs a ccd cl outer A₀ base h₀ L m s Q E B F X (News.sub N h) T hk h1 h2 ret
/-- a draw, the deck standing anywhere in the ledger -/
theorem draw_upd (w : World) (k c : Addr) (p m : Int) (tp tm : Tok) (kk kc : Nat) (cells : List Value) (ns : List Int) (news : Led) (g : Obj → Led) (U : UpdF k (deckO c p tp kk) news g) (hc : (c, listOf cells.toArray kc) ∈ news) (hck : c ≠ k) (hi : IntsAre cells ns) (hn : ∀ n ∈ ns, 0 ≤ n ∧ n ≤ 1000003) (hl : 1 ≤ cells.length) (hb : cells.length ≤ 50) (hp0 : 0 ≤ p) (hp1 : p ≤ 100000) (hm : 0 < m) (hm1 : m ≤ 20) :
    Ret w 6 60 (.ref 447) [.ref k, .int m tm] news (DrawP m c p g) := by
  obtain ⟨pre, post, rfl, hg, h1, h2⟩ := U.split
  have hc' : (c, listOf cells.toArray kc) ∈ pre ++ post := by
    rcases List.mem_append.mp hc with h | h
    · exact List.mem_append_left _ h
    · rcases List.mem_cons.mp h with h | h
      · exact absurd (congrArg Prod.fst h) hck
      · exact List.mem_append_right _ h
  have hk' : ∀ q ∈ pre ++ post, q.1 ≠ k := fun q hq => (List.mem_append.mp hq).elim (h1 q) (h2 q)
  refine ((draw_ok w k c p m tp tm kk kc cells ns (pre ++ post) hc' hk' hi hn hl hb hp0 hp1 hm hm1).perm (news' := pre ++ (k, deckO c p tp kk) :: post) fun x hx => ?_).drop fun r n hr => ?_
  · rcases List.mem_cons.mp hx with rfl | hx
    · exact List.mem_append_right _ (.head _)
    · exact (List.mem_append.mp hx).elim (fun h => List.mem_append_left _ h) fun h => List.mem_append_right _ (.tail _ h)
  · obtain ⟨q, t, tp', kk', e1, e2, e3, rfl⟩ := hr
    refine ⟨g (deckO c (p + 1) tp' kk'), fun x hx => ?_, q, t, tp', kk', e1, e2, e3, rfl⟩
    rw [hg] at hx
    rcases List.mem_append.mp hx with h | h
    · exact .tail _ (List.mem_append_left _ h)
    · rcases List.mem_cons.mp h with h | h
      · rw [h]; exact .head _
      · exact .tail _ (List.mem_append_right _ h)
abbrev frsA (l : List Env) : List Addr := l.filterMap (·.frame)
/-- frames further out may have got new slots -/
def Reb (fs : List Addr) (g g' : Heap) : Prop := ∀ b ∈ fs, ∀ o, g.get? b = some o → ∃ sl, g'.get? b = some { o with slots := sl }
theorem Reb.refl {fs : List Addr} {g : Heap} : Reb fs g g := fun _ _ o e => ⟨o.slots, e⟩
theorem Reb.trans {fs : List Addr} {a b c : Heap} (x : Reb fs a b) (y : Reb fs b c) : Reb fs a c := fun d hdX o e =>
  let ⟨_, e1⟩ := x d hdX o e; let ⟨sl, e2⟩ := y d hdX _ e1; ⟨sl, e2⟩
section
variable {A₀ A : Around} {base h₀ g G h : Heap} {outer : List Env} {env : Env} {L : Addr} {m : Str → Option Value} {news : Led}
theorem frs_in (K : Below A₀ base outer h₀) {b : Addr} (hb : b ∈ frsA outer) : base.get? b = none ∧ ∃ o, h₀.get? b = some o ∧ ∀ vs, o.data ≠ .fields vs := K.frames.mem hb
/-- the ground laid anew: what stood at the start, and the frames as they are now -/
theorem rebase (K : Below A₀ base outer h₀) (F : Fr h₀ L G m) (hb : base.StaysIn h) (hL : ∀ o, (∀ vs, o.data ≠ .fields vs) → G.get? L = some o → ∃ sl, h.get? L = some { o with slots := sl })
    (hf : ∀ b ∈ frsA outer, ∀ o, (∀ vs, o.data ≠ .fields vs) → h₀.get? b = some o → ∃ sl, h.get? b = some { o with slots := sl }) :
    ∃ h₁, Reb (frsA outer) h₀ h₁ ∧ Fr h₁ L h m ∧ Below A₀ base outer h₁ ∧ ∀ b o, h₁.get? b = some o → (∃ o', base.get? b = some o') ∨ b ∈ frsA outer := by
  let l : List Addr := (List.range h₀.objs.size).filter fun b => (base.get? b).isNone && !(frsA outer).contains b
  have inl : ∀ b, b ∈ l → base.get? b = none ∧ b ∉ frsA outer := fun b hm => by
    have q := (List.mem_filter.mp hm).2
    rw [Bool.and_eq_true] at q
    refine ⟨by simpa using q.1, fun z => ?_⟩
    have := q.2
    rw [List.contains_iff_mem.mpr z] at this
    cases this
  have in1 : ∀ b o, (hideAll h₀ l).get? b = some o → h₀.get? b = some o := fun b o e => of_hideAll _ e
  have keepB : ∀ b o, base.get? b = some o → (hideAll h₀ l).get? b = some o := fun b o e => hideAll_get _ (K.stays b o e) fun z => by
    rw [(inl b z).1] at e; cases e
  have keepF : ∀ b ∈ frsA outer, ∀ o, h₀.get? b = some o → (hideAll h₀ l).get? b = some o := fun b hb o e => hideAll_get _ e fun z => (inl b z).2 hb
  have only : ∀ b o, (hideAll h₀ l).get? b = some o → (∃ o', base.get? b = some o') ∨ b ∈ frsA outer := fun b o e => by
    cases q : base.get? b with
    | some o' => exact .inl ⟨o', rfl⟩
    | none =>
      by_cases hm : b ∈ frsA outer
      · exact .inr hm
      · have : b ∈ l := List.mem_filter.mpr ⟨List.mem_range.mpr (Heap.lt_size (in1 b o e)), by
          rw [q]
          have : (frsA outer).contains b = false := by
            cases z : (frsA outer).contains b with
            | false => rfl
            | true => exact absurd (List.contains_iff_mem.mp z) hm
          rw [this]; rfl⟩
        rw [hideAll_none _ this] at e; cases e
  obtain ⟨T, S⟩ := kts_turn_at (h := h) (fs := frsA outer) (g := hideAll h₀ l)
    (fun b hb => by obtain ⟨_, o, ho, _⟩ := frs_in K hb; exact ⟨o, keepF b hb o ho⟩)
    (fun b o e nm => by
      rcases only b o e with ⟨o', h1⟩ | h1
      · have := keepB b o' h1
        rw [e] at this
        cases this
        exact hb b o h1
      · exact absurd h1 nm)
    (fun b o e hm => by
      obtain ⟨_, o', ho', hdX⟩ := frs_in K hm
      have e1 := in1 b o e
      have e2 : o' = o := Option.some.inj (ho'.symm.trans e1)
      rw [e2] at hdX
      exact hf b hm o hdX e1)
  refine ⟨_, fun b hb o e => T.frame b o (keepF b hb o e) hb, ⟨?_, S, ?_⟩, ⟨K.stack, fun b o e => T.other b o (keepB b o e) fun hm => ?_, ?_⟩, fun b o e => ?_⟩
  · obtain ⟨o, es, ep, ho, hdX, r⟩ := F.ns
    obtain ⟨sl, hs⟩ := hL o (fun vs q => by rw [hdX] at q; cases q) ho
    exact ⟨_, es, ep, hs, hdX, r⟩
  · rw [T.size, hideAll_size]; exact F.above
  · rw [(frs_in K hm).1] at e; cases e
  · refine (funFrames_hideAll K.frames fun env he a ha hf' => (inl a ha).2 (List.mem_filterMap.mpr ⟨env, he, hf'⟩)).of_keeps fun b o e _ => ?_
    obtain ⟨sl, hs⟩ := T.up e
    exact ⟨_, hs, rfl⟩
  · cases q : (hideAll h₀ l).get? b with
    | some o' => exact only b o' q
    | none => rw [T.none_ b q] at e; cases e
/-- a def of ours whose callees may catch is left -/
def LeaveT (A₀ A : Around) (base : Heap) (env : Env) (outer : List Env) (h₀ : Heap) (L : Addr) (m : Str → Option Value) (g : Heap) (R : Result → Shared → Prop) (v : Value) (s' : Shared) : Prop :=
  ∃ g₂ L' m' news', Reb (frsA (env :: outer)) g g₂ ∧ Below A base (env :: outer) g₂ ∧ Fr g₂ L' s'.heap m' ∧ News g₂ L' s'.heap news' ∧
    (∀ h₁, Reb (frsA outer) h₀ h₁ → Below A₀ base outer h₁ → Fr h₁ L s'.heap m → News h₁ L s'.heap news' → R (.ok (.ret v)) s')
theorem LeaveT.out {R : Result → Shared → Prop} {v : Value} {s' : Shared} (K : Below A₀ base outer h₀) (FG : Fr h₀ L g m) (BG : Below A base (env :: outer) g) (hf : env.frame = some L) (x : LeaveT A₀ A base env outer h₀ L m g R v s') : R (.ok (.ret v)) s' := by
  obtain ⟨g₂, L', m', news', hR, B₂, F', N', k⟩ := x
  have hin : ∀ b, b ∈ frsA outer → b ∈ frsA (env :: outer) := fun b hb => by
    obtain ⟨x, hx, e⟩ := List.mem_filterMap.mp hb
    exact List.mem_filterMap.mpr ⟨x, .tail _ hx, e⟩
  have hLin : L ∈ frsA (env :: outer) := List.mem_filterMap.mpr ⟨env, .head _, hf⟩
  obtain ⟨h₁, R₁, F₁, K₁, only⟩ := rebase (h := s'.heap) K FG (fun b o e => F'.keep b o (B₂.stays b o e))
    (fun o _ e => let ⟨sl, h1⟩ := hR L hLin o e; ⟨sl, F'.keep _ _ h1⟩)
    (fun b hb o _ e => let ⟨sl, h1⟩ := hR b (hin b hb) o (FG.keep b o e); ⟨sl, F'.keep _ _ h1⟩)
  refine k h₁ R₁ K₁ F₁ fun p hp => ?_
  obtain ⟨n1, n2, n3⟩ := N' p hp
  refine ⟨n1, fun e => ?_, ?_⟩
  · obtain ⟨_, o, ho, _⟩ := frs_in B₂ hLin
    rw [← e, n3] at ho; cases ho
  · cases q : h₁.get? p.1 with
    | none => rfl
    | some o =>
      rcases only _ _ q with ⟨o', h1⟩ | h1
      · rw [B₂.stays _ _ h1] at n3; cases n3
      · obtain ⟨_, o', ho', _⟩ := frs_in B₂ (hin _ h1)
        rw [n3] at ho'; cases ho'
end
section
variable {prog : Program} {w : World} {A₀ A : Around} {s : Shared} {hS : Heap} {gS : Array GenState} {dS : Drawn} {tS : Nat} {oS : OsState} {base h₀ : Heap} {outer : List Env} {L : Addr} {m mg mb : Str → Option Value} {mean : ExcName → Option Value} {p : Program} {loose : List Str} {env : Env} {news : Led} {K : Frag}
  {R : Result → Shared → Prop} {name qual : Str} {params : Arguments} {body : List Stmt} {scope : Scope} {dV kV doc pm cdv ct oc : Value} {an od : Option Addr} {osl : Array (Option Value)} {f : Addr} {args : Args} {binds : List (Str × Value)}
theorem code_defT {body' : List Stmt} (hb : body = body')
    (B : Below A₀ base outer h₀) (F : Fr h₀ L hS m) (X₀ : K.In h₀) (N : News h₀ L hS news) (T : Top p loose mean mg mb h₀) (hA : A.frames = some (env :: outer)) (hf : env.frame = some L) (hke : env.scope.kind = .function)
    (ho : K.lookup f = some ⟨oc, od, .func (fnOf name qual params body scope dV kV doc pm an cdv ct), osl⟩) (hcd : codeIn K cdv qual = true) (hroom : A.depth < recursionLimit)
    (hbind : BindsTo ⟨hS, gS, dS, tS, oS⟩ (fnOf name qual params body scope dV kV doc pm an cdv ct) args binds) (hloc : ∀ y ∈ binds, scope.names.lookup y.1 = some .local)
    (h : ∀ g L' h₁ tk, Fr h₀ L g m → Fr g L' h₁ (fun y => binds.reverse.lookup y) → News g L' h₁ news → Below A base (env :: outer) g → K.In g → Top p loose mean mg mb g →
      wpAny (model prog w) (A.deeper (envOf qual scope L' f cdv)) (execs body' (envOf qual scope L' f cdv))
        (fun fl s' => LeaveT A₀ A base env outer h₀ L m g R (match fl with | .ret v => v | _ => .none) s')
        (fun e s' => wpAny (model prog w) (A.deeper (envOf qual scope L' f cdv)) (leaving (envOf qual scope L' f cdv) e) (fun _ s'' => R (.error e) s'') (fun e' s'' => R (.error e') s'') s')
        ⟨h₁, gS, dS, tk, oS⟩)
    (hco : scope.isCoroutine = false) (hgen : scope.isGenerator = false) (hk : scope.kind = .function)
    (hcell : ∀ x ∈ scope.names, x.2 ≠ .cell) : codeAny (model prog w) A (.call (.ref f) args) R ⟨hS, gS, dS, tS, oS⟩ := by
  subst hb
  obtain ⟨FG, BG, st, lv⟩ := groundX (s := ⟨hS, gS, dS, tS, oS⟩) (R := R) B F N hA hf hke
  refine codeAny_call_def (fd := fnOf name qual params body scope dV kV doc pm an cdv ct) (body := body) (binds := binds) hroom ((X₀.keeps F.keep) _ _ ho) rfl (T.nolimit.keeps F.keep) (codeRec_of (X₀.keeps F.keep) hcd) rfl hbind hcell hloc (fun h₁ hns hk₁ => ?_) hco hgen hk
  exact wpAny_mono (h _ hS.objs.size h₁ _ FG ⟨hns, fun b o e => hk₁ b o (of_hideAll _ e), Nat.le_of_eq (hideAll_size _ _)⟩
    (fun p hp => ⟨hk₁ _ _ (N p hp).1, Nat.ne_of_lt (Heap.lt_size (N p hp).1), hideAll_none _ (List.mem_map_of_mem hp)⟩) BG (X₀.keeps st) (T.keeps st)) (fun fl s' hl => LeaveT.out B FG BG hf hl) fun _ _ y => y
theorem code_defCT {body' : List Stmt} (hb : body = body')
    (B : Below A₀ base outer h₀) (F : Fr h₀ L hS m) (X₀ : K.In h₀) (N : News h₀ L hS news) (T : Top p loose mean mg mb h₀) (hA : A.frames = some (env :: outer)) (hf : env.frame = some L) (hke : env.scope.kind = .function)
    (ho : K.lookup f = some ⟨oc, od, .func (fnOf name qual params body scope dV kV doc pm an cdv ct), osl⟩) (hcd : codeIn K cdv qual = true) (hroom : A.depth < recursionLimit)
    (hbind : BindsTo ⟨hS, gS, dS, tS, oS⟩ (fnOf name qual params body scope dV kV doc pm an cdv ct) args binds) (hkind : (binds.all fun y => scope.names.lookup y.1 == some .local || scope.names.lookup y.1 == some .cell) = true)
    (hnd : ((cellsFrom 0 scope.names []).map (·.1)).Nodup)
    (h : ∀ g L' h₁ tk cells, Fr h₀ L g m → Fr g L' h₁ (bindL (envOfC qual scope L' f cdv).kindOf binds fun _ => none) → News g L' h₁ (cells ++ news) →
      CellsAre (bindC (envOfC qual scope L' f cdv).kindOf binds fun _ => none) (cellsFrom (L' + 1) scope.names []) cells → Below A base (env :: outer) g → K.In g → Top p loose mean mg mb g → (∀ p ∈ news, p.1 < L') →
      wpAny (model prog w) (A.deeper (envOfC qual scope L' f cdv)) (execs body' (envOfC qual scope L' f cdv))
        (fun fl s' => LeaveT A₀ A base env outer h₀ L m g R (match fl with | .ret v => v | _ => .none) s')
        (fun e s' => wpAny (model prog w) (A.deeper (envOfC qual scope L' f cdv)) (leaving (envOfC qual scope L' f cdv) e) (fun _ s'' => R (.error e) s'') (fun e' s'' => R (.error e') s'') s')
        ⟨h₁, gS, dS, tk, oS⟩)
    (hco : scope.isCoroutine = false) (hgen : scope.isGenerator = false) (hk : scope.kind = .function) : codeAny (model prog w) A (.call (.ref f) args) R ⟨hS, gS, dS, tS, oS⟩ := by
  subst hb
  obtain ⟨FG, BG, st, lv⟩ := groundX (s := ⟨hS, gS, dS, tS, oS⟩) (R := R) B F N hA hf hke
  refine codeAny_call_function hroom ((X₀.keeps F.keep) _ _ ho) rfl hco hgen rfl (codeRec_of (X₀.keeps F.keep) hcd) (hbind _ _ _ _ ?_)
  refine wpAny_newFunctionEnv_cells hk (kindsX hkind _) fun env' he s' x => ?_
  subst he
  refine ⟨(T.nolimit.keeps F.keep).keeps x.toInCall.keep, codeAny_func ?_⟩
  obtain ⟨h₁, tk, rfl, _⟩ := x.done
  have hk₁ := x.toInCall.keep
  obtain ⟨cells, NC, Y⟩ := Cl.news (h₀ := hS) (Nat.le_refl _) fun n c hm => ⟨x.cell n c (lookup_of_mem_nodup (cellsFrom_names scope.names 0 (hS.objs.size + 1) [] [] rfl ▸ hnd) hm), x.above n c hm⟩
  refine wpAny_mono (h _ hS.objs.size h₁ tk cells FG ⟨x.toInCall.ns, fun b o e => hk₁ b o (of_hideAll _ e), Nat.le_of_eq (hideAll_size _ _)⟩ (fun p hp => ?_) Y BG (X₀.keeps st) (T.keeps st) (fun p hp => Heap.lt_size (N p hp).1)) (fun fl s' hl => LeaveT.out B FG BG hf hl) fun _ _ y => y
  rcases List.mem_append.mp hp with hp | hp
  · refine ⟨(NC p hp).1, (NC p hp).2.1, ?_⟩
    cases q : (hideAll hS (news.map (·.1))).get? p.1 with
    | none => rfl
    | some o => have := of_hideAll _ q; rw [(NC p hp).2.2] at this; cases this
  · exact ⟨hk₁ _ _ (N p hp).1, Nat.ne_of_lt (Heap.lt_size (N p hp).1), hideAll_none _ (List.mem_map_of_mem hp)⟩
end
/-- a call that ends with a value, within which an exception may have been caught: the ground is laid anew -/
def RetT (w : World) (D U : Nat) (f : Value) (args : List Value) (news : Led) (post : Value → Led → Prop) : Prop :=
  ∀ (mean : ExcName → Option Value) (mg mb : Str → Option Value) (dp un : Nat) (gd : Option (List Code)) (cn : Str) (cs : Scope) (a : Addr) (ccd : Value) (cl : List (Str × Addr)) (outer : List Env) (A₀ : Around) (base h₀ : Heap) (L : Addr) (m : Str → Option Value) (s : Shared) (Q E : Value → Shared → Prop),
    Below A₀ base outer h₀ → Fr h₀ L s.heap m → (hd.heap_39 w.params).In base → News h₀ L s.heap news → Top VW LO mean mg mb base → cs.kind = .function → dp + D < recursionLimit → un + U < cLine →
    (∀ r h' tk' news' h₁, Reb (frsA outer) h₀ h₁ → Below A₀ base outer h₁ → Fr h₁ L h' m → News h₁ L h' news' → post r news' → Q r { s with heap := h', toks := tk' }) →
    wpAny (model PR w) (ktrTop dp un gd cn cs L a ccd cl outer) (call f args) Q E s
theorem RetT.intro {w : World} {D U : Nat} {f : Value} {args : List Value} {news : Led} {post : Value → Led → Prop}
    (k : ∀ (mean : ExcName → Option Value) (mg mb : Str → Option Value) (dp un : Nat) (gd : Option (List Code)) (cn : Str) (cs : Scope) (a : Addr) (ccd : Value) (cl : List (Str × Addr)) (outer : List Env) (A₀ : Around) (base h₀ : Heap) (L : Addr) (m : Str → Option Value) (hS : Heap) (gS : Array GenState) (dS : Drawn) (tS : Nat) (oS : OsState) (Q E : Value → Shared → Prop),
      Below A₀ base outer h₀ → Fr h₀ L hS m → (hd.heap_39 w.params).In base → News h₀ L hS news → Top VW LO mean mg mb base → cs.kind = .function → dp + D < recursionLimit → un + U < cLine →
      (∀ r h' tk' news' h₁, Reb (frsA outer) h₀ h₁ → Below A₀ base outer h₁ → Fr h₁ L h' m → News h₁ L h' news' → post r news' → Q r ⟨h', gS, dS, tk', oS⟩) →
      wpAny (model PR w) (ktrTop dp un gd cn cs L a ccd cl outer) (call f args) Q E ⟨hS, gS, dS, tS, oS⟩) : RetT w D U f args news post :=
  fun mean mg mb dp un gd cn cs a ccd cl outer A₀ base h₀ L m s => k mean mg mb dp un gd cn cs a ccd cl outer A₀ base h₀ L m s.heap s.gens s.drawn s.toks s.os
theorem RetT.use {w : World} {D U : Nat} {f : Value} {args : List Value} {news : Led} {post : Value → Led → Prop} {K : (Value → Led → Prop) → Prop} (R : RetT w D U f args news post) (hK : ∀ P, K P → ∀ r n, post r n → P r n)
    {mean : ExcName → Option Value} {mg mb : Str → Option Value} {dp un : Nat} {gd : Option (List Code)} {cn : Str} {cs : Scope} {a : Addr} {ccd : Value} {cl : List (Str × Addr)} {outer : List Env} {A₀ : Around} {base h₀ : Heap} {L : Addr} {m : Str → Option Value} {hS : Heap} {gS : Array GenState} {dS : Drawn} {tS : Nat} {oS : OsState} {Q E : Value → Shared → Prop}
    (B : Below A₀ base outer h₀) (F : Fr h₀ L hS m) (XB : (hd.heap_39 w.params).In base) (N : News h₀ L hS news) (TB : Top VW LO mean mg mb base) (hk : cs.kind = .function) (hdX : dp + D < recursionLimit) (hu : un + U < cLine)
    (k : K fun r n => ∀ h' tk' h₁, Reb (frsA outer) h₀ h₁ → Below A₀ base outer h₁ → Fr h₁ L h' m → News h₁ L h' n → Q r ⟨h', gS, dS, tk', oS⟩) :
    wpAny (model PR w) (ktrTop dp un gd cn cs L a ccd cl outer) (call f args) Q E ⟨hS, gS, dS, tS, oS⟩ :=
  R _ _ _ _ _ _ _ _ _ _ _ _ _ _ _ _ _ _ _ _ B F XB N TB hk hdX hu fun r h' tk' n h₁ b B F N p => hK _ k r n p h' tk' h₁ b B F N
theorem Ret.toT {w : World} {D U : Nat} {f : Value} {args : List Value} {news : Led} {p : Value → Led → Prop} (R : Ret w D U f args news p) : RetT w D U f args news p :=
  fun mean mg mb dp un gd cn cs a ccd cl outer A₀ base h₀ L m s Q E B F X N T hk h1 h2 ret => R mean mg mb dp un gd cn cs a ccd cl outer A₀ base h₀ L m s Q E B F X N T hk h1 h2 fun r h' tk' n' F' N' p' => ret r h' tk' n' h₀ .refl B F' N' p'
/-- an exception of the project's own, held by a handler -/
def HeldD (e d : Addr) (od : Obj) (news n' : Led) : Prop := ∃ oe vs, n' = (e, oe) :: (d, od) :: news ∧ oe.cls = .ref 38 ∧ oe.dict = some d ∧ oe.data = .fields vs
section
variable {A₀ A : Around} {base B g G h : Heap} {outer : List Env} {env : Env} {L e d : Addr} {od : Obj} {m : Str → Option Value} {news : Led}
theorem regroundD (K : Below A base outer g) (F : Fr g L G m) (hf : env.frame = some L) (hB : base.StaysIn B) (hl : ∀ q ∈ (d, od) :: news, B.get? q.1 = some q.2 ∧ base.get? q.1 = none) (hfl : FlyD B (env :: outer) e d .none h) (hsm : G.UpToSlots h) :
    ∃ g₁ n', Reb (frsA outer) g g₁ ∧ Below A base outer g₁ ∧ Fr g₁ L h m ∧ News g₁ L h n' ∧ HeldD e d od news n' := by
  obtain ⟨hkb, hen, hff, oe, vs, T, oT, ts, he, ⟨hcls, hdd⟩, hdX, h1, hnT, hTe, hT, hdT, h3⟩ := hfl
  obtain ⟨g₁, R₁, F₁, K₁, only⟩ := rebase (h := h) K F (fun b o q => hkb b o (hB b o q)) (fun o hdX q => hsm _ _ q hdX) (fun b _ o hdX q => hsm _ _ (F.keep b o q) hdX)
  have hLB : B.get? L = none ∧ ∃ o, h.get? L = some o ∧ ∀ vs, o.data ≠ .fields vs := hff.mem (List.mem_filterMap.mpr ⟨env, .head _, hf⟩)
  have hoB : ∀ b ∈ frsA outer, B.get? b = none ∧ ∃ o, h.get? b = some o ∧ ∀ vs, o.data ≠ .fields vs := fun b hb => by
    obtain ⟨x, hx, q⟩ := List.mem_filterMap.mp hb
    exact hff.mem (List.mem_filterMap.mpr ⟨x, .tail _ hx, q⟩)
  have isn : ∀ a, base.get? a = none → a ∉ frsA outer → g₁.get? a = none := fun a h1 h2 => by
    cases q : g₁.get? a with
    | none => rfl
    | some o =>
      rcases only _ _ q with ⟨o', z⟩ | z
      · rw [h1] at z; cases z
      · exact absurd z h2
  refine ⟨g₁, _, R₁, K₁, F₁, fun p hp => ?_, ⟨oe, vs, rfl, hcls, hdd, hdX⟩⟩
  rcases List.mem_cons.mp hp with rfl | hp
  · have hne : ∀ b o, h.get? b = some o → (∀ vs, o.data ≠ .fields vs) → e ≠ b := fun b o q1 q2 q => by
      subst q; rw [he] at q1; cases q1; exact q2 _ hdX
    refine ⟨he, ?_, isn e ?_ fun hm => ?_⟩
    · obtain ⟨_, o, q1, q2⟩ := hLB; exact hne _ _ q1 q2
    · cases q : base.get? e with
      | none => rfl
      | some o => rw [hB _ _ q] at hen; cases hen
    · obtain ⟨_, o, q1, q2⟩ := hoB e hm; exact hne _ _ q1 q2 rfl
  · obtain ⟨q1, q2⟩ := hl p hp
    refine ⟨hkb _ _ q1, fun q => ?_, isn _ q2 fun hm => ?_⟩
    · rw [q, hLB.1] at q1; cases q1
    · rw [(hoB _ hm).1] at q1; cases q1
end
theorem sig_ga (P : Params) : findIn (hd.heap_39 P) (.ref 38) "__getattribute__" = some (some (.builtin "BaseException.__getattribute__")) := by kernel_rfl
theorem sig_no_hook (P : Params) : findIn (hd.heap_39 P) (.ref 38) "__getattr__" = some none := by kernel_rfl
section
variable {w : World} {A : Around} {E : Value → Shared → Prop} {s' : Shared} {base g G : Heap} {outer : List Env} {cn n : Str} {cs : Scope} {L a e d : Addr} {ccd : Value} {cl : List (Str × Addr)} {od : Obj} {m mg mb : Str → Option Value} {mean : ExcName → Option Value} {news : Led}
  {b₀ : Stmt} {suite : List Stmt} {pos np : Pos} {rest : List ExceptHandler} {Q : Flow → Shared → Prop}
theorem catch_sig (K : Below A base outer g) (F : Fr g L G m) (XB : (hd.heap_39 w.params).In base) (TB : Top VW LO mean mg mb base) (R : RaisedD base (envX cn cs L a ccd cl :: outer) e d od news s'.heap) (hsm : G.UpToSlots s'.heap)
    (hk : cs.kind = .function) (hx : cs.names.lookup (Str.ofString "LispSignal") = some .globalImplicit) (hn : cs.names.lookup n = some .local)
    (k : ∀ h' g₁ n' tk, Reb (frsA outer) g g₁ → Below A base outer g₁ → Fr g₁ L h' (fun y => if y = n then some (.ref e) else m y) → News g₁ L h' n' → HeldD e d od news n' → (hd.heap_39 w.params).In g₁ → Top VW LO mean mg mb g₁ →
      wpAny (model PR w) ((A.deeper (envX cn cs L a ccd cl)).mark (some (.ref e))) (execs (b₀ :: suite) (envX cn cs L a ccd cl))
        (fun f s₄ => wpAny (model PR w) (A.deeper (envX cn cs L a ccd cl)) (do bindName (envX cn cs L a ccd cl) n .none; unbindBehindTheSuite (envX cn cs L a ccd cl) n pos) (fun _ s₅ => Q f s₅) E s₄)
        (AsSuiteRaised (model PR w) ((A.deeper (envX cn cs L a ccd cl)).mark (some (.ref e))) (envX cn cs L a ccd cl) n pos (notedBy (model PR w) ((A.deeper (envX cn cs L a ccd cl)).mark (some (.ref e))) (envX cn cs L a ccd cl) (cameBackBy (model PR w) (A.deeper (envX cn cs L a ccd cl)) (envX cn cs L a ccd cl) E)))
        { s' with heap := h', toks := tk }) :
    wpAny (model PR w) (A.deeper (envX cn cs L a ccd cl)) (noteFrame (.ref e) (envX cn cs L a ccd cl)) (fun _ s₂ => wpAny (model PR w) (A.deeper (envX cn cs L a ccd cl)) (setFlight (.ref e) none)
      (fun _ s₃ => wpAny (model PR w) (A.deeper (envX cn cs L a ccd cl)) (handleBy (.ref e) (envX cn cs L a ccd cl) (.ExceptHandler (some (.Name "LispSignal" np)) (some n) (b₀ :: suite) pos :: rest)) Q E s₃) E s₂) E s' := by
  obtain ⟨B, hB, hl, hfl⟩ := R
  obtain ⟨hh, gg, dd, tt, os⟩ := s'
  refine noteD_next (Around.frames_deeper K.stack) rfl hfl fun h₁ x1 x2 => ?_
  refine unflightD x1 fun h₂ y1 y2 => ?_
  obtain ⟨g₂, n₂, _, K₂, F₂, N₂, H₂⟩ := regroundD K F rfl hB hl y1 (hsm.trans (x2.trans y2))
  obtain ⟨oe, vs, rfl, hc, _⟩ := H₂
  have X₂ : (hd.heap_39 w.params).In g₂ := XB.keeps K₂.stays
  refine wpAny_handleBy_cons (codeAny_handlers_test ?_) (by intro q; cases q)
  refine nmG F₂ X₂ (TB.keeps K₂.stays) hk hx rfl (G_LispSignal _) ?_
  obtain ⟨nm, q, bs, sn, sub, ab, col, dd', k0, k1, k2, k3, k5, hK⟩ := sigC w.params
  refine wpAny_excMatches_sub_self ((X₂.keeps F₂.keep) _ _ hK) (N₂ _ (.head _)).1 hc (by decide) ?_
  refine codeAny_handlers_suite_as ?_
  refine unflightD y1 fun h₃ z1 z2 => ?_
  obtain ⟨g₃, n₃, R₃, K₃, F₃, N₃, H₃⟩ := regroundD K F rfl hB hl z1 (hsm.trans (x2.trans (y2.trans z2)))
  refine storeX_L F₃ N₃ (fun h₄ F₄ N₄ => ?_) hk hn
  exact k h₄ g₃ n₃ _ R₃ K₃ F₄ N₄ H₃ (XB.keeps K₃.stays) (TB.keeps K₃.stays)
theorem sig_get {oe : Obj} {vs : Array Value} {sym : Str} {ex : Bool} {QV : Value → Shared → Prop} (F : Fr g L s'.heap m) (X : (hd.heap_39 w.params).In g) (N : News g L s'.heap news) (he : (e, oe) ∈ news) (hdm : (d, od) ∈ news) (hc : oe.cls = .ref 38) (hdi : oe.dict = some d) (hdt : oe.data = .fields vs) (S : SigD od sym)
    (h : ∀ tk, QV (.str sym tk) { s' with toks := s'.toks + 1 }) : wpAny (model PR w) A (getAttr (.ref e) "symbol" ex) QV E s' := by
  obtain ⟨mA, tk, D, hm⟩ := S
  obtain ⟨es, ep, hes, _, _, hfind⟩ := D
  have I : InstAt s'.heap e oe 38 (some od) := ⟨(N _ he).1, hc, by unfold notCls; rw [hdt], by rw [hdi]; exact (N _ hdm).1⟩
  have hlook : lookIn "symbol" od = some (some (.str sym tk)) := by
    have q := (hfind "symbol").trans hm
    unfold nsFind findBy at q
    unfold lookIn
    rw [hes]
    try dsimp only
    rw [Array.find?_toList]
    cases z : es.find? (fun x => x.key.isStr "symbol") with
    | none => rw [z] at q; cases q
    | some en =>
      rw [z] at q
      have q' : en.val = .str sym tk := Option.some.inj q
      try dsimp only
      rw [q']
  obtain ⟨cd, hcd, hmr, hhd⟩ := sig_mro w.params
  have hf : findObj (hd.heap_39 w.params) 38 (some od) "symbol" = some (.value (.str sym tk)) := by
    unfold findObj
    rw [hcd, sig_no_symbol]
    simp only [Option.bind_some]
    unfold PySem.W.ownOf
    rw [hhd]
    simp only [if_true, hlook, Option.bind_some]
  have X' := X.keeps F.keep
  obtain ⟨hh, gg, dr, t, os⟩ := s'
  dsimp only at X' F N h I
  have FB := PySem.F.attrBase_Exception
  have L0 := I.type (M := model PR w)
  have L1 := looks_findIn (M := model PR w) X' (sig_ga w.params)
  have L2 := looks_findIn (M := model PR w) X' (sig_no_hook w.params)
  have L3 := looks_find (M := model PR w) X' I hf
  have LB := looks_mroIn (M := model PR w) X' (sig_base w.params)
  have sub : Looks (model PR w) hh (isInstance (.ref e) (.type "BaseException")) true := L0.andThen LB
  have hx2 : (Value.builtin "BaseException.__getattribute__" == Value.builtin "object.__getattribute__") = false := by decide +kernel
  have hk : builtinKind "BaseException.__getattribute__" = some .slot := by decide +kernel
  have hsplit : splitId "BaseException.__getattribute__" = some ("BaseException", "__getattribute__") := by decide +kernel
  unfold getAttr getAttrBy
  refine wpAny_bind (wpAny_mkText (wpAny_holding (wpAny_bind (L0.at (wpAny_bind (L1.at ?_))))))
  try dsimp only
  rw [hx2, Bool.and_false, if_neg (by decide)]
  unfold getAttrByItsOwn hookBefore
  rw [if_pos (show onTheHeap (.ref 38) = true from rfl)]
  refine wpAny_bind (L2.at (wpAny_bind (wpAny_attempt (wpAny_holding ?_))))
  unfold callGetattribute
  rw [show (ex && onTheHeap (Value.builtin "BaseException.__getattribute__")) = false from by cases ex <;> rfl, if_neg (by decide)]
  unfold boundAndCalled
  rw [FB.ga.bind (.ref e)]
  refine wpAny_bind (wpAny_pure ?_)
  refine wpAny_call (codeAny_call_builtin FB.ga.plain PySem.F.entry_bexc_ga (@check_slot (model PR w) _ _ _ "BaseException.__getattribute__" "BaseException" "__getattribute__" (.ref e) [.str "symbol" t] [] _ hk hsplit sub (PySem.F.args_bexc_ga (.ref e) (.str "symbol" t)) ?_))
  refine wpAny_bind (wpAny_pure (wpAny_bind (wpAny_pure (wpAny_bind (L0.at (wpAny_bind (L3.at ?_)))))))
  refine wpAny_pure ?_
  try dsimp only
  exact wpAny_pure (h tk)
end
theorem LeaveT.mk {A₀ A : Around} {base h₀ g g₂ : Heap} {outer : List Env} {env : Env} {L L' : Addr} {m m' : Str → Option Value} {news' : Led} {R : Result → Shared → Prop} {v : Value} {s' : Shared} (hR : Reb (frsA (env :: outer)) g g₂) (B₂ : Below A base (env :: outer) g₂) (F' : Fr g₂ L' s'.heap m') (N' : News g₂ L' s'.heap news')
    (k : ∀ h₁, Reb (frsA outer) h₀ h₁ → Below A₀ base outer h₁ → Fr h₁ L s'.heap m → News h₁ L s'.heap news' → R (.ok (.ret v)) s') : LeaveT A₀ A base env outer h₀ L m g R v s' := ⟨g₂, _, _, _, hR, B₂, F', N', k⟩
example : True := by
  k_with "my_enterT" => ((k_extra "my_intro"; refine wpAny_call ?_; k_dflt (k_extra "my_enterT2")))
  trivial
example : True := by
  k_with "my_enterT2" => ((refine' code_defT ?kb ?k1 ?k2 ?k3 ?k4 ?k5 ?kA ?kF ?kK ?k6 ?k7 ?k8 ?k9 ?kB ?_ ?c2 ?c3 ?c4 ?c5; (case kA => exact rfl); (case kF => exact rfl); (case kK => assumption); (case k1 => k_asm); (case k2 => k_asm); (case k3 => k_asm); (case k4 => k_asm); (case k5 => k_asm); (case k6 => k_is); (case k7 => k_is); (case k8 => ktr_room); (case k9 => first | exact bnd_of rfl | exact BindsTo.of_eq rfl | exact binds_K (by k_in) rfl (by k_is) rfl rfl rfl); (case kB => exact locs rfl); (case c2 => exact rfl); (case c3 => exact rfl); (case c4 => exact rfl); (case c5 => decide); (case kb => k_extra "my_norm"); k_whole; intro g' L' h' tS' FG' F' N' fB fX fT; have fR : Reb (frsA (envX cn cs L a ccd cl :: outer)) g' g' := Reb.refl; (try dsimp only); (try k_fold)))
  trivial
example : True := by
  k_with "@LeaveT" => (((refine LeaveT.mk fR fB (by k_asm) (by k_asm) ?_); intro hb8 hR8 hB8 hF8 hN8; (try dsimp only); (try (refine handed_on rfl ?_; try dsimp only))))
  trivial
example : True := by
  k_with "my_retT" => ((refine hret _ _ _ _ _ hR8 hB8 hF8 hN8 ?_))
  trivial
example : True := by
  k_with "@exec Try" => ((k_here; refine wpAny_Try_except ?_))
  trivial
example : True := by
  k_with "@exec Try cons cons nil nil" => ((k_here; refine wpAny_Try_except ?_))
  trivial
example : True := by
  k_with "@getAttr ref" => (k_extra "my get")
  trivial
example : True := by
  k_with "@callWith ref" => ((k_here; k_dflt (refine' callWith_K ?k1 ?k2 ?_; (case k2 => with_reducible assumption); (case k1 => k_asm); k_whole)))
  trivial
/-- what _law_told hands on -/
def Told (word : Str) (v : Value) (news : Led) (r : Value) (n' : Led) : Prop := ∃ o ko ts, r = .ref o ∧ n' = (o, listOf [.str word ts, v].toArray ko) :: news ∧ ∀ p ∈ news, p.1 ≠ o
def KTold (word : Str) (v : Value) (news : Led) (P : Value → Led → Prop) : Prop := ∀ o ko ts, (∀ p ∈ news, p.1 ≠ o) → P (.ref o) ((o, listOf [.str word ts, v].toArray ko) :: news)
theorem K_told {word : Str} {v : Value} {news : Led} : ∀ P, KTold word v news P → ∀ r n, Told word v news r n → P r n := by
  rintro P h _ _ ⟨o, ko, ts, rfl, rfl, h1⟩; exact h o ko ts h1
abbrev ToldS (sym : Str) (news : Led) (r : Value) (n : Led) : Prop := ∃ tk, Told "signal" (.str sym tk) news r n
def KToldS (sym : Str) (news : Led) (P : Value → Led → Prop) : Prop := ∀ tk o ko ts, (∀ p ∈ news, p.1 ≠ o) → P (.ref o) ((o, listOf [.str "signal" ts, .str sym tk].toArray ko) :: news)
theorem K_sig {sym : Str} {news : Led} : ∀ P, KToldS sym news P → ∀ r n, ToldS sym news r n → P r n := by
  rintro P h _ _ ⟨tk, o, ko, ts, rfl, rfl, h1⟩; exact h tk o ko ts h1
theorem law_told_ok (w : World) (f la : Addr) (news : Led) (D U : Nat) (post : Value → Led → Prop) (hkf : keepIn (hd.heap_39 w.params) (.ref f) = true) (R : Ret w D U (.ref f) [.none, .ref la] news post) (hD : D ≤ 40) (hU : U ≤ 400) :
    Ret w 45 450 (.ref 468) [.ref f, .ref la] news (fun r n' => ∃ v n2, post v n2 ∧ Told "told" v n2 r n') := by
  k_extra "my_enter"
  k_with "my code" => ((with_reducible show wpAny _ _ (call (Value.ref f) _) _ _ _); k_dflt (refine' Ret.use R K_any ?k1 ?k2 ?k3 ?k4 ?k5 ?kK ?kd ?ku ?_); k_extra "my_use"; intro r9 n9 p9 h9 tk9 F9 N9; (try dsimp only); (try k_fold))
  k_steps
  k_extra "my_ret"
  exact ⟨r9, n9, p9, _, _, _, rfl, rfl, ne_of_over (by assumption)⟩
theorem law_told_sig (w : World) (f la : Addr) (news : Led) (D U : Nat) (sym : Str) (hkf : keepIn (hd.heap_39 w.params) (.ref f) = true) (R : Rai w D U (.ref f) [.none, .ref la] news sym) (hD : D ≤ 40) (hU : U ≤ 400) :
    RetT w 45 450 (.ref 468) [.ref f, .ref la] news (ToldS sym news) := by
  k_extra "my_enterT"
  k_with "my code" => ((with_reducible show wpAny _ _ (call (Value.ref f) _) _ _ _); k_dflt (refine' Rai.use R ?k1 ?k2 ?k3 ?k4 ?k5 ?kK ?kd ?ku ?_); k_extra "my_use"; intro e8 d8 od8 g8 h9 tk9 F8 U8 R8 sg8; refine halt ?_)
  k_steps
  refine catch_sig (cl := []) fB F8 XB TB R8 U8 rfl rfl rfl ?_
  clear fB fX fT F8 U8 R8
  intro h9 g₁ n1 tk9 hR1 fB F1 N1 H1 fX fT
  replace fR := fR.trans hR1
  clear hR1
  obtain ⟨oe, vs, hn1, hc, hdi, hdt⟩ := H1
  subst n1
  try dsimp only
  k_with "my get" => ((with_reducible show wpAny _ _ (getAttr (Value.ref _) (Str.ofString "symbol") _) _ _ _); k_dflt (refine' sig_get ?k1 ?k2 ?k3 ?k4 ?k5 hc hdi hdt sg8 ?_; (case k1 => k_asm); (case k2 => k_asm); (case k3 => k_asm); (case k4 => k_mem); (case k5 => k_mem); k_whole); intro tk7; (try dsimp only))
  k_steps
  refine wpAny_nameGoes rfl F9.ns rfl fun h7 m7 hn7 hs7 => ?_
  refine LeaveT.mk fR fB (F9.set hn7 hs7) (N9.set hs7) ?_
  intro hb8 hR8 hB8 hF8 hN8
  try dsimp only
  try (refine handed_on rfl ?_; try dsimp only)
  refine hret _ _ _ ((l9, listOf [.str "signal" ?t1, .str sym ?t2].toArray ?k0) :: news) _ hR8 hB8 hF8 (News.sub hN8 ?s1) ⟨_, _, _, _, rfl, rfl, ?s2⟩
  case s1 =>
    intro p hp
    rcases List.mem_cons.mp hp with q | q
    · rw [q]; exact .head _
    · exact .tail _ (.tail _ (.tail _ q))
  case s2 => exact ne_of_over (Over.sub o9 fun p hp => .tail _ (.tail _ hp))
structure DeckOk (c k : Addr) (cells : List Value) : Prop where
  ne : c ≠ k
  nums : ∃ ns, IntsAre cells ns ∧ ∀ n ∈ ns, 0 ≤ n ∧ n ≤ 1000003
  pos : 1 ≤ cells.length
  few : cells.length ≤ 50
theorem draw_b (w : World) (k c : Addr) (p m : Int) (tp tm : Tok) (kk kc : Nat) (cells : List Value) (news : Led) (g : Obj → Led) (U : UpdF k (deckO c p tp kk) news g) (hc : (c, listOf cells.toArray kc) ∈ news) (D : DeckOk c k cells) (hp0 : 0 ≤ p) (hp1 : p ≤ 100000) (hm : 0 < m) (hm1 : m ≤ 20) :
    Ret w 6 60 (.ref 447) [.ref k, .int m tm] news (DrawP m c p g) :=
  let ⟨ns, h1, h2⟩ := D.nums
  draw_upd w k c p m tp tm kk kc cells ns news g U hc D.ne h1 h2 D.pos D.few hp0 hp1 hm hm1
example : True := by
  k_with "@call ref" => ((k_here; (with_reducible show wpAny _ _ (call (Value.ref 447) [Value.ref _, Value.int _ _]) _ _ _); k_dflt ((refine' Ret.use (draw_b _ _ _ _ _ _ _ _ _ _ _ _ ?p1 ?p2 ?p3 ?p4 ?p5 ?p6 ?p7) K_draw ?k1 ?k2 ?k3 ?k4 ?k5 ?kK ?kd ?ku ?_); k_extra "my_use"; (case p1 => k_updF); (case p2 => k_mem); (case p3 => with_reducible assumption); (case p4 => k_extra "my_int"); (case p5 => k_extra "my_int"); (case p6 => k_extra "my_int"); (case p7 => k_extra "my_int"); refine fun q8 t8 tp8 kk8 hq81 hq82 h9 tk9 F9 N9 => ?_; (try dsimp only at N9); (try dsimp only); (try k_fold))))
  trivial
/-- one of the three sorts -/
def Sort3 (so : String) : Prop := so = "list" ∨ so = "vector" ∨ so = "string"
theorem Sort3.ok {so : String} (h : Sort3 so) : PyData.strOk (Str.ofString so) = true := by
  rcases h with rfl | rfl | rfl <;> decide +kernel
theorem SeqIn.ref {w : World} {news : Led} {so : String} {v : Value} {vs : List Value} (h : SeqIn w news so v vs) : ∃ a, v = .ref a := by
  cases h with
  | list c => exact c.ref
  | vec => exact ⟨_, rfl⟩
  | txt => exact ⟨_, rfl⟩
def KRef (w : World) (so : String) (vs : List Value) (news : Led) (P : Value → Led → Prop) : Prop := ∀ v cs, SeqIn w cs so (.ref v) vs → Apart cs news → P (.ref v) (cs ++ news)
theorem K_ref {w : World} {so : String} {vs : List Value} {news : Led} : ∀ P, KRef w so vs news P → ∀ r n, NewSeq w so vs news r n → P r n := by
  rintro P h r _ ⟨cs, rfl, h1, h2⟩; obtain ⟨v, rfl⟩ := h1.ref; exact h v cs h1 h2
abbrev ToldNew (w : World) (so : String) (vs : List Value) (news : Led) (r : Value) (n : Led) : Prop := ∃ v n2, NewSeq w so vs news v n2 ∧ Told "told" v n2 r n
def KToldNew (w : World) (so : String) (vs : List Value) (news : Led) (P : Value → Led → Prop) : Prop :=
  ∀ v cs o ko ts, SeqIn w cs so (.ref v) vs → Apart cs news → (∀ p ∈ cs ++ news, p.1 ≠ o) → P (.ref o) ((o, listOf [.str "told" ts, .ref v].toArray ko) :: (cs ++ news))
theorem K_toldNew {w : World} {so : String} {vs : List Value} {news : Led} : ∀ P, KToldNew w so vs news P → ∀ r n, ToldNew w so vs news r n → P r n := by
  rintro P h _ _ ⟨v, n2, ⟨cs, rfl, h1, h2⟩, o, ko, ts, rfl, rfl, h3⟩; obtain ⟨v, rfl⟩ := h1.ref; exact h v cs o ko ts h1 h2 h3
theorem told_new {w : World} {f la : Addr} {D U : Nat} {so : String} {vs : List Value} {news : Led} (hkf : keepIn (hd.heap_39 w.params) (.ref f) = true) (R : Ret w D U (.ref f) [.none, .ref la] news (NewSeq w so vs news)) (hD : D ≤ 40) (hU : U ≤ 400) :
    Ret w 45 450 (.ref 468) [.ref f, .ref la] news (ToldNew w so vs news) := law_told_ok w f la _ D U _ hkf R hD hU
theorem new_ok (w : World) (so : String) (l : Addr) (k : Nat) (ts : Tok) (vs : List Value) (ns : List Int) (news : Led) (hso : Sort3 so) (hl : (l, listOf vs.toArray k) ∈ news) (hi : IntsAre vs ns) (hb : vs.length ≤ 90) :
    Ret w 14 140 (.ref 461) [.str (Str.ofString so) ts, .ref l] news (NewSeq w so vs news) := by
  rcases hso with rfl | rfl | rfl
  · exact new_list w l k ts vs ns news hl hi (by omega)
  · exact new_vec w l k ts vs news hl (by omega)
  · exact new_txt w l k ts vs news hl (by omega)
example : True := by
  k_with "@call ref" => ((k_here; (with_reducible show wpAny _ _ (call (Value.ref 461) [Value.str _ _, Value.ref _]) _ _ _); k_dflt ((refine' Ret.use (new_ok _ _ _ _ _ _ _ _ ?p1 ?p2 ?p3 ?p4) K_ref ?k1 ?k2 ?k3 ?k4 ?k5 ?kK ?kd ?ku ?_); k_extra "my_use"; (case p1 => with_reducible assumption); (case p2 => k_mem); (case p3 => with_reducible assumption); (case p4 => k_extra "my_bound"); refine fun v9 cs9 hS9 hA9 h9 tk9 F9 N9 => ?_;  (try dsimp only); (try k_fold))))
  trivial
example : True := by
  k_with "@call ref" => ((k_here; (with_reducible show wpAny _ _ (call (Value.ref 454) [_]) _ _ _); k_dflt ((refine' Ret.use (row_ok _ _ _ _ _ ?p1 ?p2) K_row ?k1 ?k2 ?k3 ?k4 ?k5 ?kK ?kd ?ku ?_); k_extra "my_use"; (case p1 => k_extra "my_seq"); (case p2 => k_extra "my_bound"); refine fun o9 li9 ko9 kl9 ts9 hno9 hnl9 h9 tk9 F9 N9 => ?_;  (try dsimp only); (try k_fold))))
  trivial
theorem dat_ints {news : Led} {vs : List Value} {ns : List Int} (h : IntsAre vs ns) : DatAll news vs (ns.map Dat.int) := by
  induction h with
  | nil => exact .nil
  | cons n t _ ih => exact .cons (.int n t) ih
theorem dok_int (n : Int) : kqdOk 7 (.int n) = true := rfl
theorem dok_ints : ∀ ns : List Int, kqdOk 7 (.list (ns.map Dat.int)) = true := fun ns => by
  simp only [kqdOk, List.all_eq_true]
  intro d hdX
  obtain ⟨n, _, rfl⟩ := List.mem_map.mp hdX
  rfl
theorem dok_row {so : String} (h : Sort3 so) (ns : List Int) : ∀ d ∈ [Dat.str (Str.ofString so), Dat.list (ns.map Dat.int)], kqdOk 8 d = true := by
  intro d hdX
  rcases List.mem_cons.mp hdX with rfl | hdX
  · exact h.ok
  · rw [List.mem_singleton.mp hdX]
    simp only [kqdOk, List.all_eq_true]
    intro d hdX
    obtain ⟨n, _, rfl⟩ := List.mem_map.mp hdX
    rfl
theorem dat_row {news : Led} {x : Str} {t : Tok} {li : Addr} {vs : List Value} {n : Nat} {ns : List Int} (hm : (li, listOf vs.toArray n) ∈ news) (hi : IntsAre vs ns) : DatAll news [.str x t, .ref li] [.str x, .list (ns.map Dat.int)] := .cons (.str x t) (.cons (.list hm (dat_ints hi)) .nil)
theorem dat_si {news : Led} {x : Str} {t u : Tok} {n : Int} : DatAll news [.str x t, .int n u] [.str x, .int n] := .cons (.str x t) (.cons (.int n u) .nil)
theorem dat_ss {news : Led} {x y : Str} {t u : Tok} : DatAll news [.str x t, .str y u] [.str x, .str y] := .cons (.str x t) (.cons (.str y u) .nil)
theorem dok_ss {x y : Str} (h1 : PyData.strOk x = true) (h2 : PyData.strOk y = true) : ∀ d ∈ [Dat.str x, Dat.str y], kqdOk 8 d = true := by
  intro d hdX
  rcases List.mem_cons.mp hdX with rfl | hdX
  · exact h1
  · rw [List.mem_singleton.mp hdX]; exact h2
theorem dok_si {x : Str} {n : Int} (h1 : PyData.strOk x = true) : ∀ d ∈ [Dat.str x, Dat.int n], kqdOk 8 d = true := by
  intro d hdX
  rcases List.mem_cons.mp hdX with rfl | hdX
  · exact h1
  · rw [List.mem_singleton.mp hdX]; rfl
section
variable {prog : Program} {w : World} {A : Around} {E : Value → Shared → Prop} {s : Shared} {h₀ : Heap} {L a b : Addr} {news : Led} {xs ys : List Value} {ka kb : Nat} {ds es : List Dat} {Q : Value → Shared → Prop}
open Classical in
theorem dat_eq (N : News h₀ L s.heap news) (ma : (a, listOf xs.toArray ka) ∈ news) (Da : DatAll news xs ds) (mb : (b, listOf ys.toArray kb) ∈ news) (Db : DatAll news ys ds) (ha : ∀ d ∈ ds, kqdOk 8 d = true) (hu : A.units + 64 < cLine) (h : Q (.bool true) s) :
    wpAny (model prog w) A (compareOp .Eq (.ref a) (.ref b)) Q E s :=
  kqd_eq N ma rfl rfl Da (fun _ h => h) mb rfl rfl Db (fun _ h => h) ha ha hu (by rw [decide_eq_true rfl]; exact h)
open Classical in
theorem dat_ne (N : News h₀ L s.heap news) (ma : (a, listOf xs.toArray ka) ∈ news) (Da : DatAll news xs ds) (mb : (b, listOf ys.toArray kb) ∈ news) (Db : DatAll news ys ds) (ha : ∀ d ∈ ds, kqdOk 8 d = true) (hu : A.units + 64 < cLine) (h : Q (.bool false) s) :
    wpAny (model prog w) A (compareOp .NotEq (.ref a) (.ref b)) Q E s :=
  kqd_ne N ma rfl rfl Da (fun _ h => h) mb rfl rfl Db (fun _ h => h) ha ha hu (by rw [decide_eq_true rfl]; exact h)
end
theorem seq_head {w : World} {n : Led} {so : String} {a : Addr} {vs : List Value} (h : SeqIn w n so (.ref a) vs) (hn : so ≠ "list" ∨ vs ≠ []) : ∃ o, (a, o) ∈ n ∧ o.cls ≠ .type "tuple" := by
  cases h with
  | list c =>
    cases c with
    | nil => rcases hn with h | h <;> exact absurd rfl h
    | cons hx _ _ => exact ⟨_, hx, by intro e; cases e⟩
  | vec a _ _ => exact ⟨_, a, by intro e; cases e⟩
  | txt a _ _ => exact ⟨_, a, by intro e; cases e⟩
example : True := by
  k_with "@subscriptTail Name Constant ref int" => ((k_here; (with_reducible show wpAny _ _ (subscriptTail _ _ (Value.ref _) (Value.int _ _)) _ _ _); k_dflt (refine' item_led ?k1 ?k2 ?k3 ?k4 ?k5 ?_ ?k6; (case k1 => k_asm); (case k2 => k_mem); (case k3 => k_extra "my_int"); (case k4 => k_extra "my_int"); (case k5 => first | with_reducible assumption | exact rfl); (case k6 => with_unfolding_all rfl); k_whole)))
  trivial
example : True := by
  k_with "my_dats" => (first | with_reducible exact dat_si | with_reducible exact dat_ss | (with_reducible refine' dat_row ?y1 ?y2; (case y1 => k_mem); (case y2 => with_reducible assumption)) | with_reducible exact DatAll.nil | (with_reducible refine' dat_ints ?y1; (case y1 => with_reducible assumption)))
  trivial
example : True := by
  k_with "my_dok" => (first | exact dok_row (by with_reducible assumption) _ | exact dok_ss (by decide +kernel) (by decide +kernel) | exact dok_si (by decide +kernel) | exact List.forall_mem_nil _ | kqd_ok)
  trivial
example : True := by
  k_with "my_room" => (first | exact units_c (by with_reducible assumption) (by decide) | ktr_units | ke_room)
  trivial
example : True := by
  k_with "@compareOp Eq ref ref" => ((k_here; (with_reducible show wpAny _ _ (compareOp CmpOp.Eq (Value.ref _) (Value.ref _)) _ _ _); k_dflt (refine' dat_eq ?k1 ?k2 ?k3 ?k4 ?k5 ?k6 ?k7 ?_; (case k1 => k_asm); (case k2 => k_mem); (case k4 => k_mem); (case k3 => k_extra "my_dats"); (case k5 => k_extra "my_dats"); (case k6 => k_extra "my_dok"); (case k7 => k_extra "my_room"); k_whole)))
  trivial
example : True := by
  k_with "@compareOp NotEq ref ref" => ((k_here; (with_reducible show wpAny _ _ (compareOp CmpOp.NotEq (Value.ref _) (Value.ref _)) _ _ _); k_dflt (refine' dat_ne ?k1 ?k2 ?k3 ?k4 ?k5 ?k6 ?k7 ?_; (case k1 => k_asm); (case k2 => k_mem); (case k4 => k_mem); (case k3 => k_extra "my_dats"); (case k5 => k_extra "my_dats"); (case k6 => k_extra "my_dok"); (case k7 => k_extra "my_room"); k_whole)))
  trivial
example : True := by
  k_with "@compareOp IsNot ref ref" => (k_extra "my isnot")
  trivial
set_option maxHeartbeats 1200000 in
theorem fresh_ok (w : World) (f : Addr) (so : String) (va dl : Addr) (ts : Tok) (kd : Nat) (vs vs' dvs : List Value) (ns ns' : List Int) (news : Led) (D U : Nat) (hkf : keepIn (hd.heap_39 w.params) (.ref f) = true) (hso : Sort3 so)
    (R : ∀ la ka n, (la, listOf [.ref va].toArray ka) ∈ n → SeqIn w n so (.ref va) vs → Ret w D U (.ref f) [.none, .ref la] n (NewSeq w so vs' n)) (hD : D ≤ 40) (hU : U ≤ 400)
    (hs : SeqIn w news so (.ref va) vs) (hi : IntsAre vs ns) (hi' : IntsAre vs' ns') (hlen : vs'.length = vs.length) (hb : vs.length ≤ 90) (hb' : vs'.length ≤ 90) (hdl : (dl, listOf dvs.toArray kd) ∈ news) (hdi : IntsAre dvs ns') :
    Ret w 60 600 (.ref 475) [.ref f, .ref va, .str (Str.ofString so) ts, .ref dl] news (ValP (.bool true) news) := by
  k_extra "my_enter"
  have hStopIsnot : StopIsnot := .mk
  k_with "my code" => ((with_reducible show wpAny _ _ (call (Value.ref 468) [Value.ref f, _]) _ _ _); k_dflt (refine' Ret.use (told_new hkf (R _ _ _ ?pm ?ps) hD hU) K_toldNew ?k1 ?k2 ?k3 ?k4 ?k5 ?kK ?kd ?ku ?_); k_extra "my_use"; (case pm => k_mem); (case ps => k_extra "my_seq"); refine fun v8 cs9 o9 ko9 ts9 hS9 hA9 hno9 h9 tk9 F9 N9 => ?_; (try dsimp only); (try k_fold))
  k_steps
  unfold Halt
  by_cases hc : so ≠ "list" ∨ vs ≠ []
  · have hc' : so ≠ "list" ∨ vs' ≠ [] := hc.imp id fun h e => h (List.eq_nil_of_length_eq_zero (by rw [← hlen, e]; rfl))
    obtain ⟨oa, ha, hca⟩ := seq_head hS9 hc'
    obtain ⟨ob, hb9, _⟩ := seq_head hs hc
    have hne : v8 ≠ va := hA9 _ ha _ (show (va, ob) ∈ _ by k_mem)
    rename News _ _ _ _ => lN
    refine kto_isnot (lN _ (show (v8, oa) ∈ _ by k_mem)).1 (lN _ (show (va, ob) ∈ _ by k_mem)).1 hne hca ?_
    try dsimp only
    k_steps
    refine hret _ _ _ news (by k_asm) (News.sub (by k_asm) (by intro p9 hp9; k_mem)) ⟨rfl, rfl⟩
  · obtain ⟨h1, h2⟩ := not_or.mp hc
    obtain rfl : so = "list" := Classical.not_not.mp h1
    obtain rfl : vs = [] := Classical.not_not.mp h2
    obtain rfl : vs' = [] := List.eq_nil_of_length_eq_zero hlen
    cases hi'
    cases hdi
    obtain ⟨e1, _⟩ := chain_nil (hS9.apart rfl) rfl
    obtain ⟨e2, _⟩ := chain_nil (hs.apart rfl) rfl
    cases e1
    cases e2
    refine isnot_ref_same ?_
    try dsimp only
    k_steps
    refine hret _ _ _ news (by k_asm) (News.sub (by k_asm) (by intro p9 hp9; k_mem)) ⟨rfl, rfl⟩
theorem keep_350 (P : Params) : keepIn (hd.heap_39 P) (.ref 350) = true := by kernel_rfl
theorem keep_357 (P : Params) : keepIn (hd.heap_39 P) (.ref 357) = true := by kernel_rfl
theorem keep_364 (P : Params) : keepIn (hd.heap_39 P) (.ref 364) = true := by kernel_rfl
theorem keep_371 (P : Params) : keepIn (hd.heap_39 P) (.ref 371) = true := by kernel_rfl
theorem keep_378 (P : Params) : keepIn (hd.heap_39 P) (.ref 378) = true := by kernel_rfl
theorem keep_385 (P : Params) : keepIn (hd.heap_39 P) (.ref 385) = true := by kernel_rfl
theorem keep_392 (P : Params) : keepIn (hd.heap_39 P) (.ref 392) = true := by kernel_rfl
theorem keep_399 (P : Params) : keepIn (hd.heap_39 P) (.ref 399) = true := by kernel_rfl
theorem keep_406 (P : Params) : keepIn (hd.heap_39 P) (.ref 406) = true := by kernel_rfl
theorem keep_413 (P : Params) : keepIn (hd.heap_39 P) (.ref 413) = true := by kernel_rfl
theorem keep_420 (P : Params) : keepIn (hd.heap_39 P) (.ref 420) = true := by kernel_rfl
theorem keep_425 (P : Params) : keepIn (hd.heap_39 P) (.ref 425) = true := by kernel_rfl
theorem keep_430 (P : Params) : keepIn (hd.heap_39 P) (.ref 430) = true := by kernel_rfl
theorem keep_435 (P : Params) : keepIn (hd.heap_39 P) (.ref 435) = true := by kernel_rfl
section
variable {w : World} {so : String} {v u : Value} {vs : List Value} {ns : List Int} {p k : Int} {tp tk : Tok} {la : Addr} {ka : Nat} {news cs rest : Led}
theorem elt_in (hla : (la, listOf [v, .int p tp].toArray ka) ∈ news) (hs : SeqIn w news so v vs) (hb : vs.length ≤ 1000) (h : 0 ≤ p ∧ p < vs.length) (hv : vs[p.toNat]? = some u) : Ret w 30 300 (.ref 357) [.none, .ref la] news (ValP u news) := by
  cases hs with
  | list c => exact elt_list_in w v u vs p tp la ka news hla c hb h.1 h.2 hv
  | vec a b c => exact elt_in_vec w _ _ _ _ _ p tp u vs la ka news hla a b c hb h.1 h.2 hv
  | txt a b c => exact elt_in_txt w _ _ _ _ _ _ p tp u vs la ka news hla a b c hb h.1 h.2 hv
theorem elt_out (hla : (la, listOf [v, .int p tp].toArray ka) ∈ news) (hs : SeqIn w news so v vs) (hb : vs.length ≤ 1000) (h : ¬ (0 ≤ p ∧ p < vs.length)) : Rai w 30 300 (.ref 357) [.none, .ref la] news "args-out-of-range" := by
  cases hs with
  | list c => exact elt_list_out w v vs p tp la ka news hla c hb h
  | vec a b c => exact elt_out_vec w _ _ _ _ _ p tp vs la ka news hla a b c hb h
  | txt a b c => exact elt_out_txt w _ _ _ _ _ _ p tp vs la ka news hla a b c hb h
theorem aref_in (hso : so ≠ "list") (hla : (la, listOf [v, .int p tp].toArray ka) ∈ news) (hs : SeqIn w news so v vs) (hb : vs.length ≤ 1000) (h : 0 ≤ p ∧ p < vs.length) (hv : vs[p.toNat]? = some u) : Ret w 20 200 (.ref 364) [.none, .ref la] news (ValP u news) := by
  cases hs with
  | list c => exact absurd rfl hso
  | vec a b c => exact aref_in_vec w _ _ _ _ _ p tp u vs la ka news hla a b c hb h.1 h.2 hv
  | txt a b c => exact aref_in_txt w _ _ _ _ _ _ p tp u vs la ka news hla a b c hb h.1 h.2 hv
theorem aref_out (hso : so ≠ "list") (hla : (la, listOf [v, .int p tp].toArray ka) ∈ news) (hs : SeqIn w news so v vs) (hb : vs.length ≤ 1000) (h : ¬ (0 ≤ p ∧ p < vs.length)) : Rai w 20 200 (.ref 364) [.none, .ref la] news "args-out-of-range" := by
  cases hs with
  | list c => exact absurd rfl hso
  | vec a b c => exact aref_out_vec w _ _ _ _ _ p tp vs la ka news hla a b c hb h
  | txt a b c => exact aref_out_txt w _ _ _ _ _ _ p tp vs la ka news hla a b c hb h
theorem aset_out (hso : so ≠ "list") (hla : (la, listOf [v, .int p tp, u].toArray ka) ∈ news) (hs : SeqIn w news so v vs) (hb : vs.length ≤ 1000) (h : ¬ (0 ≤ p ∧ p < vs.length)) : Rai w 20 200 (.ref 371) [.none, .ref la] news "args-out-of-range" := by
  cases hs with
  | list c => exact absurd rfl hso
  | vec a b c => exact aset_out_vec w _ _ _ _ _ p tp u vs la ka news hla a b c hb h
  | txt a b c => exact aset_out_txt w _ _ _ _ _ _ p tp u vs la ka news hla a b c hb h
theorem aset_neg (hla : (la, listOf [v, .int p tp, .int k tk].toArray ka) ∈ news) (hs : SeqIn w news "string" v vs) (hb : vs.length ≤ 1000) (h : 0 ≤ p ∧ p < vs.length) (hk : k < 0) : Rai w 20 200 (.ref 371) [.none, .ref la] news "wrong-type-argument" := by
  generalize hq : "string" = so at hs
  cases hs with
  | list => exact absurd hq (by decide)
  | vec => exact absurd hq (by decide)
  | txt a b c => exact aset_neg_txt w _ _ _ _ _ _ p tp k tk vs la ka news hla a b c hb h.1 h.2 hk
theorem aset_in (hso : so ≠ "list") (hla : (la, listOf [v, .int p tp, .int k tk].toArray ka) ∈ rest) (hs : SeqIn w cs so v vs) (ha : Apart cs rest) (hi : IntsAre vs ns) (hb : vs.length ≤ 1000) (h : 0 ≤ p ∧ p < vs.length) (hk : so = "string" → 0 ≤ k) (hk1 : k ≤ 1000) :
    Ret w 20 200 (.ref 371) [.none, .ref la] (cs ++ rest) (fun r n' => r = .int k tk ∧ Turned w so (vs.set p.toNat (.int k tk)) rest v n') := by
  cases hs with
  | list c => exact absurd rfl hso
  | vec a b c => exact aset_in_vec w _ _ _ _ _ p tp k tk vs ns la ka cs rest hla a b c ha hi hb h.1 h.2
  | txt a b c => exact aset_in_txt w _ _ _ _ _ _ p tp k tk vs ns la ka cs rest hla a b c ha hi hb h.1 h.2 (hk rfl) hk1
theorem aref_bad (hla : (la, listOf [v, .int p tp].toArray ka) ∈ news) (hs : SeqIn w news "list" v vs) : Rai w 20 200 (.ref 364) [.none, .ref la] news "wrong-type-argument" := aref_list w v vs p tp la ka news hla (hs.apart rfl)
theorem aset_bad (hla : (la, listOf [v, .int p tp, u].toArray ka) ∈ news) (hs : SeqIn w news "list" v vs) : Rai w 20 200 (.ref 371) [.none, .ref la] news "wrong-type-argument" := aset_list w v u vs p tp la ka news hla (hs.apart rfl)
theorem split_in {a b : Int} (_ : a < b) {n : Nat} : (0 ≤ a - 1 ∧ a - 1 < n) ∨ ¬ (0 ≤ a - 1 ∧ a - 1 < n) := Classical.em _
theorem item_at (hi : IntsAre vs ns) (h : 0 ≤ p ∧ p < vs.length) : ∃ n t, vs[p.toNat]? = some (.int n t) := by
  have hx := List.getElem?_eq_getElem (show p.toNat < vs.length by omega)
  obtain ⟨n, t, _, e⟩ := ints_at hi hx
  exact ⟨n, t, by rw [hx, e]⟩
theorem told_val {f : Addr} {D U : Nat} (hkf : keepIn (hd.heap_39 w.params) (.ref f) = true) (R : Ret w D U (.ref f) [.none, .ref la] news (ValP u news)) (hD : D ≤ 40) (hU : U ≤ 400) :
    Ret w 45 450 (.ref 468) [.ref f, .ref la] news (Told "told" u news) :=
  (law_told_ok w f la news D U _ hkf R hD hU).mono (Nat.le_refl _) (Nat.le_refl _) fun r n h => by
    obtain ⟨v, n2, ⟨rfl, rfl⟩, h⟩ := h
    exact h
theorem told_sig {f : Addr} {D U : Nat} {sym : Str} (hkf : keepIn (hd.heap_39 w.params) (.ref f) = true) (R : Rai w D U (.ref f) [.none, .ref la] news sym) (hD : D ≤ 40) (hU : U ≤ 400) :
    RetT w 45 450 (.ref 468) [.ref f, .ref la] news (ToldS sym news) := law_told_sig w f la news D U sym hkf R hD hU
end
theorem RetT.mono {w : World} {D U : Nat} {f : Value} {args : List Value} {news : Led} {p q : Value → Led → Prop} (R : RetT w D U f args news p) (h : ∀ r n, p r n → q r n) : RetT w D U f args news q :=
  fun mean mg mb dp un gd cn cs a ccd cl outer A₀ base h₀ L m s Q E B F X N T hk h1 h2 ret => R mean mg mb dp un gd cn cs a ccd cl outer A₀ base h₀ L m s Q E B F X N T hk h1 h2 fun r h' tk' n' h₁ b B' F' N' p' => ret r h' tk' n' h₁ b B' F' N' (h _ _ p')
section
variable {A B C : Led} {a b : Addr × Obj}
theorem sub_self : ∀ p ∈ A, p ∈ A := fun _ h => h
theorem sub_nil : ∀ p ∈ ([] : Led), p ∈ B := List.forall_mem_nil _
theorem sub_cons (h1 : a ∈ B) (h2 : ∀ p ∈ A, p ∈ B) : ∀ p ∈ a :: A, p ∈ B := List.forall_mem_cons.mpr ⟨h1, h2⟩
theorem sub_app (h1 : ∀ p ∈ A, p ∈ B) (h2 : ∀ p ∈ C, p ∈ B) : ∀ p ∈ A ++ C, p ∈ B := fun p h => (List.mem_append.mp h).elim (h1 p) (h2 p)
theorem sub_tail (h : ∀ p ∈ A, p ∈ B) : ∀ p ∈ A, p ∈ b :: B := fun p q => .tail _ (h p q)
theorem sub_l (h : ∀ p ∈ A, p ∈ B) : ∀ p ∈ A, p ∈ B ++ C := fun p q => List.mem_append_left _ (h p q)
theorem sub_r (h : ∀ p ∈ A, p ∈ C) : ∀ p ∈ A, p ∈ B ++ C := fun p q => List.mem_append_right _ (h p q)
end
/-- a list of plain data -/
def Flat (xs : List Value) (ds : List Dat) : Prop := ∀ l : Led, DatAll l xs ds
theorem Flat.si {x : Str} {t u : Tok} {n : Int} : Flat [.str x t, .int n u] [.str x, .int n] := fun _ => dat_si
theorem Flat.ss {x y : Str} {t u : Tok} : Flat [.str x t, .str y u] [.str x, .str y] := fun _ => dat_ss
theorem Flat.at {xs : List Value} {ds : List Dat} (h : Flat xs ds) {l : Led} : DatAll l xs ds := h l
theorem Flat.inv_si {x : Str} {n : Int} {xs : List Value} (h : Flat xs [.str x, .int n]) : ∃ t u, xs = [.str x t, .int n u] := by
  cases h [] with
  | cons a b => cases a; cases b with
    | cons a b => cases a; cases b; exact ⟨_, _, rfl⟩
theorem Flat.inv_ss {x y : Str} {xs : List Value} (h : Flat xs [.str x, .str y]) : ∃ t u, xs = [.str x t, .str y u] := by
  cases h [] with
  | cons a b => cases a; cases b with
    | cons a b => cases a; cases b; exact ⟨_, _, rfl⟩
abbrev ToldD (ds : List Dat) (news : Led) (r : Value) (n : Led) : Prop := ∃ o ko xs, r = .ref o ∧ n = (o, listOf xs.toArray ko) :: news ∧ Flat xs ds ∧ ∀ p ∈ news, p.1 ≠ o
def KToldD (ds : List Dat) (news : Led) (P : Value → Led → Prop) : Prop := ∀ o ko xs, Flat xs ds → (∀ p ∈ news, p.1 ≠ o) → P (.ref o) ((o, listOf xs.toArray ko) :: news)
theorem K_toldD {ds : List Dat} {news : Led} : ∀ P, KToldD ds news P → ∀ r n, ToldD ds news r n → P r n := by
  rintro P h _ _ ⟨o, ko, xs, rfl, rfl, a, b⟩; exact h o ko xs a b
theorem Told.int {n : Int} {t : Tok} {news : Led} (r : Value) (l : Led) (h : Told "told" (.int n t) news r l) : ToldD [.str "told", .int n] news r l := by
  obtain ⟨o, ko, ts, e, e', hn⟩ := h; exact ⟨o, ko, _, e, e', .si, hn⟩
theorem ToldS.d {sym : Str} {news : Led} (r : Value) (l : Led) (h : ToldS sym news r l) : ToldD [.str "signal", .str sym] news r l := by
  obtain ⟨tk, o, ko, ts, e, e', hn⟩ := h; exact ⟨o, ko, _, e, e', .ss, hn⟩
open Classical in
/-- what elt is due to tell -/
noncomputable def dE (vs : List Value) (ns : List Int) (p : Int) : List Dat := if 0 ≤ p ∧ p < vs.length then [.str "told", .int (ns.getD p.toNat 0)] else [.str "signal", .str "args-out-of-range"]
open Classical in
noncomputable def dA (so : String) (vs : List Value) (ns : List Int) (p : Int) : List Dat := if so = "list" then [.str "signal", .str "wrong-type-argument"] else dE vs ns p
open Classical in
noncomputable def dSet (so : String) (vs : List Value) (ns : List Int) (p k : Int) : List Dat :=
  if so ≠ "list" ∧ (0 ≤ p ∧ p < vs.length) then (if so = "string" ∧ k < 0 then [.str "signal", .str "wrong-type-argument"] else [.str "told", .int k]) else dA so vs ns p
theorem dok_E (vs : List Value) (ns : List Int) (p : Int) : ∀ d ∈ dE vs ns p, kqdOk 8 d = true := by
  unfold dE; split
  · exact dok_si (by decide +kernel)
  · exact dok_ss (by decide +kernel) (by decide +kernel)
theorem dok_A (so : String) (vs : List Value) (ns : List Int) (p : Int) : ∀ d ∈ dA so vs ns p, kqdOk 8 d = true := by
  unfold dA; split
  · exact dok_ss (by decide +kernel) (by decide +kernel)
  · exact dok_E vs ns p
theorem dok_S (so : String) (vs : List Value) (ns : List Int) (p k : Int) : ∀ d ∈ dSet so vs ns p k, kqdOk 8 d = true := by
  unfold dSet; split
  · split
    · exact dok_ss (by decide +kernel) (by decide +kernel)
    · exact dok_si (by decide +kernel)
  · exact dok_A so vs ns p
theorem flat_in {vs : List Value} {ns : List Int} {p : Int} {t u : Tok} (h : 0 ≤ p ∧ p < vs.length) : Flat [.str "told" t, .int (ns.getD p.toNat 0) u] (dE vs ns p) := by unfold dE; rw [if_pos h]; exact .si
theorem flat_out {vs : List Value} {ns : List Int} {p : Int} {t u : Tok} (h : ¬ (0 ≤ p ∧ p < vs.length)) : Flat [.str "signal" t, .str "args-out-of-range" u] (dE vs ns p) := by unfold dE; rw [if_neg h]; exact .ss
theorem flat_list {so : String} {vs : List Value} {ns : List Int} {p : Int} {t u : Tok} (h : so = "list") : Flat [.str "signal" t, .str "wrong-type-argument" u] (dA so vs ns p) := by unfold dA; rw [if_pos h]; exact .ss
theorem flat_seq {so : String} {vs : List Value} {ns : List Int} {p : Int} {xs : List Value} (h : so ≠ "list") (f : Flat xs (dE vs ns p)) : Flat xs (dA so vs ns p) := by unfold dA; rw [if_neg h]; exact f
theorem flat_setT {so : String} {vs : List Value} {ns : List Int} {p k : Int} {t u : Tok} (h : so ≠ "list") (h1 : 0 ≤ p ∧ p < vs.length) (h2 : ¬ (so = "string" ∧ k < 0)) : Flat [.str "told" t, .int k u] (dSet so vs ns p k) := by unfold dSet; rw [if_pos ⟨h, h1⟩, if_neg h2]; exact .si
theorem flat_setS {so : String} {vs : List Value} {ns : List Int} {p k : Int} {t u : Tok} (h : so ≠ "list") (h1 : 0 ≤ p ∧ p < vs.length) (h2 : so = "string") (h3 : k < 0) : Flat [.str "signal" t, .str "wrong-type-argument" u] (dSet so vs ns p k) := by unfold dSet; rw [if_pos ⟨h, h1⟩, if_pos ⟨h2, h3⟩]; exact .ss
theorem flat_setO {so : String} {vs : List Value} {ns : List Int} {p k : Int} {xs : List Value} (h : ¬ (so ≠ "list" ∧ (0 ≤ p ∧ p < vs.length))) (f : Flat xs (dA so vs ns p)) : Flat xs (dSet so vs ns p k) := by unfold dSet; rw [if_neg h]; exact f
theorem item_n {vs : List Value} {ns : List Int} {p : Int} (hi : IntsAre vs ns) (h : 0 ≤ p ∧ p < vs.length) : ∃ t, vs[p.toNat]? = some (.int (ns.getD p.toNat 0) t) := by
  have key : ∀ {vs : List Value} {ns : List Int} (q : Nat), IntsAre vs ns → q < vs.length → ∃ t, vs[q]? = some (.int (ns.getD q 0) t) := by
    intro vs ns q h
    induction h generalizing q with
    | nil => intro h; exact absurd h (Nat.not_lt_zero _)
    | cons n t _ ih =>
      intro hq
      cases q with
      | zero => exact ⟨t, rfl⟩
      | succ q => exact ih q (Nat.lt_of_succ_lt_succ hq)
  exact key _ hi (by omega)
section
variable {w : World} {so : String} {v u : Value} {vs : List Value} {ns : List Int} {p k : Int} {tp tk : Tok} {la : Addr} {ka : Nat} {news cs rest : Led}
theorem elt_any (hla : (la, listOf [v, .int p tp].toArray ka) ∈ news) (hs : SeqIn w news so v vs) (hi : IntsAre vs ns) (hb : vs.length ≤ 1000) : RetT w 45 450 (.ref 468) [.ref 357, .ref la] news (ToldD (dE vs ns p) news) := by
  unfold dE; split
  · rename_i h
    obtain ⟨t, hv⟩ := item_n hi h
    exact (told_val (keep_357 _) (elt_in hla hs hb h hv) (by decide) (by decide)).toT.mono Told.int
  · rename_i h
    exact (told_sig (keep_357 _) (elt_out hla hs hb h) (by decide) (by decide)).mono ToldS.d
theorem aref_any (hla : (la, listOf [v, .int p tp].toArray ka) ∈ news) (hs : SeqIn w news so v vs) (hi : IntsAre vs ns) (hb : vs.length ≤ 1000) : RetT w 45 450 (.ref 468) [.ref 364, .ref la] news (ToldD (dA so vs ns p) news) := by
  unfold dA; split
  · rename_i h; subst h
    exact (told_sig (keep_364 _) (aref_bad hla hs) (by decide) (by decide)).mono ToldS.d
  · rename_i hso
    unfold dE; split
    · rename_i h
      obtain ⟨t, hv⟩ := item_n hi h
      exact (told_val (keep_364 _) (aref_in hso hla hs hb h hv) (by decide) (by decide)).toT.mono Told.int
    · rename_i h
      exact (told_sig (keep_364 _) (aref_out hso hla hs hb h) (by decide) (by decide)).mono ToldS.d
end
section
variable {w : World}
theorem Apart.right {cs l l' : Led} (h : Apart cs l) (hs : ∀ q ∈ l', q ∈ l) : Apart cs l' := fun p hp q hq => h p hp q (hs q hq)
theorem Apart.pre {cs rest l : Led} {a : Addr} {o : Obj} (h : Over l a) (hs : ∀ p ∈ cs, p ∈ l) (r : Apart cs rest) : Apart cs ((a, o) :: rest) := fun p hp => List.forall_mem_cons.mpr ⟨Nat.ne_of_lt (h p (hs p hp)), r p hp⟩
theorem Apart.off {cs rest l : Led} {a : Addr} {o : Obj} (h : ∀ p ∈ l, p.1 ≠ a) (hs : ∀ p ∈ cs, p ∈ l) (r : Apart cs rest) : Apart cs ((a, o) :: rest) := fun p hp => List.forall_mem_cons.mpr ⟨h p (hs p hp), r p hp⟩
theorem mem_turn {cs pre post : Led} : ∀ x ∈ cs ++ (pre ++ post), x ∈ pre ++ (cs ++ post) := fun x hx => by
  rcases List.mem_append.mp hx with h | h
  · exact List.mem_append_right _ (List.mem_append_left _ h)
  · rcases List.mem_append.mp h with h | h
    · exact List.mem_append_left _ h
    · exact List.mem_append_right _ (List.mem_append_right _ h)
/-- a deed that turns a sequence of the call's own, told; the sequence lies amid the ledger -/
theorem told_turn {f la : Addr} {D U : Nat} {pre cs post : Led} {p : Value → Led → Prop} (hkf : keepIn (hd.heap_39 w.params) (.ref f) = true) (R : Ret w D U (.ref f) [.none, .ref la] (cs ++ (pre ++ post)) p) (hD : D ≤ 40) (hU : U ≤ 400) :
    Ret w 45 450 (.ref 468) [.ref f, .ref la] (pre ++ (cs ++ post)) (fun r n' => ∃ v n2, p v n2 ∧ Told "told" v n2 r n') := law_told_ok w f la _ D U _ hkf (R.perm mem_turn) hD hU
theorem set_list {vs : List Value} {p : Int} {v : Value} (hp : 0 ≤ p ∧ p < vs.length) : vs.set p.toNat v = vs.take p.toNat ++ [v] ++ vs.drop (p + 1).toNat := by
  rw [List.set_eq_take_append_cons_drop, if_pos (by omega), show (p + 1).toNat = p.toNat + 1 by omega]; simp
theorem IntsAre.cut {vs : List Value} {ns : List Int} (q : Nat) (h : IntsAre vs ns) : IntsAre (vs.take q) (ns.take q) ∧ IntsAre (vs.drop q) (ns.drop q) := by
  induction h generalizing q with
  | nil => simp; exact .nil
  | cons n t h ih =>
    cases q with
    | zero => exact ⟨.nil, .cons n t h⟩
    | succ q => exact ⟨.cons n t (ih q).1, (ih q).2⟩
theorem set_fit {vs : List Value} {ns : List Int} {p k : Int} {tk : Tok} (hi : IntsAre vs ns) (hb : vs.length ≤ 80) :
    (vs.take p.toNat ++ [Value.int k tk] ++ vs.drop (p + 1).toNat).length ≤ 90 + 80 ∧ ∃ ns', IntsAre (vs.take p.toNat ++ [Value.int k tk] ++ vs.drop (p + 1).toNat) ns' :=
  ⟨by simp only [List.length_append, List.length_cons, List.length_nil, List.length_take, List.length_drop]; omega, _, ((IntsAre.cut _ hi).1.append (.cons k tk .nil)).append (IntsAre.cut _ hi).2⟩
/-- did aset change its sequence -/
def AsetDid (so : String) (vs : List Value) (p k : Int) : Prop := so ≠ "list" ∧ (0 ≤ p ∧ p < vs.length) ∧ ¬ (so = "string" ∧ k < 0)
open Classical in
noncomputable def vS (so : String) (vs : List Value) (p k : Int) (tk : Tok) : List Value := if AsetDid so vs p k then vs.take p.toNat ++ [Value.int k tk] ++ vs.drop (p + 1).toNat else vs
theorem vS_fit {so : String} {vs : List Value} {ns : List Int} {p k : Int} {tk : Tok} (hi : IntsAre vs ns) (hb : vs.length ≤ 80) : (vS so vs p k tk).length ≤ 90 ∧ ∃ ns', IntsAre (vS so vs p k tk) ns' := by
  unfold vS; split
  · rename_i h
    have hp := h.2.1
    exact ⟨by simp only [List.length_append, List.length_cons, List.length_nil, List.length_take, List.length_drop]; omega, (set_fit hi hb).2⟩
  · exact ⟨by omega, _, hi⟩
theorem vS_did {so : String} {vs : List Value} {p k : Int} {tk : Tok} (h : AsetDid so vs p k) : vS so vs p k tk = vs.take p.toNat ++ [Value.int k tk] ++ vs.drop (p + 1).toNat := if_pos h
theorem vS_not {so : String} {vs : List Value} {p k : Int} {tk : Tok} (h : ¬ AsetDid so vs p k) : vS so vs p k tk = vs := if_neg h
theorem inv_did {so : String} {vs : List Value} {ns : List Int} {p k : Int} {xs : List Value} (h : AsetDid so vs p k) (f : Flat xs (dSet so vs ns p k)) : ∃ t u, xs = [.str "told" t, .int k u] := by
  unfold dSet at f; rw [if_pos ⟨h.1, h.2.1⟩, if_neg h.2.2] at f; exact f.inv_si
theorem inv_not {so : String} {vs : List Value} {ns : List Int} {p k : Int} {xs : List Value} (h : ¬ AsetDid so vs p k) (f : Flat xs (dSet so vs ns p k)) : ∃ t b u, xs = [.str "signal" t, .str b u] := by
  unfold dSet at f
  split at f
  · rename_i h1
    split at f
    · obtain ⟨t, u, e⟩ := f.inv_ss; exact ⟨t, _, u, e⟩
    · rename_i h2; exact absurd ⟨h1.1, h1.2, h2⟩ h
  · rename_i h1
    unfold dA at f
    split at f
    · obtain ⟨t, u, e⟩ := f.inv_ss; exact ⟨t, _, u, e⟩
    · rename_i h2
      unfold dE at f
      rw [if_neg fun q => h1 ⟨h2, q⟩] at f
      obtain ⟨t, u, e⟩ := f.inv_ss; exact ⟨t, _, u, e⟩
abbrev SetP (w : World) (so : String) (vs : List Value) (ns : List Int) (p k : Int) (tk : Tok) (v : Value) (l : Led) (r : Value) (n : Led) : Prop :=
  ∃ cs o ko xs, r = .ref o ∧ n = (o, listOf xs.toArray ko) :: (cs ++ l) ∧ Flat xs (dSet so vs ns p k) ∧ SeqIn w (cs ++ l) so v (vS so vs p k tk) ∧ ∀ p ∈ cs ++ l, p.1 ≠ o
def KSet (w : World) (so : String) (vs : List Value) (ns : List Int) (p k : Int) (tk : Tok) (v : Value) (l : Led) (P : Value → Led → Prop) : Prop :=
  ∀ cs o ko xs, Flat xs (dSet so vs ns p k) → SeqIn w (cs ++ l) so v (vS so vs p k tk) → (∀ p ∈ cs ++ l, p.1 ≠ o) → P (.ref o) ((o, listOf xs.toArray ko) :: (cs ++ l))
theorem K_set {w : World} {so : String} {vs : List Value} {ns : List Int} {p k : Int} {tk : Tok} {v : Value} {l : Led} : ∀ P, KSet w so vs ns p k tk v l P → ∀ r n, SetP w so vs ns p k tk v l r n → P r n := by
  rintro P h _ _ ⟨cs, o, ko, xs, rfl, rfl, a, b, c⟩; exact h cs o ko xs a b c
theorem SetP.sig {w : World} {so : String} {vs : List Value} {ns : List Int} {p k : Int} {tk : Tok} {v : Value} {l cs : Led} {sym : Str} (hs : SeqIn w cs so v vs) (hno : ¬ AsetDid so vs p k) (hd : dSet so vs ns p k = [.str "signal", .str sym]) (r : Value) (n : Led) (h : ToldS sym (cs ++ l) r n) : SetP w so vs ns p k tk v l r n := by
  obtain ⟨t, o, ko, ts, e, e', hn⟩ := h
  refine ⟨cs, o, ko, _, e, e', hd ▸ .ss, ?_, hn⟩
  unfold vS; rw [if_neg hno]; exact hs.mono fun _ h => List.mem_append_left _ h
theorem RetT.perm {D U : Nat} {f : Value} {args : List Value} {news news' : Led} {p : Value → Led → Prop} (R : RetT w D U f args news p) (h : ∀ x ∈ news, x ∈ news') : RetT w D U f args news' p :=
  fun mean mg mb dp un gd cn cs a ccd cl outer A₀ base h₀ L m s Q E B F X N T hk h1 h2 ret => R mean mg mb dp un gd cn cs a ccd cl outer A₀ base h₀ L m s Q E B F X (News.sub N h) T hk h1 h2 ret
theorem aset_any {so : String} {v : Value} {vs : List Value} {ns : List Int} {p k : Int} {tp tk : Tok} {la : Addr} {ka : Nat} {pre cs post : Led} (hla : (la, listOf [v, .int p tp, .int k tk].toArray ka) ∈ pre ++ post) (hs : SeqIn w cs so v vs) (ha : Apart cs (pre ++ post)) (hi : IntsAre vs ns) (hb : vs.length ≤ 80) (hk1 : k ≤ 1000) :
    RetT w 45 450 (.ref 468) [.ref 371, .ref la] (pre ++ (cs ++ post)) (SetP w so vs ns p k tk v (pre ++ post)) := by
  refine RetT.perm (news := cs ++ (pre ++ post)) ?_ mem_turn
  have hla' : (la, listOf [v, .int p tp, .int k tk].toArray ka) ∈ cs ++ (pre ++ post) := List.mem_append_right _ hla
  have hs' : SeqIn w (cs ++ (pre ++ post)) so v vs := hs.mono fun _ h => List.mem_append_left _ h
  have hb' : vs.length ≤ 1000 := by omega
  by_cases h0 : so = "list"
  · subst h0
    refine (told_sig (keep_371 _) (aset_bad hla' hs') (by decide) (by decide)).mono (SetP.sig hs (fun h => h.1 rfl) ?_)
    unfold dSet dA; rw [if_neg (fun h => h.1 rfl), if_pos rfl]
  · by_cases h1 : 0 ≤ p ∧ p < vs.length
    · by_cases h2 : so = "string" ∧ k < 0
      · obtain ⟨h2, h3⟩ := h2
        subst h2
        refine (told_sig (keep_371 _) (aset_neg hla' hs' hb' h1 h3) (by decide) (by decide)).mono (SetP.sig hs (fun h => h.2.2 ⟨rfl, h3⟩) ?_)
        unfold dSet; rw [if_pos ⟨h0, h1⟩, if_pos ⟨rfl, h3⟩]
      · refine ((law_told_ok w 371 la _ _ _ _ (keep_371 _) (aset_in h0 hla hs ha hi hb' h1 (fun e => Int.not_lt.mp fun q => h2 ⟨e, q⟩) hk1) (by decide) (by decide)).toT).mono fun r n h => ?_
        obtain ⟨v', n2, ⟨rfl, cs', rfl, hT⟩, o, ko, ts, e, e', hn⟩ := h
        refine ⟨cs', o, ko, _, e, e', ?_, ?_, hn⟩
        · unfold dSet; rw [if_pos ⟨h0, h1⟩, if_neg h2]; exact .si
        · unfold vS; rw [if_pos ⟨h0, h1, h2⟩, ← set_list h1]; exact hT
    · refine (told_sig (keep_371 _) (aset_out h0 hla' hs' hb' h1) (by decide) (by decide)).mono (SetP.sig hs (fun h => h1 h.2.1) ?_)
      unfold dSet dA dE; rw [if_neg (fun h => h1 h.2), if_neg h0, if_neg h1]
end
section
variable {prog : Program} {w : World} {A : Around} {E : Value → Shared → Prop} {hS h₀ : Heap} {gS : Array GenState} {dS' : Drawn} {tS : Nat} {oS : OsState} {L : Addr}
theorem eval_join {α : Type} {M : Model} {x : Sem α} {b : α} {Q : α → Shared → Prop} (h1 : wpAny M A x (fun v s' => ∃ tk', v = b ∧ s' = ⟨hS, gS, dS', tk', oS⟩) E ⟨hS, gS, dS', tS, oS⟩) (h2 : ∀ tk', Q b ⟨hS, gS, dS', tk', oS⟩) : wpAny M A x Q E ⟨hS, gS, dS', tS, oS⟩ :=
  wpAny_mono h1 (by rintro v s' ⟨tk', rfl, rfl⟩; exact h2 _) fun _ _ e => e
/-- an expression that makes a list of plain data -/
def DueP (h₀ : Heap) (L : Addr) (gS : Array GenState) (dS' : Drawn) (oS : OsState) (nw : Led) (ds : List Dat) (m : Str → Option Value) (v : Value) (s' : Shared) : Prop :=
  ∃ D h' tk' xs k, v = .ref D ∧ s' = ⟨h', gS, dS', tk', oS⟩ ∧ Fr h₀ L h' m ∧ News h₀ L h' ((D, listOf xs.toArray k) :: nw) ∧ (∀ p ∈ nw, p.1 ≠ D) ∧ Flat xs ds
theorem DueP.mk {h' : Heap} {tk' : Nat} {m : Str → Option Value} {nw all : Led} {ds : List Dat} {D : Addr} {xs : List Value} {k : Nat} (F : Fr h₀ L h' m) (N : News h₀ L h' all) (sub : ∀ p ∈ (D, listOf xs.toArray k) :: nw, p ∈ all) (off : ∀ p ∈ nw, p.1 ≠ D) (f : Flat xs ds) :
    DueP h₀ L gS dS' oS nw ds m (.ref D) ⟨h', gS, dS', tk', oS⟩ := ⟨D, h', tk', xs, k, rfl, rfl, F, News.sub N sub, off, f⟩
theorem due_cut {M : Model} {x : Sem Value} {ds : List Dat} (nw : Led) {m : Str → Option Value} {Q : Value → Shared → Prop} (_F : Fr h₀ L hS m) (h1 : wpAny M A x (DueP h₀ L gS dS' oS nw ds m) E ⟨hS, gS, dS', tS, oS⟩)
    (h2 : ∀ D h' tk' xs k, Fr h₀ L h' m → News h₀ L h' ((D, listOf xs.toArray k) :: nw) → (∀ p ∈ nw, p.1 ≠ D) → Flat xs ds → Q (.ref D) ⟨h', gS, dS', tk', oS⟩) : wpAny M A x Q E ⟨hS, gS, dS', tS, oS⟩ :=
  wpAny_mono h1 (by rintro v s' ⟨D, h', tk', xs, k, rfl, rfl, F, N, o, d⟩; exact h2 D h' tk' xs k F N o d) fun _ _ e => e
/-- a statement that may store such a list anew -/
def DueS (h₀ : Heap) (L : Addr) (gS : Array GenState) (dS' : Drawn) (oS : OsState) (nw : Led) (ds : List Dat) (y : Str) (m : Str → Option Value) (f : Flow) (s' : Shared) : Prop :=
  ∃ D h' tk' xs k, f = .next ∧ s' = ⟨h', gS, dS', tk', oS⟩ ∧ Fr h₀ L h' (fun z => if z = y then some (.ref D) else m z) ∧ News h₀ L h' ((D, listOf xs.toArray k) :: nw) ∧ (∀ p ∈ nw, p.1 ≠ D) ∧ Flat xs ds
theorem stmt_cut {M : Model} {x : Sem Flow} {ds : List Dat} (nw : Led) {y : Str} {v : Value} {m : Str → Option Value} {Q : Flow → Shared → Prop} (_F : Fr h₀ L hS (fun z => if z = y then some v else m z))
    (h1 : wpAny M A x (DueS h₀ L gS dS' oS nw ds y m) E ⟨hS, gS, dS', tS, oS⟩)
    (h2 : ∀ D h' tk' xs k, Fr h₀ L h' (fun z => if z = y then some (.ref D) else m z) → News h₀ L h' ((D, listOf xs.toArray k) :: nw) → (∀ p ∈ nw, p.1 ≠ D) → Flat xs ds → Q .next ⟨h', gS, dS', tk', oS⟩) : wpAny M A x Q E ⟨hS, gS, dS', tS, oS⟩ :=
  wpAny_mono h1 (by rintro v s' ⟨D, h', tk', xs, k, rfl, rfl, F, N, o, d⟩; exact h2 D h' tk' xs k F N o d) fun _ _ e => e
theorem Fr.over {h : Heap} {y : Str} {v u : Value} {m : Str → Option Value} (F : Fr h₀ L h (fun z => if z = y then some v else if z = y then some u else m z)) : Fr h₀ L h (fun z => if z = y then some v else m z) := by
  have e : (fun z => if z = y then some v else if z = y then some u else m z) = fun z => if z = y then some v else m z := by funext z; split <;> simp_all
  exact e ▸ F
theorem DueS.old {h' : Heap} {tk' : Nat} {y : Str} {m : Str → Option Value} {nw all : Led} {ds : List Dat} {D : Addr} {xs : List Value} {k : Nat} (F : Fr h₀ L h' (fun z => if z = y then some (.ref D) else m z)) (N : News h₀ L h' all) (sub : ∀ p ∈ (D, listOf xs.toArray k) :: nw, p ∈ all) (off : ∀ p ∈ nw, p.1 ≠ D) (f : Flat xs ds) :
    DueS h₀ L gS dS' oS nw ds y m .next ⟨h', gS, dS', tk', oS⟩ := ⟨D, h', tk', xs, k, rfl, rfl, F, News.sub N sub, off, f⟩
theorem DueS.new {h' : Heap} {tk' : Nat} {y : Str} {v : Value} {m : Str → Option Value} {nw all : Led} {ds : List Dat} {D : Addr} {xs : List Value} {k : Nat} (F : Fr h₀ L h' (fun z => if z = y then some (.ref D) else if z = y then some v else m z)) (N : News h₀ L h' all) (sub : ∀ p ∈ (D, listOf xs.toArray k) :: nw, p ∈ all) (off : ∀ p ∈ nw, p.1 ≠ D) (f : Flat xs ds) :
    DueS h₀ L gS dS' oS nw ds y m .next ⟨h', gS, dS', tk', oS⟩ := .old (Fr.over F) N sub off f
end
/-- a statement that changes no name -/
def SkipP (h₀ : Heap) (L : Addr) (gS : Array GenState) (dS' : Drawn) (oS : OsState) (nw : Led) (m : Str → Option Value) (f : Flow) (s' : Shared) : Prop := f = .next ∧ ∃ h' tk', s' = ⟨h', gS, dS', tk', oS⟩ ∧ Fr h₀ L h' m ∧ News h₀ L h' nw
section
variable {A : Around} {E : Value → Shared → Prop} {hS h₀ : Heap} {gS : Array GenState} {dS' : Drawn} {tS : Nat} {oS : OsState} {L : Addr} {m : Str → Option Value}
theorem SkipP.mk {h' : Heap} {tk' : Nat} {nw all : Led} (F : Fr h₀ L h' m) (N : News h₀ L h' all) (sub : ∀ p ∈ nw, p ∈ all) : SkipP h₀ L gS dS' oS nw m .next ⟨h', gS, dS', tk', oS⟩ := ⟨rfl, h', tk', rfl, F, News.sub N sub⟩
theorem skip_cut {M : Model} {x : Sem Flow} (nw : Led) {Q : Flow → Shared → Prop} (_F : Fr h₀ L hS m) (h1 : wpAny M A x (SkipP h₀ L gS dS' oS nw m) E ⟨hS, gS, dS', tS, oS⟩) (h2 : ∀ h' tk', Fr h₀ L h' m → News h₀ L h' nw → Q .next ⟨h', gS, dS', tk', oS⟩) :
    wpAny M A x Q E ⟨hS, gS, dS', tS, oS⟩ :=
  wpAny_mono h1 (by rintro v s' ⟨rfl, h', tk', rfl, F, N⟩; exact h2 h' tk' F N) fun _ _ e => e
end
theorem sort_eq {so lit : String} (h : Sort3 so) (hl : Sort3 lit) : Str.ofString so = Str.ofString lit ↔ so = lit := by
  rcases h with rfl | rfl | rfl <;> rcases hl with rfl | rfl | rfl <;> decide +kernel
section
variable {prog : Program} {w : World} {A : Around} {E : Value → Shared → Prop} {s : Shared} {so lit : String} {t u : Tok} {Q : Value → Shared → Prop}
theorem so_eq_t (h : Sort3 so) (hl : Sort3 lit) (e : so = lit) (hq : Q (.bool true) s) : wpAny (model prog w) A (compareOp .Eq (.str (Str.ofString so) t) (.str (Str.ofString lit) u)) Q E s := eq_str (by rw [beq_iff_eq.mpr ((sort_eq h hl).mpr e)]; exact hq)
theorem so_eq_f (h : Sort3 so) (hl : Sort3 lit) (e : so ≠ lit) (hq : Q (.bool false) s) : wpAny (model prog w) A (compareOp .Eq (.str (Str.ofString so) t) (.str (Str.ofString lit) u)) Q E s := eq_str (by rw [beq_eq_false_iff_ne.mpr fun q => e ((sort_eq h hl).mp q)]; exact hq)
theorem so_ne_t (h : Sort3 so) (hl : Sort3 lit) (e : so = lit) (hq : Q (.bool false) s) : wpAny (model prog w) A (compareOp .NotEq (.str (Str.ofString so) t) (.str (Str.ofString lit) u)) Q E s := ne_str (by rw [bne, beq_iff_eq.mpr ((sort_eq h hl).mpr e)]; exact hq)
theorem so_ne_f (h : Sort3 so) (hl : Sort3 lit) (e : so ≠ lit) (hq : Q (.bool true) s) : wpAny (model prog w) A (compareOp .NotEq (.str (Str.ofString so) t) (.str (Str.ofString lit) u)) Q E s := ne_str (by rw [bne, beq_eq_false_iff_ne.mpr fun q => e ((sort_eq h hl).mp q)]; exact hq)
end
theorem so_list : Sort3 "list" := .inl rfl
theorem so_vec : Sort3 "vector" := .inr (.inl rfl)
theorem so_str : Sort3 "string" := .inr (.inr rfl)
inductive StopIf : Prop
  | mk
inductive StopIfE : Prop
  | mk
example : True := by
  k_with "my_apart" => (((try simp only [List.cons_append, List.nil_append]); repeat (first | exact Apart.right (by with_reducible assumption) (by intro p9 hp9; k_mem) | refine Apart.pre (by with_reducible assumption) (by intro p9 hp9; k_mem) ?_ | refine Apart.off (by with_reducible assumption) (by intro p9 hp9; k_mem) ?_)))
  trivial
example : True := by
  k_with "my_pre" => (first | exact List.mem_append_left _ (by k_mem) | exact List.mem_append_right _ (by k_mem))
  trivial
example : True := by
  k_with "my_bound" => (first | with_reducible assumption | exact Nat.le_trans (by with_reducible assumption) (by decide) | omega | (simp only [List.length_append, List.length_cons, List.length_nil, List.length_take, List.length_drop]; omega))
  trivial
example : True := by
  k_with "@eval Compare" => (k_extra "my compare")
  trivial
example : True := by
  k_with "@eval IfExp" => ((rename StopIfE => hZ9; clear hZ9; refine halt ?_))
  trivial
example : True := by
  k_with "@exec If" => (((first | with_reducible show wpAny _ _ (exec (Stmt.If (Expr.Compare (Expr.Name _ _) _ _ _) _ _ _) _) _ _ _ | with_reducible show wpAny _ _ (exec (Stmt.If (Expr.Compare (Expr.Subscript _ _ _) _ _ _) _ _ _) _) _ _ _ | with_reducible show wpAny _ _ (exec (Stmt.If (Expr.BoolOp BoolOp.And _ _) _ _ _) _) _ _ _); rename StopIf => hZ9; clear hZ9; refine halt ?_))
  trivial
example : True := by
  k_with "my_so" => (first | with_reducible exact so_list | with_reducible exact so_str | with_reducible exact so_vec)
  trivial
example : True := by
  k_with "@compareOp Eq str str" => (first | (k_dflt (refine' so_eq_t ?y1 ?y2 ?y3 ?_; (case y3 => with_reducible assumption); (case y1 => with_reducible assumption); (case y2 => k_extra "my_so"))) | (k_dflt (refine' so_eq_f ?y1 ?y2 ?y3 ?_; (case y3 => with_reducible assumption); (case y1 => with_reducible assumption); (case y2 => k_extra "my_so"))))
  trivial
example : True := by
  k_with "@compareOp NotEq str str" => (first | (k_dflt (refine' so_ne_t ?y1 ?y2 ?y3 ?_; (case y3 => with_reducible assumption); (case y1 => with_reducible assumption); (case y2 => k_extra "my_so"))) | (k_dflt (refine' so_ne_f ?y1 ?y2 ?y3 ?_; (case y3 => with_reducible assumption); (case y1 => with_reducible assumption); (case y2 => k_extra "my_so"))))
  trivial
example : True := by
  k_with "my_dats" => ((with_reducible refine' Flat.at ?y1; (case y1 => with_reducible assumption)))
  trivial
example : True := by
  k_with "my_dok" => (first | with_reducible exact dok_E _ _ _ | with_reducible exact dok_A _ _ _ _ | with_reducible exact dok_S _ _ _ _ _)
  trivial
example : True := by
  k_with "my_anew" => ((have fX := Frag.In.keeps XB (Below.stays fB); have fT := Top.keeps TB (Below.stays fB); replace fR := Reb.trans fR R9; clear R9))
  trivial
example : True := by
  k_with "@call ref" => ((k_here; (with_reducible show wpAny _ _ (call (Value.ref 468) [Value.ref 357, Value.ref _]) _ _ _); k_dflt ((refine' RetT.use (elt_any ?p1 ?p2 ?p3 ?p4) K_toldD ?k1 ?k2 ?k3 ?k4 ?k5 ?kK ?kd ?ku ?_); k_extra "my_use"; (case p1 => k_mem); (case p2 => k_extra "my_seq"); (case p3 => with_reducible assumption); (case p4 => k_extra "my_bound"); clear fB fX fT; refine fun o9 ko9 xs9 fl9 hno9 h9 tk9 g9 R9 fB F9 N9 => ?_; k_extra "my_anew";  (try dsimp only); (try k_fold))))
  trivial
example : True := by
  k_with "@call ref" => ((k_here; (with_reducible show wpAny _ _ (call (Value.ref 468) [Value.ref 364, Value.ref _]) _ _ _); k_dflt ((refine' RetT.use (aref_any ?p1 ?p2 ?p3 ?p4) K_toldD ?k1 ?k2 ?k3 ?k4 ?k5 ?kK ?kd ?ku ?_); k_extra "my_use"; (case p1 => k_mem); (case p2 => k_extra "my_seq"); (case p3 => with_reducible assumption); (case p4 => k_extra "my_bound"); clear fB fX fT; refine fun o9 ko9 xs9 fl9 hno9 h9 tk9 g9 R9 fB F9 N9 => ?_; k_extra "my_anew";  (try dsimp only); (try k_fold))))
  trivial
example : True := by
  k_with "@call ref" => (k_extra "my call")
  trivial
example : True := by
  k_with "my_drop" => (first | with_reducible exact sub_self | (with_reducible refine sub_tail ?_; k_extra "my_drop"))
  trivial
example : True := by
  k_with "my_find" => (first | with_reducible assumption | with_reducible exact sub_self | (with_reducible refine sub_tail ?_; k_extra "my_find") | (with_reducible refine sub_l ?_; k_extra "my_find") | (with_reducible refine sub_r ?_; k_extra "my_find"))
  trivial
example : True := by
  k_with "my_keep" => (first | k_extra "my_drop" | (with_reducible refine' sub_cons ?h1 ?h2; (case h1 => k_mem); (case h2 => k_extra "my_keep")) | (with_reducible refine' sub_app ?h1 ?h2; (case h1 => k_extra "my_keep"); (case h2 => k_extra "my_keep")) | with_reducible exact sub_nil | k_extra "my_find")
  trivial
example : True := by
  k_with "my_offs" => (first | with_reducible assumption | (refine' ne_of_sub ?h ?s; (case h => with_reducible assumption); (case s => k_extra "my_keep")))
  trivial
example : True := by
  k_with "my_endP" => ((refine hret _ _ _ ((k, deckO c (p + 1 + 1) ?e1 ?e2) :: rest) _ hR8 hB8 hF8 (News.sub hN8 ?es) ⟨rfl, _, _, rfl⟩; case es => exact List.forall_mem_cons.mpr ⟨by k_mem, fun p9 hp9 => by k_mem⟩))
  trivial
theorem places_ok (w : World) (so : String) (k c : Addr) (p : Int) (tp : Tok) (kk kc : Nat) (cells : List Value) (ts : Tok) (nl : Addr) (kn : Nat) (vs : List Value) (ns : List Int) (rest : Led) (hso : Sort3 so) (D : DeckOk c k cells) (hc : (c, listOf cells.toArray kc) ∈ rest) (hk9 : ∀ q ∈ rest, q.1 ≠ k)
    (hnl : (nl, listOf vs.toArray kn) ∈ rest) (hi : IntsAre vs ns) (hn : ∀ n ∈ ns, 0 ≤ n ∧ n ≤ 1000) (hb : vs.length ≤ 80) (hp0 : 0 ≤ p) (hp1 : p ≤ 1000) :
    RetT w 90 900 (.ref 482) [.ref k, .str (Str.ofString so) ts, .ref nl] ((k, deckO c p tp kk) :: rest) (fun r n' => r = .bool true ∧ ∃ tp' kk', n' = (k, deckO c (p + 1 + 1) tp' kk') :: rest) := by
  k_extra "my_enterT"
  have hStop447 : Stop447 := .mk
  k_steps
  unfold Halt
  walk1
  rename Int => qA
  rename (0 ≤ qA) => hqA0
  rename (qA < 6) => hqA1
  have hStopCmp : StopCmp := .mk
  k_steps
  unfold Halt
  obtain ⟨bT, hbT⟩ : ∃ b, b = decide (0 ≤ qA - 1 ∧ qA - 1 < (vs.length : Int)) := ⟨_, rfl⟩
  (try k_fold)
  refine eval_join (b := .bool bT) ?_ ?_
  · cases bT with
    | true =>
      have hin := of_decide_eq_true hbT.symm
      k_steps
      all_goals exact congrArg Value.bool (decide_eq_true (by omega))
    | false =>
      have hin := of_decide_eq_false hbT.symm
      k_steps
      all_goals exact congrArg Value.bool (decide_eq_false (by omega))
  intro tk7
  have hStopIfE : StopIfE := .mk
  k_steps
  unfold Halt
  rename Fr _ _ _ _ => lF
  rename News _ _ _ _ => lN
  (try k_fold)
  refine due_cut (ds := dE vs ns (qA - 1)) (cs9 ++ ((k, deckO c (p + 1 + 1) tp8 kk8) :: rest)) lF ?_ ?_
  · cases bT with
    | true =>
      have hin := of_decide_eq_true hbT.symm
      obtain ⟨ut, hv⟩ := item_n hi hin
      k_steps
      exact .mk (by k_asm) (by k_asm) (by k_extra "my_keep") (by k_extra "my_offs") (flat_in hin)
    | false =>
      have hin := of_decide_eq_false hbT.symm
      k_steps
      exact .mk (by k_asm) (by k_asm) (by k_extra "my_keep") (by k_extra "my_offs") (flat_out hin)
  clear lF lN
  intro DD h9 tk9 xsD kD F9 N9 oD flD
  try dsimp only
  have hStopIf : StopIf := .mk
  k_steps
  unfold Halt
  rename Fr _ _ _ _ => lF
  rename News _ _ _ _ => lN
  (try k_fold)
  refine stmt_cut (ds := dA so vs ns (qA - 1)) (cs9 ++ ((k, deckO c (p + 1 + 1) tp8 kk8) :: rest)) lF ?_ ?_
  · by_cases hl : so = "list"
    · k_steps
      exact .new (by k_asm) (by k_asm) (by k_extra "my_keep") (by k_extra "my_offs") (flat_list hl)
    · k_steps
      exact .old (by k_asm) (by k_asm) (by k_extra "my_keep") (by k_extra "my_offs") (flat_seq hl flD)
  clear lF lN oD flD hno9
  intro DD h9 tk9 xsD kD F9 N9 oD flD
  try dsimp only
  have hStopIf : StopIf := .mk
  k_steps
  unfold Halt
  rename Fr _ _ _ _ => lF
  rename News _ _ _ _ => lN
  (try k_fold)
  refine stmt_cut (ds := dSet so vs ns (qA - 1) (q8 - 1)) (cs9 ++ ((k, deckO c (p + 1 + 1) tp8 kk8) :: rest)) lF ?_ ?_
  · by_cases hl : so = "list"
    · k_steps
      exact .old (by k_asm) (by k_asm) (by k_extra "my_keep") (by k_extra "my_offs") (flat_setO (fun h => h.1 hl) flD)
    · cases bT with
      | false =>
        have hin := of_decide_eq_false hbT.symm
        k_steps
        exact .old (by k_asm) (by k_asm) (by k_extra "my_keep") (by k_extra "my_offs") (flat_setO (fun h => hin h.2) flD)
      | true =>
        have hin := of_decide_eq_true hbT.symm
        by_cases hst : so = "string"
        · by_cases hng : q8 - 1 < 0
          · k_steps
            exact .new (by k_asm) (by k_asm) (by k_extra "my_keep") (by k_extra "my_offs") (flat_setS hl hin hst hng)
          · k_steps
            exact .new (by k_asm) (by k_asm) (by k_extra "my_keep") (by k_extra "my_offs") (flat_setT hl hin fun h => hng h.2)
        · k_steps
          exact .new (by k_asm) (by k_asm) (by k_extra "my_keep") (by k_extra "my_offs") (flat_setT hl hin fun h => hst h.1)
  clear lF lN oD flD
  intro DD h9 tk9 xsD kD F9 N9 oD flD
  try dsimp only
  have hStop371 : Stop371 := .mk
  k_steps
  unfold Halt
  k_dflt (refine' RetT.use (aset_any (pre := [_, _]) (cs := cs9) ?q1 hS9 ?q2 hi hb ?q3) K_set ?k1 ?k2 ?k3 ?k4 ?k5 ?kK ?kd ?ku ?_)
  k_dflt (case k4 => exact N9)
  case q1 => k_extra "my_pre"
  case q2 => k_extra "my_apart"
  case q3 => omega
  case k1 => k_asm
  case k2 => k_asm
  case k3 => k_asm
  case k5 => k_asm
  case kK => exact rfl
  case kd => ktr_room
  case ku => ktr_units
  clear fB fX fT
  refine fun cs8 o9 ko9 xs9 fl9 hT8 hno9 h9 tk9 g9 R9 fB F9 N9 => ?_
  k_extra "my_anew"
  clear hS9 hA9
  simp only [List.cons_append, List.nil_append] at N9 hno9 hT8
  (try dsimp only)
  (try k_fold)
  have hStopIf : StopIf := .mk
  k_steps
  unfold Halt
  obtain ⟨hbT8, nsT, hiT⟩ := vS_fit (so := so) (p := qA - 1) (k := q8 - 1) (tk := _) hi hb
  by_cases hdid : AsetDid so vs (qA - 1) (q8 - 1)
  · obtain ⟨t1, t2, rfl⟩ := inv_did hdid flD
    rw [vS_did hdid] at hT8 hbT8 hiT
    have hin := hdid.2.1
    k_steps
    k_extra "my_endP"
  · obtain ⟨t1, b1, t2, rfl⟩ := inv_not hdid flD
    rw [vS_not hdid] at hT8 hbT8 hiT
    k_steps
    k_extra "my_endP"
section
variable {prog : Program} {w : World} {A : Around} {E : Value → Shared → Prop} {s : Shared} {h₀ : Heap} {L : Addr} {m : Str → Option Value} {news : Led} {l : Addr} {v : Value} {k : Nat} {x : Int} {u : Tok} {Q : Value → Shared → Prop}
theorem my_mul (Fm : Fr h₀ L s.heap m) (N : News h₀ L s.heap news) (hm : (l, listOf [v].toArray k) ∈ news) (hlo : -200 ≤ x) (hhi : x ≤ 200)
    (h : ∀ D h', Fr h₀ L h' m → News h₀ L h' ((D, listOf (List.replicate x.toNat v).toArray 0) :: news) → (∀ p ∈ news, p.1 < D) → Q (.ref D) { s with heap := h' }) : wpAny (model prog w) A (binaryOp .Mult (.ref l) (.int x u)) Q E s :=
  KMa.mul Fm N (vs := [v]) ⟨_, (N _ hm).1, rfl, k, rfl⟩ (by omega) (by omega) (by simp only [List.length_singleton]; omega) (by simp) h
end
example : True := by
  k_with "@binaryOp Mult ref int" => ((k_here; (with_reducible show wpAny _ _ (binaryOp Operator.Mult (Value.ref _) _) _ _ _); k_dflt (refine' my_mul ?F ?N ?l ?lo ?hi ?_; (case F => k_asm); (case N => k_asm); (case l => k_mem); (case lo => k_extra "my_int"); (case hi => k_extra "my_int"); k_whole); intro D' h' F' N' l1; (try k_lt l1); (try k_sweep)))
  trivial
theorem hfill : Sort3 "list" := .inl rfl
theorem hvec3 : Sort3 "vector" := .inr (.inl rfl)
example : True := by
  k_with "my_dok" => (first | with_reducible exact dok_row hfill _ | with_reducible exact dok_row hvec3 _ | with_reducible exact dok_row (by with_reducible assumption) _ | exact dok_ss (by decide +kernel) (by decide +kernel) | exact dok_si (by decide +kernel) | exact List.forall_mem_nil _)
  trivial
/-- an iterator of a list, at its place -/
def ItAt (o : Obj) (ax : Addr) (i : Nat) : Prop := o.cls = .type "list_iterator" ∧ o.data = .fields #[.ref ax, .int i 0]
section
variable {prog : Program} {w : World} {A : Around} {E : Value → Shared → Prop} {s : Shared} {h₀ : Heap} {L I C D ax r : Addr} {m m₂ : Str → Option Value} {oI oC : Obj} {rest : Led} {vs : List Value} {i k kr : Nat} {v v1 v2 : Value} {env : Env}
theorem draw_it {Q : Option Value → Shared → Prop} (F : Fr h₀ L s.heap m) (N : News h₀ L s.heap ((I, oI) :: rest)) (hI : ItAt oI ax i) (hm : (ax, listOf vs.toArray k) ∈ rest) (off : ∀ p ∈ rest, p.1 ≠ I) (hv : vs[i]? = some v)
    (h : ∀ h' oI', ItAt oI' ax (i + 1) → Fr h₀ L h' m → News h₀ L h' ((I, oI') :: rest) → Q (some v) { s with heap := h' }) : wpAny (model prog w) A (pyNext (.ref I)) Q E s := by
  have hl : s.heap.IsList ax vs.toArray := ⟨_, (N _ (.tail _ hm)).1, rfl, k, rfl⟩
  refine wpAny_pyNext_list_item ⟨oI, (N _ (.head _)).1, hI.1, hI.2⟩ hl (by simpa using hv) fun h' hit' hs => ?_
  obtain ⟨oI', ho', hc', hd'⟩ := hit'
  exact h h' oI' ⟨hc', hd'⟩ (F.change hs (N _ (.head _)).2.1 (N _ (.head _)).2.2) (N.setHead off hs ho')
theorem draw_end {Q : Option Value → Shared → Prop} (hh : A.handled = none) (F : Fr h₀ L s.heap m) (N : News h₀ L s.heap ((I, oI) :: rest)) (hI : ItAt oI ax i) (hm : (ax, listOf vs.toArray k) ∈ rest) (off : ∀ p ∈ rest, p.1 ≠ I) (hv : vs.length ≤ i)
    (h : ∀ h', Fr h₀ L h' m → News h₀ L h' rest → Q none { s with heap := h' }) : wpAny (model prog w) A (pyNext (.ref I)) Q E s := by
  have hl : s.heap.IsList ax vs.toArray := ⟨_, (N _ (.tail _ hm)).1, rfl, k, rfl⟩
  refine wpAny_pyNext_list_end hh ⟨oI, (N _ (.head _)).1, hI.1, hI.2⟩ hl (by simpa using hv) fun h' he => ?_
  have hk : ∀ b o, b ∉ [I] → s.heap.get? b = some o → h'.get? b = some o := fun b o hb e => he b o (by simpa using hb) e
  exact h h' (LCg.fr_but F hk (Ne.symm (N _ (.head _)).2.1) (N _ (.head _)).2.2) (LCg.news_but (fun p hp => N p (.tail _ hp)) hk off)
theorem pair_C {x x₂ : Str} {px px₂ tp : Pos} {tk : Nat} {scope : Scope} {cl : List (Str × Addr)} {Q : Unit → Shared → Prop} (hh : A.handled = none) (F : Fr h₀ L s.heap m) (N : News h₀ L s.heap ((I, oI) :: (C, oC) :: rest)) (ho : LCg.NsObj oC m₂) (hr : (r, listOf [v1, v2].toArray kr) ∈ rest) (hIC : @Ne Nat I C) (offC : ∀ p ∈ rest, p.1 ≠ C)
    (hkind : scope.kind = .function) (hx : scope.names.lookup x = some .local) (hx₂ : scope.names.lookup x₂ = some .local) (hxx : x ≠ x₂)
    (h : ∀ h' tk' oC' m₃, LCg.NsObj oC' m₃ → m₃ x = some v1 → m₃ x₂ = some v2 → Fr h₀ L h' m → News h₀ L h' ((I, oI) :: (C, oC') :: rest) → Q () { s with heap := h', toks := tk' }) :
    wpAny (model prog w) A (assign (.Tuple [.Name x px, .Name x₂ px₂] tk tp) (compEnvC scope cl C env) (.ref r)) Q E s := by
  refine kun_list (items := [v1, v2].toArray) F N ⟨_, (N _ (.tail _ (.tail _ hr))).1, rfl, kr, rfl⟩ hh rfl rfl fun h1 F1 N1 => ?_
  refine assignInOrder_cons (wpAny_assign_Name (wpAny_storeName_local (lookup_relabel_local hx) (ho.ns (N1 _ (.tail _ (.head _))).1) (fun h2 n2 s2 => ?_) (by simp [compEnvC, relabel, hkind])))
  refine assignInOrder_cons (wpAny_assign_Name (wpAny_storeName_local (lookup_relabel_local hx₂) n2 (fun h3 n3 s3 => ?_) (by simp [compEnvC, relabel, hkind])))
  refine assignInOrder_nil ?_
  have s4 : Heap.SameBut C h1 h3 := s2.trans s3
  obtain ⟨oC', hC', hO'⟩ := LCg.ns_obj n3
  exact h h3 _ oC' _ hO' (by simp [hxx]) (by simp) (F1.change s4 (N1 _ (.tail _ (.head _))).2.1 (N1 _ (.tail _ (.head _))).2.2) (N1.setSecond hIC offC s4 hC')
/-- a turn of a comprehension's loop is done -/
def TurnC (h₀ : Heap) (L : Addr) (m : Str → Option Value) (s : Shared) (I : Addr) (oI : Obj) (C D : Addr) (Jn : List Value → Led → Prop) (s' : Shared) : Prop :=
  ∃ h' tk' oC' m' ys' nw', s' = { s with heap := h', toks := tk' } ∧ LCg.NsObj oC' m' ∧ Fr h₀ L h' m ∧ News h₀ L h' ((I, oI) :: (C, oC') :: (D, LCg.lst ys') :: nw') ∧ LCg.Off3 I C D nw' ∧ Jn ys' nw'
theorem loop_pairs {elt iter : Expr} {gens : List Comprehension} {x x₂ : Str} {px px₂ tp : Pos} {tk : Nat} {scope : Scope} {cl : List (Str × Addr)} {pos : Pos} {R : Result → Shared → Prop} {em : Sem Unit} {ys₀ : List Value} {nw₀ : Led} (J : Nat → List Value → Led → Prop)
    (hct : compTurn (.ListComp elt (⟨.Tuple [.Name x px, .Name x₂ px₂] tk tp, iter, [], 0⟩ :: gens) scope pos) 0 (.ref I) (.ref D) (compEnvC scope cl C env) = (standAt iter.pos >>= fun _ => pyNext (.ref I) >>= fun r => match r with
      | none => pure (.done .next)
      | some v => letOwnedTupleGo (.Tuple [.Name x px, .Name x₂ px₂] tk tp) (.ref I) v >>= fun _ => assign (.Tuple [.Name x px, .Name x₂ px₂] tk tp) (compEnvC scope cl C env) v >>= fun _ => em >>= fun _ =>
          again (.compLoop (.ListComp elt (⟨.Tuple [.Name x px, .Name x₂ px₂] tk tp, iter, [], 0⟩ :: gens) scope pos) 0 (.ref I) (.ref D) (compEnvC scope cl C env))))
    (hh : A.handled = none) (hkind : scope.kind = .function) (hx : scope.names.lookup x = some .local) (hx₂ : scope.names.lookup x₂ = some .local) (hxx : x ≠ x₂) (hIC : @Ne Nat I C) (hID : @Ne Nat I D) (hCD : @Ne Nat C D)
    (jm : ∀ i ys nw, J i ys nw → (ax, listOf vs.toArray k) ∈ nw) (jr : ∀ i ys nw, J i ys nw → i < vs.length → ∃ r v1 v2 kr, vs[i]? = some (.ref r) ∧ (r, listOf [v1, v2].toArray kr) ∈ nw)
    (hI : ItAt oI ax 0) (ho : LCg.NsObj oC m₂) (F : Fr h₀ L s.heap m) (N : News h₀ L s.heap ((I, oI) :: (C, oC) :: (D, LCg.lst ys₀) :: nw₀)) (off : LCg.Off3 I C D nw₀) (j0 : J 0 ys₀ nw₀)
    (turn : ∀ i ys nw r v1 v2 kr oI oC m₂ h tk (E' : Value → Shared → Prop), i < vs.length → J i ys nw → vs[i]? = some (.ref r) → (r, listOf [v1, v2].toArray kr) ∈ nw → LCg.NsObj oC m₂ → m₂ x = some v1 → m₂ x₂ = some v2 → Fr h₀ L h m → News h₀ L h ((I, oI) :: (C, oC) :: (D, LCg.lst ys) :: nw) → LCg.Off3 I C D nw →
      wpAny (model prog w) A em (fun _ s' => TurnC h₀ L m s I oI C D (J (i + 1)) s') E' { s with heap := h, toks := tk })
    (done : ∀ ys nw oC m₂ h tk, J vs.length ys nw → LCg.NsObj oC m₂ → Fr h₀ L h m → News h₀ L h ((C, oC) :: (D, LCg.lst ys) :: nw) → LCg.Off3 I C D nw → R (.ok .next) { s with heap := h, toks := tk }) :
    codeAny (model prog w) A (.compLoop (.ListComp elt (⟨.Tuple [.Name x px, .Name x₂ px₂] tk tp, iter, [], 0⟩ :: gens) scope pos) 0 (.ref I) (.ref D) (compEnvC scope cl C env)) R s := by
  have offI : ∀ (oC : Obj) (ys : List Value) (nw : Led), LCg.Off3 I C D nw → ∀ p ∈ (C, oC) :: (D, LCg.lst ys) :: nw, p.1 ≠ I := fun oC ys nw o p hp => by
    rcases List.mem_cons.mp hp with rfl | hp
    · exact Ne.symm hIC
    · rcases List.mem_cons.mp hp with rfl | hp
      · exact Ne.symm hID
      · exact (o.mem p hp).1
  have offC : ∀ (ys : List Value) (nw : Led), LCg.Off3 I C D nw → ∀ p ∈ (D, LCg.lst ys) :: nw, p.1 ≠ C := fun ys nw o p hp => by
    rcases List.mem_cons.mp hp with rfl | hp
    · exact Ne.symm hCD
    · exact (o.mem p hp).2.1
  refine codeAny_loop rfl (fun n s' => ∃ i h' tk' oI' oC' m' ys nw, n = vs.length + 1 - i ∧ i ≤ vs.length ∧ s' = { s with heap := h', toks := tk' } ∧ ItAt oI' ax i ∧ LCg.NsObj oC' m' ∧ Fr h₀ L h' m ∧ News h₀ L h' ((I, oI') :: (C, oC') :: (D, LCg.lst ys) :: nw) ∧ LCg.Off3 I C D nw ∧ J i ys nw) ?_ (vs.length + 1)
    ⟨0, s.heap, s.toks, oI, oC, m₂, ys₀, nw₀, rfl, Nat.zero_le _, rfl, hI, ho, F, N, off, j0⟩
  rintro n s' ⟨i, h', tk', oI', oC', m', ys, nw, rfl, hi, rfl, hI', ho', F', N', off', hJ⟩
  show wpAny _ A ((compTurn _ 0 (.ref I) (.ref D) (compEnvC scope cl C env)).onRaise (fun x => do noteFrame x _; theTreesLotGoes x)) _ _ _
  refine wpAny_noted ?_
  rw [hct]
  refine wpAny_bind (wpAny_standAt (wpAny_bind ?_))
  have hm' := jm _ _ _ hJ
  by_cases hlt : i < vs.length
  · obtain ⟨r, v1, v2, kr, hv, hr⟩ := jr _ _ _ hJ hlt
    refine draw_it F' N' hI' (.tail _ (.tail _ hm')) (offI _ _ _ off') hv fun h1 oI1 hI1 F1 N1 => ?_
    refine wpAny_bind (wpAny_letOwnedTupleGo_listiter ⟨oI1, (N1 _ (.head _)).1, hI1.1, hI1.2⟩ (wpAny_bind ?_))
    refine pair_C hh F1 N1 ho' (.tail _ hr) hIC (offC _ _ off') hkind hx hx₂ hxx fun h2 tk2 oC2 m3 hO2 e1 e2 F2 N2 => ?_
    refine wpAny_bind (wpAny_mono (turn i ys nw r v1 v2 kr oI1 oC2 m3 h2 tk2 _ hlt hJ hv hr hO2 e1 e2 F2 N2 off') (fun _ s4 h4 => ?_) fun _ _ e => e)
    obtain ⟨h5, tk5, oC5, m5, ys5, nw5, rfl, hO5, F5, N5, off5, hJ5⟩ := h4
    exact wpAny_pure ⟨rfl, vs.length + 1 - (i + 1), by omega, i + 1, h5, tk5, oI1, oC5, m5, ys5, nw5, rfl, hlt, rfl, hI1, hO5, F5, N5, off5, hJ5⟩
  · obtain rfl : i = vs.length := by omega
    refine draw_end hh F' N' hI' (.tail _ (.tail _ hm')) (offI _ _ _ off') (Nat.le_refl _) fun h1 F1 N1 => ?_
    exact wpAny_pure (done ys nw oC' m' h1 _ hJ ho' F1 N1 off')
end
section
variable {prog : Program} {w : World} {A : Around} {E : Value → Shared → Prop} {s : Shared} {h₀ : Heap} {L ax : Addr} {m : Str → Option Value} {news : Led} {vs : List Value} {k : Nat} {env : Env}
theorem Assign_comp2 {elt iter : Expr} {gens : List Comprehension} {x x₂ y : Str} {px px₂ tp py : Pos} {tk : Nat} {scope : Scope} {cl : List (Str × Addr)} {pos spos : Pos} {Q : Flow → Shared → Prop} (J : Nat → List Value → Led → Prop) (em : Addr → Addr → Addr → Sem Unit)
    (F : Fr h₀ env.locals s.heap m) (N : News h₀ env.locals s.heap news) (hh : A.handled = none)
    (hev : wpAny (model prog w) A (eval iter env) (fun v s' => v = .ref ax ∧ s' = s) E s)
    (hsw : swapsWith (.ListComp elt (⟨.Tuple [.Name x px, .Name x₂ px₂] tk tp, iter, [], 0⟩ :: gens) scope pos) (some (.Name y py)) spos.line env = pure true)
    (hclos : closureFor scope env = pure cl) (hcell : ∀ z ∈ scope.names, z.2 ≠ .cell) (hkind : scope.kind = .function)
    (hnames : ∀ z ∈ scope.names, z.2 = .local → scope.names.lookup z.1 = some .local) (hx : scope.names.lookup x = some .local) (hx₂ : scope.names.lookup x₂ = some .local) (hxx : x ≠ x₂)
    (hy : env.kindOf y = some .local) (hp : (env.scope.kind == .class || (env.scope.kind == .module && env.locals != env.globals)) = false)
    (hct : ∀ I C D, compTurn (.ListComp elt (⟨.Tuple [.Name x px, .Name x₂ px₂] tk tp, iter, [], 0⟩ :: gens) scope pos) 0 (.ref I) (.ref D) (compEnvC scope cl C env) = (standAt iter.pos >>= fun _ => pyNext (.ref I) >>= fun r => match r with
      | none => pure (.done .next)
      | some v => letOwnedTupleGo (.Tuple [.Name x px, .Name x₂ px₂] tk tp) (.ref I) v >>= fun _ => assign (.Tuple [.Name x px, .Name x₂ px₂] tk tp) (compEnvC scope cl C env) v >>= fun _ => em I C D >>= fun _ =>
          again (.compLoop (.ListComp elt (⟨.Tuple [.Name x px, .Name x₂ px₂] tk tp, iter, [], 0⟩ :: gens) scope pos) 0 (.ref I) (.ref D) (compEnvC scope cl C env))))
    (jm : ∀ i ys nw, J i ys nw → (ax, listOf vs.toArray k) ∈ nw) (jr : ∀ i ys nw, J i ys nw → i < vs.length → ∃ r v1 v2 kr, vs[i]? = some (.ref r) ∧ (r, listOf [v1, v2].toArray kr) ∈ nw)
    (j0 : J 0 [] news)
    (turn : ∀ g t i ys nw r v1 v2 kr I oI C oC D m₂ h tk (E' : Value → Shared → Prop), i < vs.length → J i ys nw → vs[i]? = some (.ref r) → (r, listOf [v1, v2].toArray kr) ∈ nw → LCg.NsObj oC m₂ → m₂ x = some v1 → m₂ x₂ = some v2 → Fr h₀ env.locals h m → News h₀ env.locals h ((I, oI) :: (C, oC) :: (D, LCg.lst ys) :: nw) → LCg.Off3 I C D nw → ((@Ne Nat I C) ∧ (@Ne Nat I D) ∧ (@Ne Nat C D)) →
      wpAny (model prog w) A (em I C D) (fun _ s' => TurnC h₀ env.locals m { s with heap := g, toks := t } I oI C D (J (i + 1)) s') E' { s with heap := h, toks := tk })
    (done : ∀ ys nw D h tk, J vs.length ys nw → Fr h₀ env.locals h (fun z => if z = y then some (.ref D) else m z) → News h₀ env.locals h ((D, LCg.lst ys) :: nw) → (∀ p ∈ nw, p.1 ≠ D) → Q .next { s with heap := h, toks := tk })
    (hs : ∀ x, foldedSetIterable iter env x = pure x := by intro _; rfl) :
    wpAny (model prog w) A (exec (.Assign [.Name y py] (.ListComp elt (⟨.Tuple [.Name x px, .Name x₂ px₂] tk tp, iter, [], 0⟩ :: gens) scope pos) spos) env) Q E s := by
  rw [exec_Assign_Name_used _ _ _ _ hsw]
  refine wpAny_bind (wpAny_standAt (wpAny_bind ?_))
  show wpAny _ A (do let _ ← comprehension (.ListComp elt (⟨.Tuple [.Name x px, .Name x₂ px₂] tk tp, iter, [], 0⟩ :: gens) scope pos) scope env _ (newList []) false (eval iter env) (some (assign (.Name y py) env))) _ _ s
  refine wpAny_bind (wpAny_mono (wpAny_comprehension_free (use := some (assign (.Name y py) env)) (Q := fun _ s' => Q .next s') rfl hs hclos hkind hnames
    (wpAny_mono hev (fun xv s₁ h₁ => ?_) fun _ _ e => e)) (fun _ s' hq => wpAny_pure (wpAny_pure hq)) fun _ _ e => e)
  obtain ⟨rfl, rfl⟩ := h₁
  have hl : s₁.heap.IsList ax vs.toArray := ⟨_, (N _ (jm _ _ _ j0)).1, rfl, k, rfl⟩
  have grow : ∀ {h : Heap} {nw : Led} {o : Obj}, o.isFreed = false → Fr h₀ env.locals h m → News h₀ env.locals h nw → News h₀ env.locals (h.push o) ((h.objs.size, o) :: nw) := fun ho F N p hp => by
    rcases List.mem_cons.mp hp with rfl | hp
    · exact ⟨Heap.get?_push_size _ ho, Ne.symm (Nat.ne_of_lt F.ns.lt), next_is_new F⟩
    · exact ⟨Heap.get?_push_of_some _ (N p hp).1, (N p hp).2⟩
  refine wpAny_pyIter_list hl ?_
  have F1 := F.push { cls := .type "list_iterator", data := .fields #[.ref ax, .int 0 0] }
  have N1 := grow (o := { cls := .type "list_iterator", data := .fields #[.ref ax, .int 0 0] }) rfl F N
  have hlt1 : ∀ p ∈ news, p.1 < s₁.heap.objs.size := fun p hp => Heap.lt_size (N p hp).1
  have hz1 : (s₁.heap.push { cls := .type "list_iterator", data := .fields #[.ref ax, .int 0 0] }).objs.size = s₁.heap.objs.size + 1 := Heap.size_push _ _
  generalize hg1 : s₁.heap.push { cls := .type "list_iterator", data := .fields #[.ref ax, .int 0 0] } = g1 at F1 N1 hz1 ⊢
  refine wpAny_newObj_type ?_
  have F2 := F1.push { cls := .type "list", dict := none, data := .seq ([] : List Value).toArray }
  have N2 := grow (o := { cls := .type "list", dict := none, data := .seq ([] : List Value).toArray }) rfl F1 N1
  have hz2 : (g1.push { cls := .type "list", dict := none, data := .seq ([] : List Value).toArray }).objs.size = g1.objs.size + 1 := Heap.size_push _ _
  try dsimp only
  generalize hg2 : g1.push { cls := .type "list", dict := none, data := .seq ([] : List Value).toArray } = g2 at F2 N2 hz2 ⊢
  refine wpAny_newFunctionEnv hcell (by intro y hy; simp at hy) (fun h₁ hns₁ hsb₁ => ?_) hkind
  dsimp only at hns₁ hsb₁ ⊢
  have keep : ∀ b o, g2.get? b = some o → h₁.get? b = some o := fun b o e => (hsb₁.2 b (Nat.ne_of_lt (Heap.lt_size e))).trans (Heap.get?_push_of_some _ e)
  have F3 : Fr h₀ env.locals h₁ m := F2.keeps keep
  obtain ⟨oC, hoC, hO⟩ := LCg.ns_obj hns₁
  have N3 : News h₀ env.locals h₁ ((s₁.heap.objs.size, { cls := .type "list_iterator", data := .fields #[.ref ax, .int 0 0] }) :: (g2.objs.size, oC) :: (g1.objs.size, LCg.lst []) :: news) := fun p hp => by
    rcases List.mem_cons.mp hp with rfl | hp
    · exact (N2.grown keep) _ (.tail _ (.head _))
    · rcases List.mem_cons.mp hp with rfl | hp
      · exact ⟨hoC, Ne.symm (Nat.ne_of_lt F2.ns.lt), next_is_new F2⟩
      · rcases List.mem_cons.mp hp with rfl | hp
        · exact (N2.grown keep) _ (.head _)
        · exact (N2.grown keep) _ (.tail _ (.tail _ hp))
  have hIC : @Ne Nat s₁.heap.objs.size g2.objs.size := by show _ ≠ _; omega
  have hID : @Ne Nat s₁.heap.objs.size g1.objs.size := by show _ ≠ _; omega
  have hCD : @Ne Nat g2.objs.size g1.objs.size := by show _ ≠ _; omega
  have off3 : LCg.Off3 s₁.heap.objs.size g2.objs.size g1.objs.size news := LCg.Off3.of fun p hp => by
    have q : @LT.lt Nat _ p.1 s₁.heap.objs.size := hlt1 p hp
    exact ⟨Nat.ne_of_lt q, Nat.ne_of_lt (by omega), Nat.ne_of_lt (by omega)⟩
  have loop : ∀ (I : Addr) (s₃ : Shared), I = s₁.heap.objs.size → (∃ t, s₃ = { s₁ with heap := h₁, toks := t }) → codeAny (model prog w) A (.compLoop (.ListComp elt (⟨.Tuple [.Name x px, .Name x₂ px₂] tk tp, iter, [], 0⟩ :: gens) scope pos) 0 (.ref I) (.ref g1.objs.size) (compEnvC scope cl g2.objs.size env))
      (compPost (model prog w) A E (some (assign (.Name y py) env)) (fun _ s' => Q .next s') (.ref g1.objs.size) g2.objs.size) s₃ := by
    rintro I s₃ rfl ⟨t₃, rfl⟩
    refine loop_pairs J (hct _ _ _) hh hkind hx hx₂ hxx hIC hID hCD jm jr ⟨rfl, rfl⟩ hO F3 N3 off3 j0 (fun i ys nw r v1 v2 kr oI oC m₂ h tk E' a b c d e f g1' F' N' o' => turn _ _ i ys nw r v1 v2 kr _ oI _ oC _ m₂ h tk E' a b c d e f g1' F' N' o' ⟨hIC, hID, hCD⟩) ?_
    intro ys nw oC' m₂ h tk hJ hO' F' N' o'
    show wpAny _ A (assign (.Name y py) env (.ref g1.objs.size)) _ _ _
    refine wpAny_assign_Name (wpAny_storeName_local hy F'.ns (fun h₂ hn₂ hs₂ => ?_) hp)
    have F₂ := F'.set hn₂ hs₂
    have N₂ := N'.set hs₂
    refine ⟨m₂, hO'.ns (N₂ _ (.head _)).1, fun h'' hs'' => ?_⟩
    have zC := N₂ _ (.head _)
    refine done ys nw g1.objs.size h'' _ hJ (F₂.change hs'' zC.2.1 zC.2.2) (fun p hp => ?_) fun p hp => (o'.mem p hp).2.2
    have z := N₂ p (.tail _ hp)
    refine ⟨(hs''.2 _ ?_).trans z.1, z.2⟩
    rcases List.mem_cons.mp hp with rfl | hp
    · exact Ne.symm hCD
    · exact (o'.mem p hp).2.1
  have hit : ∀ s₃ : Shared, s₃.heap = h₁ → s₃.heap.IsListIter s₁.heap.objs.size ax 0 := fun s₃ e => by rw [e]; exact ⟨_, (N3 _ (.head _)).1, rfl, rfl⟩
  exact codeAny_compStart_list (loop _ _ rfl ⟨_, rfl⟩) (wpAny_pyIter_listiter (hit _ rfl) (loop _ _ rfl ⟨_, rfl⟩))
end
section
variable {prog : Program} {w : World} {A : Around} {E : Value → Shared → Prop} {s : Shared} {h₀ : Heap} {L I C D l : Addr} {m m₂ : Str → Option Value} {oI oC : Obj} {nw : Led} {us : List Value} {k : Nat} {env : Env} {scope : Scope} {cl : List (Str × Addr)} {ys : List Value}
/-- what one clause alone does in a turn -/
theorem em_one {elt : Expr} {Jn : List Value → Led → Prop} {h : Heap} {tk : Nat} (hl : ys.length ≤ 1000) (hC : LCg.NsObj oC m₂) (hCD : @Ne Nat C D) (hID : @Ne Nat I D)
    (x : wpAny (model prog w) A (eval elt (compEnvC scope cl C env)) (LCg.CompEnd h₀ L m { s with heap := h, toks := tk } I oI C oC D (LCg.lst ys) (fun _ => True) (fun y nw' => Jn (ys ++ [y]) nw')) E { s with heap := h, toks := tk }) :
    wpAny (model prog w) A (eval elt (compEnvC scope cl C env) >>= fun x => call (.builtin "list.append") [.ref D, x] >>= fun _ => pure ()) (fun _ s' => TurnC h₀ L m s I oI C D Jn s') E { s with heap := h, toks := tk } := by
  refine wpAny_bind (wpAny_mono x (fun y s₁ h₁ => ?_) fun _ _ e => e)
  obtain ⟨h1, tk1, nw1, rfl, F1, N1, off1, _, hJ⟩ := h₁
  have zD := N1 (D, LCg.lst ys) (.tail _ (.tail _ (.head _)))
  refine wpAny_bind (append_at (hsz := by simp only [List.size_toArray, PySem.sizeLine_eq]; omega) zD.1 fun h2 hs2 hD2 => wpAny_pure ?_)
  have N2 : News h₀ L h2 ((D, LCg.lst (ys ++ [y])) :: (I, oI) :: (C, oC) :: nw1) := fun p hp => by
    have off4 := off1.mem
    rcases List.mem_cons.mp hp with rfl | hp
    · exact ⟨hD2.trans (congrArg some (LCg.lst_snoc ys y)), zD.2⟩
    · have z : p ∈ (I, oI) :: (C, oC) :: (D, LCg.lst ys) :: nw1 ∧ p.1 ≠ D := by
        rcases List.mem_cons.mp hp with rfl | hp
        · exact ⟨.head _, hID⟩
        · rcases List.mem_cons.mp hp with rfl | hp
          · exact ⟨.tail _ (.head _), hCD⟩
          · exact ⟨.tail _ (.tail _ (.tail _ hp)), (off4 p hp).2.2⟩
      exact ⟨(hs2.2 _ z.2).trans (N1 p z.1).1, (N1 p z.1).2⟩
  refine ⟨h2, tk1, oC, m₂, ys ++ [y], nw1, rfl, hC, F1.change hs2 zD.2.1 zD.2.2, fun p hp => N2 p ?_, off1, hJ⟩
  rcases List.mem_cons.mp hp with rfl | hp
  · exact .tail _ (.head _)
  · rcases List.mem_cons.mp hp with rfl | hp
    · exact .tail _ (.tail _ (.head _))
    · rcases List.mem_cons.mp hp with rfl | hp
      · exact .head _
      · exact .tail _ (.tail _ (.tail _ hp))
/-- the second clause: the numbers of one row -/
theorem em_two {x x₂ z : Str} {px px₂ tp pz pz2 pn : Pos} {tk0 : Nat} {iter : Expr} {pos : Pos} {Jn : List Value → Led → Prop} {h : Heap} {tk : Nat} (hh : A.handled = none) (hh2 : (A.mark none).handled = none) (hl : ys.length + us.length ≤ 1000) (hC : LCg.NsObj oC m₂) (he : m₂ x₂ = some (.ref l)) (hm : (l, listOf us.toArray k) ∈ nw)
    (hkind : scope.kind = .function) (hz : scope.names.lookup z = some .local) (hx₂ : scope.names.lookup x₂ = some .local) (hdX : (x₂ == ("__debug__" : Str)) = false) (hdz : (z == ("__debug__" : Str)) = false)
    (F : Fr h₀ L h m) (N : News h₀ L h ((I, oI) :: (C, oC) :: (D, LCg.lst ys) :: nw)) (off : LCg.Off3 I C D nw) (ne : (@Ne Nat I C) ∧ (@Ne Nat I D) ∧ (@Ne Nat C D)) (j : Jn (ys ++ us) nw) :
    wpAny (model prog w) A (eval (.Name x₂ pn) (compEnvC scope cl C env) >>= fun x' => standAt (Expr.Name x₂ pn).pos >>= fun _ => foldedSetIterable (.Name x₂ pn) (compEnvC scope cl C env) x' >>= fun x' => holding [x'] (pyIter x') >>= fun it =>
        runOwn (.compStart (.ListComp (.Name z pz2) [⟨.Tuple [.Name x px, .Name x₂ px₂] tk0 tp, iter, [], 0⟩, ⟨.Name z pz, .Name x₂ pn, [], 0⟩] scope pos) 1 it (.ref D) (compEnvC scope cl C env)) (compEnvC scope cl C env) >>= fun _ => pure ())
      (fun _ s' => TurnC h₀ L m s I oI C D Jn s') E { s with heap := h, toks := tk } := by
  have hck : (compEnvC scope cl C env).scope.kind = .function := hkind
  have hkl : (compEnvC scope cl C env).kindOf x₂ = some .local := lookup_relabel_local hx₂
  have hkz : (compEnvC scope cl C env).kindOf z = some .local := lookup_relabel_local hz
  refine wpAny_bind (LCgL.ld_own N (.tail _ (.head _)) hC he ?_ hck hkl hdX)
  refine wpAny_bind (wpAny_standAt (wpAny_bind (wpAny_of_eq rfl ?_)))
  have hl0 : h.IsList l us.toArray := ⟨_, (N _ (.tail _ (.tail _ (.tail _ hm)))).1, rfl, k, rfl⟩
  refine wpAny_bind (wpAny_holding (wpAny_pyIter_list hl0 ?_))
  have F1 := F.push { cls := .type "list_iterator", data := .fields #[.ref l, .int 0 0] }
  have N1 : News h₀ L (h.push { cls := .type "list_iterator", data := .fields #[.ref l, .int 0 0] }) ((h.objs.size, { cls := .type "list_iterator", data := .fields #[.ref l, .int 0 0] }) :: (I, oI) :: (C, oC) :: (D, LCg.lst ys) :: nw) := fun p hp => by
    rcases List.mem_cons.mp hp with rfl | hp
    · exact ⟨Heap.get?_push_size _ rfl, Ne.symm (Nat.ne_of_lt F.ns.lt), next_is_new F⟩
    · exact ⟨Heap.get?_push_of_some _ (N p hp).1, (N p hp).2⟩
  have lt1 : ∀ p ∈ (I, oI) :: (C, oC) :: (D, LCg.lst ys) :: nw, @LT.lt Nat _ p.1 h.objs.size := fun p hp => Heap.lt_size (N p hp).1
  have hI2 : ItAt { cls := .type "list_iterator", data := .fields #[.ref l, .int 0 0] } l 0 := ⟨rfl, rfl⟩
  generalize ({ cls := .type "list_iterator", data := .fields #[.ref l, .int 0 0] } : Obj) = oI2 at F1 N1 hI2 ⊢
  have hDs : ∀ p ∈ (I, oI) :: (C, oC) :: (D, LCg.lst ys) :: nw, p.1 ≠ h.objs.size := fun p hp => Nat.ne_of_lt (lt1 p hp)
  have hIC : @Ne Nat h.objs.size C := Ne.symm (hDs _ (.tail _ (.head _)))
  generalize h.objs.size = I2 at N1 hDs hIC ⊢
  generalize h.push oI2 = g1 at F1 N1 ⊢
  clear F N lt1 hl0
  have offI : ∀ (oC : Obj) (zs : List Value), ∀ p ∈ (I, oI) :: (C, oC) :: (D, LCg.lst zs) :: nw, p.1 ≠ I2 := fun oC' zs p hp => by
    rcases List.mem_cons.mp hp with rfl | hp
    · exact hDs _ (.head _)
    · rcases List.mem_cons.mp hp with rfl | hp
      · exact hDs (C, oC) (.tail _ (.head _))
      · rcases List.mem_cons.mp hp with rfl | hp
        · exact hDs (D, LCg.lst ys) (.tail _ (.tail _ (.head _)))
        · exact hDs p (.tail _ (.tail _ (.tail _ hp)))
  refine wpAny_bind (wpAny_runOwn ?_)
  have loop : ∀ s₃ : Shared, (∃ t, s₃ = { s with heap := g1, toks := t }) → codeAny (model prog w) (A.mark none) (.compLoop (.ListComp (.Name z pz2) [⟨.Tuple [.Name x px, .Name x₂ px₂] tk0 tp, iter, [], 0⟩, ⟨.Name z pz, .Name x₂ pn, [], 0⟩] scope pos) 1 (.ref I2) (.ref D) (compEnvC scope cl C env))
      (fun r s' => match r with | .ok f => wpAny (model prog w) A (pure () : Sem Unit) (fun _ s' => TurnC h₀ L m s I oI C D Jn s') E s' | .error e => cameBackBy (model prog w) A (compEnvC scope cl C env) E e s') s₃ := by
    rintro s₃ ⟨t₃, rfl⟩
    refine codeAny_loop rfl (fun n s' => ∃ i h' tk' oI' oC' m', n = us.length + 1 - i ∧ i ≤ us.length ∧ s' = { s with heap := h', toks := tk' } ∧ ItAt oI' l i ∧ LCg.NsObj oC' m' ∧ Fr h₀ L h' m ∧ News h₀ L h' ((I2, oI') :: (I, oI) :: (C, oC') :: (D, LCg.lst (ys ++ us.take i)) :: nw)) ?_ (us.length + 1)
      ⟨0, g1, _, oI2, oC, m₂, rfl, Nat.zero_le _, rfl, hI2, hC, F1, by simpa using N1⟩
    rintro n s' ⟨i, h', tk', oI', oC', m', rfl, hi, rfl, hI', ho', F', N'⟩
    show wpAny _ _ ((compTurn _ 1 (.ref I2) (.ref D) (compEnvC scope cl C env)).onRaise (fun x => do noteFrame x _; theTreesLotGoes x)) _ _ _
    refine wpAny_noted ?_
    rw [show compTurn (.ListComp (.Name z pz2) [⟨.Tuple [.Name x px, .Name x₂ px₂] tk0 tp, iter, [], 0⟩, ⟨.Name z pz, .Name x₂ pn, [], 0⟩] scope pos) 1 (.ref I2) (.ref D) (compEnvC scope cl C env) = (standAt (Expr.Name x₂ pn).pos >>= fun _ => pyNext (.ref I2) >>= fun r => match r with
      | none => pure (.done .next)
      | some v => letOwnedTupleGo (.Name z pz) (.ref I2) v >>= fun _ => assign (.Name z pz) (compEnvC scope cl C env) v >>= fun _ => (eval (.Name z pz2) (compEnvC scope cl C env) >>= fun x => call (.builtin "list.append") [.ref D, x] >>= fun _ => pure ()) >>= fun _ =>
          again (.compLoop (.ListComp (.Name z pz2) [⟨.Tuple [.Name x px, .Name x₂ px₂] tk0 tp, iter, [], 0⟩, ⟨.Name z pz, .Name x₂ pn, [], 0⟩] scope pos) 1 (.ref I2) (.ref D) (compEnvC scope cl C env))) from rfl]
    refine wpAny_bind (wpAny_standAt (wpAny_bind ?_))
    by_cases hlt : i < us.length
    · have hv : us[i]? = some us[i] := List.getElem?_eq_getElem hlt
      refine draw_it F' N' hI' (.tail _ (.tail _ (.tail _ hm))) (offI _ _) hv fun h1 oI1 hI1 F1 N1 => ?_
      refine wpAny_bind (wpAny_of_eq rfl (wpAny_bind ?_))
      refine wpAny_assign_Name (wpAny_storeName_local hkz (ho'.ns (N1 _ (.tail _ (.tail _ (.head _)))).1) (fun h2 n2 s2 => ?_) (by simp [compEnvC, relabel, hkind]))
      obtain ⟨oC2, hC2, hO2⟩ := LCg.ns_obj n2
      have zC := N1 (C, oC') (.tail _ (.tail _ (.head _)))
      have off4 := off.mem
      have F2 := F1.change s2 zC.2.1 zC.2.2
      have N2 : News h₀ L h2 ((I2, oI1) :: (I, oI) :: (C, oC2) :: (D, LCg.lst (ys ++ us.take i)) :: nw) := fun p hp => by
        rcases List.mem_cons.mp hp with rfl | hp
        · exact ⟨(s2.2 _ hIC).trans (N1 _ (.head _)).1, (N1 _ (.head _)).2⟩
        · rcases List.mem_cons.mp hp with rfl | hp
          · exact ⟨(s2.2 _ ne.1).trans (N1 _ (.tail _ (.head _))).1, (N1 _ (.tail _ (.head _))).2⟩
          · rcases List.mem_cons.mp hp with rfl | hp
            · exact ⟨hC2, zC.2⟩
            · have z := N1 p (.tail _ (.tail _ (.tail _ hp)))
              refine ⟨(s2.2 _ ?_).trans z.1, z.2⟩
              rcases List.mem_cons.mp hp with rfl | hp
              · exact Ne.symm ne.2.2
              · exact (off4 p hp).2.1
      refine wpAny_bind (wpAny_bind (LCgL.ld_own N2 (.tail _ (.tail _ (.head _))) hO2 (v := us[i]) (by simp) ?_ hck hkz hdz))
      have zD := N2 (D, LCg.lst (ys ++ us.take i)) (.tail _ (.tail _ (.tail _ (.head _))))
      refine wpAny_bind (append_at (hsz := by simp only [List.size_toArray, PySem.sizeLine_eq, List.length_append, List.length_take]; omega) zD.1 fun h3 hs3 hD3 => wpAny_pure (wpAny_pure ?_))
      refine ⟨rfl, us.length + 1 - (i + 1), by omega, i + 1, h3, _, oI1, oC2, _, rfl, hlt, rfl, hI1, hO2, F2.change hs3 zD.2.1 zD.2.2, fun p hp => ?_⟩
      rcases List.mem_cons.mp hp with rfl | hp
      · exact ⟨(hs3.2 _ (Ne.symm (offI oC2 ys _ (.tail _ (.tail _ (.head _)))))).trans (N2 _ (.head _)).1, (N2 _ (.head _)).2⟩
      · rcases List.mem_cons.mp hp with rfl | hp
        · exact ⟨(hs3.2 _ ne.2.1).trans (N2 _ (.tail _ (.head _))).1, (N2 _ (.tail _ (.head _))).2⟩
        · rcases List.mem_cons.mp hp with rfl | hp
          · exact ⟨(hs3.2 _ ne.2.2).trans (N2 _ (.tail _ (.tail _ (.head _)))).1, (N2 _ (.tail _ (.tail _ (.head _)))).2⟩
          · rcases List.mem_cons.mp hp with rfl | hp
            · refine ⟨hD3.trans (congrArg some ?_), zD.2⟩
              rw [List.take_add_one, hv, ← List.append_assoc]
              exact LCg.lst_snoc _ _
            · have z := N2 p (.tail _ (.tail _ (.tail _ (.tail _ hp))))
              exact ⟨(hs3.2 _ (off4 p hp).2.2).trans z.1, z.2⟩
    · obtain rfl : i = us.length := by omega
      refine draw_end hh2 F' N' hI' (.tail _ (.tail _ (.tail _ hm))) (offI _ _) (Nat.le_refl _) fun h1 F1 N1 => ?_
      rw [List.take_length] at N1
      exact wpAny_pure (wpAny_pure ⟨h1, _, oC', m', ys ++ us, nw, rfl, ho', F1, N1, off, j⟩)
  have itA : g1.IsListIter I2 l 0 := ⟨oI2, (N1 _ (.head _)).1, hI2.1, hI2.2⟩
  refine codeAny_of_tree ?_
  show wpAny _ _ ((compStart _ 1 (.ref I2) (.ref D) (compEnvC scope cl C env)).onRaise (fun x => do noteFrame x _; standAt theWindowsPlace)) _ _ _
  refine wpAny_notedAt ?_
  unfold compStart
  show wpAny _ _ (ask >>= _) _ _ _
  refine wpAny_bind (wpAny_askSetting (wpAny_ite ?_))
  split
  · exact wpAny_pure (And.intro rfl (loop _ ⟨_, rfl⟩))
  · exact wpAny_bind (wpAny_rule (wpAny_bind (wpAny_standAt (wpAny_bind (wpAny_pyIter_listiter itA (wpAny_pure (And.intro rfl (loop _ ⟨_, rfl⟩))))))))
end
section
variable {prog : Program} {w : World} {A : Around} {E : Value → Shared → Prop} {s : Shared} {hS : Heap} {gS : Array GenState} {dS : Drawn} {tS : Nat} {oS : OsState} {h₀ : Heap} {ax : Addr} {m₀ : Str → Option Value} {news : Led} {vs : List Value} {k : Nat} {env : Env}
theorem For_pairs0 {iter : Expr} {body : List Stmt} {x x₂ : Str} {px px₂ tp pos : Pos} {tk0 : Nat} {Q : Flow → Shared → Prop} (J : Nat → (Str → Option Value) → Led → Prop) (hh : A.handled = none)
    (F : Fr h₀ env.locals s.heap m₀) (N : News h₀ env.locals s.heap news)
    (hev : wpAny (model prog w) A (eval iter env) (fun v s' => v = .ref ax ∧ s' = s) E s)
    (hx : env.kindOf x = some .local) (hx₂ : env.kindOf x₂ = some .local) (hp : (env.scope.kind == .class || (env.scope.kind == .module && env.locals != env.globals)) = false)
    (jm : ∀ i m nw, J i m nw → (ax, listOf vs.toArray k) ∈ nw) (jr : ∀ i m nw, J i m nw → i < vs.length → ∃ r v1 v2 kr, vs[i]? = some (.ref r) ∧ (r, listOf [v1, v2].toArray kr) ∈ nw) (j0 : J 0 m₀ news)
    (turn : ∀ I it i r v1 v2 kr m₁ news₁ h tk, i < vs.length → vs[i]? = some (.ref r) → (r, listOf [v1, v2].toArray kr) ∈ news₁ → J i m₁ news₁ → (∀ p ∈ news₁, p.1 ≠ I) → Fr h₀ env.locals h (fun y => if y = x₂ then some v2 else if y = x then some v1 else m₁ y) → News h₀ env.locals h ((I, it) :: news₁) →
      wpAny (model prog w) A (execs body env) (TurnP h₀ env.locals s.gens s.drawn s.os I it (J (i + 1)) Q) E { s with heap := h, toks := tk })
    (done : ∀ m₁ news₁ h tk, J vs.length m₁ news₁ → Fr h₀ env.locals h m₁ → News h₀ env.locals h news₁ → Q .next { s with heap := h, toks := tk })
    (hs : ∀ x, foldedSetIterable iter env x = pure x := by intro _; rfl) (hE : PassesOwn (model prog w) A env E := by passes_own) :
    wpAny (model prog w) A (exec (.For (.Tuple [.Name x px, .Name x₂ px₂] tk0 tp) iter body [] pos) env) Q E s := by
  refine wpAny_For (wpAny_mono hev (fun xv s₁ h₁ => ?_) fun _ _ e => e) hs
  obtain ⟨rfl, rfl⟩ := h₁
  have hl : s₁.heap.IsList ax vs.toArray := ⟨_, (N _ (jm _ _ _ j0)).1, rfl, k, rfl⟩
  refine wpAny_pyIter_list hl ?_
  have F1 := F.push { cls := .type "list_iterator", data := .fields #[.ref ax, .int 0 0] }
  have N1 : News h₀ env.locals (s₁.heap.push { cls := .type "list_iterator", data := .fields #[.ref ax, .int 0 0] }) ((s₁.heap.objs.size, { cls := .type "list_iterator", data := .fields #[.ref ax, .int 0 0] }) :: news) := fun p hp => by
    rcases List.mem_cons.mp hp with rfl | hp
    · exact ⟨Heap.get?_push_size _ rfl, Ne.symm (Nat.ne_of_lt F.ns.lt), next_is_new F⟩
    · exact ⟨Heap.get?_push_of_some _ (N p hp).1, (N p hp).2⟩
  have off1 : ∀ p ∈ news, p.1 ≠ s₁.heap.objs.size := fun p hp => Nat.ne_of_lt (Heap.lt_size (N p hp).1)
  generalize s₁.heap.objs.size = I at N1 off1 ⊢
  refine codeAny_forLoop_any (R := fun r s' => match r with | .ok f => Q f s' | .error e => cameBackBy (model prog w) A env E e s') (fun n s' => ∃ i h' tk' it m' nw, n = vs.length + 1 - i ∧ i ≤ vs.length ∧ s' = { s₁ with heap := h', toks := tk' } ∧ ItAt it ax i ∧ Fr h₀ env.locals h' m' ∧ News h₀ env.locals h' ((I, it) :: nw) ∧ (∀ p ∈ nw, p.1 ≠ I) ∧ J i m' nw) ?_ (vs.length + 1)
    ⟨0, _, _, _, m₀, news, rfl, Nat.zero_le _, rfl, ⟨rfl, rfl⟩, F1, N1, off1, j0⟩
  rintro n s' ⟨i, h', tk', it, m', nw, rfl, hi, rfl, hI, F', N', off, hJ⟩
  have hm := jm _ _ _ hJ
  by_cases hlt : i < vs.length
  · obtain ⟨r, v1, v2, kr, hv, hr⟩ := jr _ _ _ hJ hlt
    refine draw_it F' N' hI hm off hv fun h1 it1 hI1 F1 N1 => ?_
    refine wpAny_letOwnedTupleGo_listiter ⟨it1, (N1 _ (.head _)).1, hI1.1, hI1.2⟩ ?_
    refine kun_list (items := [v1, v2].toArray) F1 N1 ⟨_, (N1 _ (.tail _ hr)).1, rfl, kr, rfl⟩ hh rfl rfl fun h2 F2 N2 => ?_
    refine assignInOrder_cons (wpAny_assign_Name (wpAny_storeName_local hx F2.ns (fun h3 n3 s3 => ?_) hp))
    have F3 := F2.set n3 s3
    have N3 := N2.set s3
    refine assignInOrder_cons (wpAny_assign_Name (wpAny_storeName_local hx₂ F3.ns (fun h4 n4 s4 => ?_) hp))
    have F4 := F3.set n4 s4
    have N4 := N3.set s4
    refine assignInOrder_nil ?_
    refine wpAny_mono (wpAny_passesOwn hE (turn I it1 i r v1 v2 kr m' nw h4 _ hlt hv hr hJ off F4 N4)) (fun f s5 h5 => ?_) fun _ _ e => e
    have fin : TurnE h₀ env.locals s₁.gens s₁.drawn s₁.os I it1 (J (i + 1)) s5 → ∃ m, m < vs.length + 1 - i ∧ ∃ i h' tk' it m' nw, m = vs.length + 1 - i ∧ i ≤ vs.length ∧ s5 = { s₁ with heap := h', toks := tk' } ∧ ItAt it ax i ∧ Fr h₀ env.locals h' m' ∧ News h₀ env.locals h' ((I, it) :: nw) ∧ (∀ p ∈ nw, p.1 ≠ I) ∧ J i m' nw := by
      rintro ⟨h6, tk6, m6, nw6, rfl, F6, N6, o6, j6⟩
      exact ⟨vs.length + 1 - (i + 1), by omega, i + 1, h6, tk6, it1, m6, nw6, rfl, hlt, rfl, hI1, F6, N6, o6, j6⟩
    cases f with
    | ret v => exact h5
    | brk => exact h5
    | next => exact fin h5
    | cont => exact fin h5
  · obtain rfl : i = vs.length := by omega
    refine draw_end hh F' N' hI hm off (Nat.le_refl _) fun h1 F1 N1 => ?_
    exact wpAny_execs_nil (done m' nw h1 _ hJ F1 N1)
theorem For_pairs {iter : Expr} {body : List Stmt} {x x₂ : Str} {px px₂ tp pos : Pos} {tk0 : Nat} {Q : Flow → Shared → Prop} (J : Nat → (Str → Option Value) → Led → Prop) (hh : A.handled = none)
    (F : Fr h₀ env.locals hS m₀) (N : News h₀ env.locals hS news)
    (hev : wpAny (model prog w) A (eval iter env) (fun v s' => v = .ref ax ∧ s' = ⟨hS, gS, dS, tS, oS⟩) E ⟨hS, gS, dS, tS, oS⟩)
    (hx : env.kindOf x = some .local) (hx₂ : env.kindOf x₂ = some .local) (hp : (env.scope.kind == .class || (env.scope.kind == .module && env.locals != env.globals)) = false)
    (jm : ∀ i m nw, J i m nw → (ax, listOf vs.toArray k) ∈ nw) (jr : ∀ i m nw, J i m nw → i < vs.length → ∃ r v1 v2 kr, vs[i]? = some (.ref r) ∧ (r, listOf [v1, v2].toArray kr) ∈ nw) (j0 : J 0 m₀ news)
    (turn : ∀ I it i r v1 v2 kr m₁ news₁ h tk, i < vs.length → vs[i]? = some (.ref r) → (r, listOf [v1, v2].toArray kr) ∈ news₁ → J i m₁ news₁ → (∀ p ∈ news₁, p.1 ≠ I) → Fr h₀ env.locals h (fun y => if y = x₂ then some v2 else if y = x then some v1 else m₁ y) → News h₀ env.locals h ((I, it) :: news₁) →
      wpAny (model prog w) A (execs body env) (TurnP h₀ env.locals gS dS oS I it (J (i + 1)) Q) E ⟨h, gS, dS, tk, oS⟩)
    (done : ∀ m₁ news₁ h tk, J vs.length m₁ news₁ → Fr h₀ env.locals h m₁ → News h₀ env.locals h news₁ → Q .next ⟨h, gS, dS, tk, oS⟩)
    (hs : ∀ x, foldedSetIterable iter env x = pure x := by intro _; rfl) (hE : PassesOwn (model prog w) A env E := by passes_own) :
    wpAny (model prog w) A (exec (.For (.Tuple [.Name x px, .Name x₂ px₂] tk0 tp) iter body [] pos) env) Q E ⟨hS, gS, dS, tS, oS⟩ :=
  For_pairs0 (s := ⟨hS, gS, dS, tS, oS⟩) J hh F N hev hx hx₂ hp jm jr j0 turn done hs hE
end
/-- a call that ends with a value; its argument is a list that stood before -/
def RetS (w : World) (sa : Addr) (vals : List Value) (D U : Nat) (f : Value) (args : List Value) (news : Led) (post : Value → Led → Prop) : Prop :=
  ∀ (mean : ExcName → Option Value) (mg mb : Str → Option Value) (dp un : Nat) (gd : Option (List Code)) (cn : Str) (cs : Scope) (a : Addr) (ccd : Value) (cl : List (Str × Addr)) (outer : List Env) (A₀ : Around) (base h₀ : Heap) (L : Addr) (m : Str → Option Value) (s : Shared) (Q E : Value → Shared → Prop),
    Below A₀ base outer h₀ → Fr h₀ L s.heap m → (hd.heap_39 w.params).In base → News h₀ L s.heap news → Top VW LO mean mg mb base → h₀.IsList sa vals.toArray → cs.kind = .function → dp + D < recursionLimit → un + U < cLine →
    (∀ r h' tk' news', Fr h₀ L h' m → News h₀ L h' news' → post r news' → Q r { s with heap := h', toks := tk' }) →
    wpAny (model PR w) (ktrTop dp un gd cn cs L a ccd cl outer) (call f args) Q E s
def DeckNew (news : Led) (r : Value) (n' : Led) : Prop := ∃ k c tp kk kc cells, r = .ref k ∧ n' = (k, deckO c 0 tp kk) :: (c, listOf cells.toArray kc) :: news ∧ DeckOk c k cells ∧ (∀ q ∈ (c, listOf cells.toArray kc) :: news, q.1 ≠ k)
section
variable {prog : Program} {w : World} {A : Around} {E : Value → Shared → Prop} {s : Shared} {h₀ : Heap} {L l : Addr} {m : Str → Option Value} {news : Led} {value slice : PySem.Expr} {vs zs : List Value} {Q : Value → Shared → Prop}
theorem cut_base {vl vu : Value} {lo hi : Option Int} (hl : h₀.IsList l vs.toArray) (F : Fr h₀ L s.heap m) (N : News h₀ L s.heap news) (hb : vs.length ≤ 1000) (pl : IsPart vl lo) (pu : IsPart vu hi) (e : (slicePick vs.toArray lo hi none).toList = zs)
    (h : ∀ D h', Fr h₀ L h' m → News h₀ L h' ((D, listOf zs.toArray 0) :: news) → Over news D → Q (.ref D) { s with heap := h' })
    (hs : subscripted slice false (.ref l) (.ref s.heap.objs.size) = operate [.ref s.heap.objs.size, .ref l] (getItem (.ref l) (.ref s.heap.objs.size))) (ht : ∀ r, letTemporaryGo value (.ref l) r = pure ()) :
    wpAny (model prog w) A (subscriptTail value slice (.ref l) (.ref s.heap.objs.size)) Q E { s with heap := s.heap.push { cls := .type "slice", data := .fields #[vl, vu, .none] } } :=
  kmk_slice_lit (its := vs.toArray) F N (hl.at fun o e => F.keep _ _ e) pl pu e h hs ht (by simp only [List.size_toArray, PySem.sizeLine_eq]; omega)
theorem len_base (hl : h₀.IsList l vs.toArray) (F : Fr h₀ L s.heap m) (hb : vs.length ≤ 1000) (h : Q (.int (vs.length : Int) (s.toks + 1)) { s with toks := s.toks + 1 + 1 }) : wpAny (model prog w) A (call (.builtin "len") [.ref l]) Q E s :=
  call_len_list (hl.at fun o e => F.keep _ _ e) (by simp; omega) (by simpa using h)
end
theorem take_ints {vs : List Value} {ns : List Int} (h : IntsAre vs ns) (n : Nat) : IntsAre (vs.take n) (ns.take n) := by
  induction h generalizing n with
  | nil => simp; exact .nil
  | cons n₀ t h ih =>
    cases n with
    | zero => exact .nil
    | succ n => exact .cons n₀ t (ih n)
example : True := by
  k_with "my_slice0" => ((k_here; (with_reducible show wpAny _ _ (subscriptTail _ (PySem.Expr.Slice _ _ _ _) (Value.ref _) (Value.ref _)) _ _ _); k_dflt (refine' cut_base hSg ?k1 ?k2 ?k4 ?k5 ?k6 ?k7 ?_ ?ks ?kt; (case k1 => k_asm); (case k2 => k_asm); (case k4 => k_extra "my_bound"); (case k5 => kmk_part); (case k6 => kmk_part); (case k7 => exact pick_upto (by omega)); (case ks => with_unfolding_all rfl); (case kt => kmk_pure); k_whole); intro l9 h9 F9 N9 o9; (try k_sweep)))
  trivial
example : True := by
  k_with "my_len0" => ((k_here; (with_reducible show wpAny _ _ (call (Value.builtin "len") [Value.ref _]) _ _ _); k_dflt (refine' len_base hSg ?k1 ?k3 ?_; (case k1 => k_asm); (case k3 => k_extra "my_bound"); k_whole); (try dsimp only)))
  trivial
example : True := by
  k_with "@subscriptTail Name Slice ref ref" => (k_extra "my_slice0")
  trivial
example : True := by
  k_with "@call builtin:len" => (k_extra "my_len0")
  trivial
theorem deck_ok (w : World) (sa : Addr) (vals : List Value) (ns : List Int) (news : Led) (hi : IntsAre vals ns) (hl : vals.length ≤ 63) : RetS w sa vals 12 120 (.ref 440) [.ref sa] news (DeckNew news) := by
  intro mean mg mb dp un gd cn cs a ccd cl outer A₀ base h₀ L m s Q E B F XB N TB hSL hk hok hu hret
  have X := Frag.In.keeps XB (Below.stays B)
  have T := Top.keeps TB (Below.stays B)
  refine wpAny_call ?_
  k_dflt (k_extra "my_enter2")
  have hSg : g'.IsList sa vals.toArray := hSL.at fun o e => FG'.keep _ _ e
  have hStopComp : StopComp := .mk
  have hStopSrc : StopSrc := .mk
  k_with "my mod" => (k_dflt (refine' mod_q ?k1 ?_; (case k1 => decide); k_whole); intro q9 hq91 hq92; (try dsimp only))
  k_steps
  k_extra "my_comp"
  k_steps
  unfold Halt
  rename Fr _ _ _ _ => lF
  rename News _ _ _ _ => lN
  have hti := take_ints hi (40 : Int).toNat
  have htl : (vals.take (40 : Int).toNat).length ≤ 40 := by simp; omega
  refine LCg.CompSrc.ledger (its := (vals.take (40 : Int).toNat).toArray) rfl lF lN (List.mem_cons_self) (by simp only [List.size_toArray, PySem.sizeLine_eq]; omega) (fun g => compC (fun i ys => ys.length = i ∧ ∃ ms, IntsAre ys ms ∧ ∀ n ∈ ms, 0 ≤ n ∧ n ≤ 1000003) ?turn ?fin ⟨rfl, [], .nil, by simp⟩)
  case turn =>
    rintro i ys v I oI C oC D m₂ h tk E' hi9 ⟨hyl, ms, hI, hB⟩ hP ho hm F9 N9 off ne
    have hP' : (vals.take (40 : Int).toNat)[i]? = some v := by simpa using hP
    obtain ⟨n, t, hni, rfl⟩ := ints_at hti hP'
    clear lF lN
    k_steps
    refine LCg.CompEnd.intro (by k_asm) (by k_asm) _ (fun p hp => hp) off (.inr ⟨_, List.mem_cons_self, rfl, _, rfl⟩) ⟨rfl, by rw [List.length_append, hyl]; rfl, ms ++ [q9], hI.append (.cons _ _ .nil), fun n hn => ?_⟩
    rcases List.mem_append.mp hn with hn | hn
    · exact hB n hn
    · rw [List.mem_singleton.mp hn]; omega
  case fin =>
    rintro ys ⟨hyl, ms, hI, hB⟩
    replace hyl : ys.length ≤ 40 := by rw [hyl]; simpa using htl
    clear lF lN
    intro D h tk F9 N9 o1
    have o9' := off_one o1
    try dsimp only
    k_steps
    refine hret _ _ _ ((l9, deckO _ 0 _ _) :: (_, listOf (ys ++ [Value.int ((vals.length : Int) + 5) _]).toArray _) :: news) (by k_asm) (News.sub (by k_asm) (List.forall_mem_cons.mpr ⟨by k_mem, List.forall_mem_cons.mpr ⟨by k_mem, fun p9 hp9 => by k_mem⟩⟩)) ⟨_, _, _, _, _, _, rfl, rfl, ⟨Nat.ne_of_lt (o9 _ (.head _)), ⟨ms ++ [(vals.length : Int) + 5], hI.append (.cons _ _ .nil), fun n hn => ?_⟩, by simp, by simp; omega⟩, ?_⟩
    · rcases List.mem_append.mp hn with hn | hn
      · exact hB n hn
      · rw [List.mem_singleton.mp hn]; omega
    · exact List.forall_mem_cons.mpr ⟨Nat.ne_of_lt (o9 _ (.head _)), fun q hq => Nat.ne_of_lt (o9 q (.tail _ (.tail _ (.tail _ (.tail _ hq)))))⟩
section
variable {prog : Program} {w : World} {A : Around} {s : Shared} {h₀ : Heap} {L : Addr} {m : Str → Option Value} {env : Env}
/-- a comprehension with a test over a ledger that stands -/
theorem compCT {ct elt : Expr} {x : Str} {scope : Scope} {cl : List (Str × Addr)} {S : Led → Prop} {P : Nat → Value → Prop} {Fin : List Value → Led → Prop} {n : Nat} {news : Led} (J : Nat → List Value → Prop)
    (turn : ∀ i ys v I oI C oC D m₂ h tk (E' : Value → Shared → Prop), i < n → J i ys → P i v → LCg.NsObj oC m₂ → m₂ x = some v → Fr h₀ L h m → News h₀ L h ((I, oI) :: (C, oC) :: (D, LCg.lst ys) :: news) → LCg.Off3 I C D news → ((@Ne Nat I C) ∧ (@Ne Nat I D) ∧ (@Ne Nat C D)) →
      wpAny (model prog w) A (isTrue ct (compEnvC scope cl C env) (eval ct (compEnvC scope cl C env))) (fun ok s' => if ok = true then
        wpAny (model prog w) A (eval elt (compEnvC scope cl C env)) (LCg.CompEnd h₀ L m { s with heap := h, toks := tk } I oI C oC D (LCg.lst ys) S (fun y news' => news' = news ∧ J (i + 1) (ys ++ [y]))) E' s'
        else LCg.CompEnd h₀ L m { s with heap := h, toks := tk } I oI C oC D (LCg.lst ys) S (fun _ news' => news' = news ∧ J (i + 1) ys) Value.none s') E' { s with heap := h, toks := tk })
    (fin : ∀ ys, J n ys → Fin ys news) (j0 : J 0 []) : LCt.CompRestT prog w A h₀ L m env ct elt x scope cl s S P Fin n 0 [] news :=
  compJT (fun i ys nw => nw = news ∧ J i ys) (by rintro i ys nw v I oI C oC D m₂ h tk E' hi ⟨rfl, j⟩ hP ho hm F N off ne; exact turn i ys v I oI C oC D m₂ h tk E' hi j hP ho hm F N off ne)
    (by rintro ys nw ⟨rfl, j⟩; exact fin ys j) n 0 [] news (Nat.zero_add _) ⟨rfl, j0⟩
end
theorem bne_self_int {a : Int} : (a != a) = false := by simp
abbrev ToldTurn (w : World) (so : String) (vs : List Value) (l : Led) (r : Value) (n : Led) : Prop := ∃ v n2, Turned w so vs l v n2 ∧ Told "told" v n2 r n
def KToldTurn (w : World) (so : String) (vs : List Value) (l : Led) (P : Value → Led → Prop) : Prop :=
  ∀ v cs o ko ts, SeqIn w (cs ++ l) so (.ref v) vs → (∀ p ∈ cs ++ l, p.1 ≠ o) → P (.ref o) ((o, listOf [.str "told" ts, .ref v].toArray ko) :: (cs ++ l))
theorem K_turned {w : World} {so : String} {vs : List Value} {l : Led} : ∀ P, KToldTurn w so vs l P → ∀ r n, ToldTurn w so vs l r n → P r n := by
  rintro P h _ _ ⟨v, _, ⟨cs, rfl, h1⟩, o, ko, ts, rfl, rfl, h2⟩; obtain ⟨v, rfl⟩ := h1.ref; exact h v cs o ko ts h1 h2
open Classical in
/-- what fillarray leaves -/
noncomputable def vF (so : String) (vs : List Value) (one : Int) (t : Tok) : List Value := if so = "list" then vs else List.replicate vs.length (.int one t)
theorem vF_seq {so : String} {vs : List Value} {one : Int} {t : Tok} (h : so ≠ "list") : vF so vs one t = List.replicate vs.length (.int one t) := if_neg h
/-- what is told of it -/
def FillTold (so : String) (v : Value) (xs : List Value) : Prop := (so = "list" ∧ Flat xs [.str "signal", .str "wrong-type-argument"]) ∨ (so ≠ "list" ∧ ∃ ts, xs = [.str "told" ts, v])
abbrev FillP (w : World) (so : String) (vs : List Value) (one : Int) (t : Tok) (v : Value) (l : Led) (r : Value) (n : Led) : Prop :=
  ∃ cs o ko xs, r = .ref o ∧ n = (o, listOf xs.toArray ko) :: (cs ++ l) ∧ FillTold so v xs ∧ SeqIn w (cs ++ l) so v (vF so vs one t) ∧ ∀ p ∈ cs ++ l, p.1 ≠ o
def KFill (w : World) (so : String) (vs : List Value) (one : Int) (t : Tok) (v : Value) (l : Led) (P : Value → Led → Prop) : Prop :=
  ∀ cs o ko xs, FillTold so v xs → SeqIn w (cs ++ l) so v (vF so vs one t) → (∀ p ∈ cs ++ l, p.1 ≠ o) → P (.ref o) ((o, listOf xs.toArray ko) :: (cs ++ l))
theorem K_fill {w : World} {so : String} {vs : List Value} {one : Int} {t : Tok} {v : Value} {l : Led} : ∀ P, KFill w so vs one t v l P → ∀ r n, FillP w so vs one t v l r n → P r n := by
  rintro P h _ _ ⟨cs, o, ko, xs, rfl, rfl, a, b, c⟩; exact h cs o ko xs a b c
section
variable {w : World} {so : String} {v : Value} {vs : List Value} {ns : List Int} {one : Int} {t : Tok} {la : Addr} {ka : Nat} {news pre cs post : Led}
theorem told_remove (hla : (la, listOf [.int one t, v].toArray ka) ∈ news) (hs : SeqIn w news so v vs) (hi : IntsAre vs ns) (hb : vs.length ≤ 1000) (hn : ∀ n ∈ ns, 0 ≤ n ∧ n ≤ 1000) :
    Ret w 45 450 (.ref 468) [.ref 430, .ref la] news (ToldNew w so (vs.filter (keepV one)) news) :=
  law_told_ok w 430 la news _ _ _ (keep_430 _) (lisp_remove_ok w so one t v vs ns la ka news hla hs hi hb hn) (by decide) (by decide)
theorem told_delete (hla : (la, listOf [.int one t, v].toArray ka) ∈ pre ++ post) (hs : SeqIn w cs so v vs) (ha : Apart cs (pre ++ post)) (hi : IntsAre vs ns) (hb : vs.length ≤ 1000) (hn : ∀ n ∈ ns, 0 ≤ n ∧ n ≤ 1000) :
    Ret w 45 450 (.ref 468) [.ref 425, .ref la] (pre ++ (cs ++ post)) (ToldTurn w so (vs.filter (keepV one)) (pre ++ post)) :=
  told_turn (keep_425 _) (lisp_delete_ok w so one t v vs ns la ka cs (pre ++ post) hla hs ha hi hb hn) (by decide) (by decide)
theorem told_nrev (hla : (la, listOf [v].toArray ka) ∈ pre ++ post) (hs : SeqIn w cs so v vs) (ha : Apart cs (pre ++ post)) (hi : IntsAre vs ns) (hb : vs.length ≤ 1000) (hn : ∀ n ∈ ns, 0 ≤ n ∧ n ≤ 1000) :
    Ret w 45 450 (.ref 468) [.ref 420, .ref la] (pre ++ (cs ++ post)) (ToldTurn w so vs.reverse (pre ++ post)) :=
  told_turn (keep_420 _) (lisp_nreverse_ok w so v vs ns la ka cs (pre ++ post) hla hs ha hi hb hn) (by decide) (by decide)
theorem fill_in (hso : so ≠ "list") (hla : (la, listOf [v, .int one t].toArray ka) ∈ post) (hs : SeqIn w cs so v vs) (ha : Apart cs post) (hb : vs.length ≤ 1000) (h0 : 0 ≤ one) (h1 : one ≤ 1000) :
    Ret w 20 200 (.ref 378) [.none, .ref la] (cs ++ post) (fun r n' => r = v ∧ Turned w so (List.replicate vs.length (.int one t)) post v n') := by
  cases hs with
  | list c => exact absurd rfl hso
  | vec a b c => exact fill_vec w _ _ _ _ _ one t vs la ka cs post hla a b c ha hb
  | txt a b c => exact fill_txt w _ _ _ _ _ _ one t vs la ka cs post hla a b c ha hb h0 h1
theorem fill_bad (hla : (la, listOf [v, .int one t].toArray ka) ∈ news) (hs : SeqIn w news "list" v vs) : Rai w 20 200 (.ref 378) [.none, .ref la] news "wrong-type-argument" := fill_list w v _ vs la ka news hla (hs.apart rfl)
theorem fill_any (hla : (la, listOf [v, .int one t].toArray ka) ∈ pre ++ post) (hs : SeqIn w cs so v vs) (ha : Apart cs (pre ++ post)) (hb : vs.length ≤ 1000) (h0 : 0 ≤ one) (h1 : one ≤ 1000) :
    RetT w 45 450 (.ref 468) [.ref 378, .ref la] (pre ++ (cs ++ post)) (FillP w so vs one t v (pre ++ post)) := by
  by_cases hl : so = "list"
  · subst hl
    have hs' : SeqIn w (cs ++ (pre ++ post)) "list" v vs := hs.mono fun _ h => List.mem_append_left _ h
    refine ((told_sig (keep_378 _) (fill_bad (List.mem_append_right _ hla) hs') (by decide) (by decide)).mono fun r n h => ?_).perm mem_turn
    obtain ⟨tk, o, ko, ts, e, e', hn⟩ := h
    exact ⟨cs, o, ko, _, e, e', .inl ⟨rfl, .ss⟩, by unfold vF; rw [if_pos rfl]; exact hs', hn⟩
  · refine (told_turn (keep_378 _) (fill_in hl hla hs ha hb h0 h1) (by decide) (by decide)).toT.mono fun r n h => ?_
    obtain ⟨v', n2, ⟨rfl, cs', rfl, hT⟩, o, ko, ts, e, e', hn⟩ := h
    exact ⟨cs', o, ko, _, e, e', .inr ⟨hl, ts, rfl⟩, by rw [vF_seq hl]; exact hT, hn⟩
theorem rev_ok (la : Addr) (ka : Nat) (n : Led) (hi : IntsAre vs ns) (hb : vs.length ≤ 1000) (hn : ∀ n ∈ ns, 0 ≤ n ∧ n ≤ 1000) (h : (la, listOf [v].toArray ka) ∈ n) (hs : SeqIn w n so v vs) : Ret w 30 300 (.ref 413) [.none, .ref la] n (NewSeq w so vs.reverse n) :=
  (lisp_reverse_ok w so v vs ns la ka n h hs hi hb hn).mono (by decide) (by decide) fun _ _ h => h
theorem copy_ok (la : Addr) (ka : Nat) (n : Led) (hi : IntsAre vs ns) (hb : vs.length ≤ 1000) (hn : ∀ n ∈ ns, 0 ≤ n ∧ n ≤ 1000) (h : (la, listOf [v].toArray ka) ∈ n) (hs : SeqIn w n so v vs) : Ret w 30 300 (.ref 406) [.none, .ref la] n (NewSeq w so vs n) :=
  (lisp_copy_ok w so v vs ns la ka n h hs hi hb hn).mono (by decide) (by decide) fun _ _ h => h
end
theorem rep_one (n : Nat) (l : Int) (t : Tok) : IntsAre (List.replicate n (Value.int l t)) (List.replicate n l) := by
  induction n with
  | zero => exact .nil
  | succ n ih => rw [List.replicate_succ, List.replicate_succ]; exact .cons l t ih
theorem UpdF.app {d : Addr} {o : Obj} {cs rest : Led} {g : Obj → Led} (hA : Apart cs rest) (U : UpdF d o rest g) : UpdF d o (cs ++ rest) (fun o' => cs ++ g o') := by
  have hm : (d, o) ∈ rest := by
    obtain ⟨pre, post, rfl, _⟩ := U.split
    exact List.mem_append_right _ (.head _)
  induction cs with
  | nil => exact U
  | cons p ps ih => exact .tail (hA p (.head _) _ hm) (ih fun q hq => hA q (.tail _ hq))
theorem Apart.same {cs l l' : Led} (h : Apart cs l) (e : l.map Prod.fst = l'.map Prod.fst) : Apart cs l' := fun p hp q hq => by
  have hm : q.1 ∈ l.map Prod.fst := e ▸ List.mem_map_of_mem hq
  obtain ⟨q', hq', e'⟩ := List.mem_map.mp hm
  exact e' ▸ h p hp q' hq'
theorem all_k {k d : Addr} {o : Obj} {rest : Led} (h1 : @Ne Nat k d) (h2 : ∀ p ∈ rest, p.1 ≠ d) : ∀ p ∈ (k, o) :: rest, p.1 ≠ d := List.forall_mem_cons.mpr ⟨h1, h2⟩
theorem keep_yes {l r : List Value} {one n : Int} {t : Tok} (hk : l = r ++ (if keepV one (.int n t) = true then [.int n t] else [])) (h : n ≠ one) : r ++ [.int n t] = l := by
  rw [hk, if_pos (by simpa [keepV] using Ne.symm h)]
theorem keep_no {l r : List Value} {one n : Int} {t : Tok} (hk : l = r ++ (if keepV one (.int n t) = true then [.int n t] else [])) (h : n = one) : r = l := by
  rw [hk, if_neg (by simp [keepV, h]), List.append_nil]
theorem mem_mid {a d : Addr × Obj} {cs l : Led} : ∀ p ∈ a :: (cs ++ l), p ∈ d :: (cs ++ a :: l) := by
  intro p hp
  simp only [List.mem_cons, List.mem_append] at hp ⊢
  rcases hp with h | h | h <;> simp [h]
theorem sub_cut {a : Addr × Obj} {cs nb mid : Led} (h : ∀ p ∈ nb, p ∈ mid) : ∀ p ∈ a :: (cs ++ nb), p ∈ a :: (cs ++ mid) := by
  intro p hp
  simp only [List.mem_cons, List.mem_append] at hp ⊢
  rcases hp with hp | hp | hp
  · exact .inl hp
  · exact .inr (.inl hp)
  · exact .inr (.inr (h p hp))
example : True := by
  k_with "@k_all" => ((refine' all_k ?h1 ?h2; (case h1 => with_reducible assumption); (case h2 => with_reducible assumption)))
  trivial
local macro_rules | `(tactic| k_updF) => `(tactic| k_extra "@k_updF")
example : True := by
  k_with "@k_updF" => ((refine' UpdF.app ?a ?b; (case b => k_updF); (case a => first | with_reducible assumption | (refine' Apart.same ?h ?e; (case h => with_reducible assumption); (case e => rfl)))))
  trivial
example : True := by
  k_with "my_enterCT" => ((k_extra "my_intro"; refine wpAny_call ?_; k_dflt (k_extra "my_enterCT2")))
  trivial
example : True := by
  k_with "my_enterCT2" => ((refine' code_defCT ?kb ?k1 ?k2 ?k3 ?k4 ?k5 ?kA ?kF ?kK ?k6 ?k7 ?k8 ?k9 ?kB ?kD ?_ ?c2 ?c3 ?c4; (case kA => exact rfl); (case kF => exact rfl); (case kK => assumption); (case k1 => k_asm); (case k2 => k_asm); (case k3 => k_asm); (case k4 => k_asm); (case k5 => k_asm); (case k6 => k_is); (case k7 => k_is); (case k8 => ktr_room); (case k9 => first | exact bnd_of rfl | exact BindsTo.of_eq rfl | exact binds_K (by k_in) rfl (by k_is) rfl rfl rfl); (case kB => exact rfl); (case kD => decide +kernel); (case c2 => exact rfl); (case c3 => exact rfl); (case c4 => exact rfl); (case kb => k_extra "my_norm"); k_whole; intro g' L' h' tk' cells' FG' F' N' Y' fB fX fT oL9; have fR : Reb (frsA (envX cn cs L a ccd cl :: outer)) g' g' := Reb.refl;  (first | (have hY9 := CellsAre.one Y'; obtain ⟨oc9, hE9, dc9⟩ := hY9; subst hE9; clear Y') | (have hY9 := CellsAre.two Y'; obtain ⟨oc9, oc9', hE9, dc9, dc9'⟩ := hY9; subst hE9; clear Y') | k_cells Y'); (try simp only [List.cons_append, List.nil_append] at N'); (try dsimp only); (try k_fold)))
  trivial
example : True := by
  k_with "@exec Assign cons ListComp" => (k_extra "my comp")
  trivial
example : True := by
  k_with "@compareOp IsNot ref ref" => (((with_reducible refine isnot_ref_same ?_); (try dsimp only)))
  trivial
example : True := by
  k_with "@call ref" => ((k_here; (with_reducible show wpAny _ _ (call (Value.ref 475) [Value.ref 413, _, _, _]) _ _ _); k_dflt ((refine' Ret.use (fresh_ok _ 413 _ _ _ _ _ _ _ _ _ _ _ _ _ (keep_413 _) ?p1 (fun la9 ka9 n9 hm9 hq9 => rev_ok la9 ka9 n9 ?p2 ?p3 ?p4 hm9 hq9) (by decide) (by decide) ?p5 ?p2 (IntsAre.rev ?p2) ?p6 ?p7 ?p8 ?p9 ?p10) K_val ?k1 ?k2 ?k3 ?k4 ?k5 ?kK ?kd ?ku ?_); k_extra "my_use"; (case p1 => with_reducible assumption); (case p5 => k_extra "my_seq"); (case p2 => with_reducible assumption); (case p3 => k_extra "my_bound"); (case p4 => with_reducible assumption); (case p6 => exact List.length_reverse); (case p7 => k_extra "my_bound"); (case p8 => k_extra "my_bound"); (case p9 => k_mem); (case p10 => exact IntsAre.rev (by with_reducible assumption)); refine fun h9 tk9 F9 N9 => ?_;  (try dsimp only); (try k_fold))))
  trivial
example : True := by
  k_with "@call ref" => ((k_here; (with_reducible show wpAny _ _ (call (Value.ref 475) [Value.ref 406, _, _, _]) _ _ _); k_dflt ((refine' Ret.use (fresh_ok _ 406 _ _ _ _ _ _ _ _ _ _ _ _ _ (keep_406 _) ?p1 (fun la9 ka9 n9 hm9 hq9 => copy_ok la9 ka9 n9 ?p2 ?p3 ?p4 hm9 hq9) (by decide) (by decide) ?p5 ?p2 ?p2 rfl ?p7 ?p8 ?p9 ?p2) K_val ?k1 ?k2 ?k3 ?k4 ?k5 ?kK ?kd ?ku ?_); k_extra "my_use"; (case p1 => with_reducible assumption); (case p5 => k_extra "my_seq"); (case p2 => with_reducible assumption); (case p3 => k_extra "my_bound"); (case p4 => with_reducible assumption); (case p7 => k_extra "my_bound"); (case p8 => k_extra "my_bound"); (case p9 => k_mem); refine fun h9 tk9 F9 N9 => ?_;  (try dsimp only); (try k_fold))))
  trivial
example : True := by
  k_with "@call ref" => ((k_here; (with_reducible show wpAny _ _ (call (Value.ref 468) [Value.ref 430, Value.ref _]) _ _ _); k_dflt ((refine' Ret.use (told_remove ?p1 ?p2 ?p3 ?p4 ?p5) K_toldNew ?k1 ?k2 ?k3 ?k4 ?k5 ?kK ?kd ?ku ?_); k_extra "my_use"; (case p1 => k_mem); (case p2 => k_extra "my_seq"); (case p3 => with_reducible assumption); (case p4 => k_extra "my_bound"); (case p5 => with_reducible assumption); refine fun v9 cs9 o9 ko9 ts9 hS9 hA9 hno9 h9 tk9 F9 N9 => ?_;  (try dsimp only); (try k_fold))))
  trivial
example : True := by
  k_with "my_turned" => (((simp only [List.cons_append, List.nil_append] at N9 hno9 hT8); (try dsimp only); (try k_fold)))
  trivial
example : True := by
  k_with "my_nrev" => ((
  (have hA8 : Apart cs9 ((l9, listOf [Value.ref v9].toArray 0) :: (k, deckO c (p + 1) tp8 kk8) :: rest) := Apart.pre o9 (fun p hp => List.mem_append_left _ hp) (Apart.right hA9 (by intro p9 hp9; k_mem)));
  (replace N9 := News.sub (l' := (l9, listOf [Value.ref v9].toArray 0) :: (cs9 ++ ((k, deckO c (p + 1) tp8 kk8) :: rest))) N9 (sub_cut (by intro p9 hp9; k_mem)));
  (refine Ret.use (told_nrev (pre := [_]) (cs := cs9) (post := (k, deckO c (p + 1) tp8 kk8) :: rest) (.head _) hS9 hA8 hi (by omega) hn) K_turned (by k_asm) (by k_asm) (by k_asm) N9 (by k_asm) rfl (by ktr_room) (by ktr_units) ?_);
  clear hS9; refine fun v8 cs8 o9 ko9 ts9 hT8 hno9 h9 tk9 F9 N9 => ?_; k_extra "my_turned"))
  trivial
example : True := by
  k_with "my_endC" => ((refine hret _ _ _ ((k, deckO c (p + 1) ?e1 ?e2) :: rest) _ hR8 hB8 hF8 (News.sub hN8 ?es) ⟨rfl, _, _, rfl⟩; case es => exact List.forall_mem_cons.mpr ⟨by k_mem, fun p9 hp9 => by k_mem⟩))
  trivial
theorem changed_ok (w : World) (so : String) (k c : Addr) (p : Int) (tp : Tok) (kk kc : Nat) (cells : List Value) (ts : Tok) (nl : Addr) (kn : Nat) (vs : List Value) (ns : List Int) (rest : Led) (hso : Sort3 so) (D : DeckOk c k cells) (hc : (c, listOf cells.toArray kc) ∈ rest) (hk9 : ∀ q ∈ rest, q.1 ≠ k)
    (hnl : (nl, listOf vs.toArray kn) ∈ rest) (hi : IntsAre vs ns) (hn : ∀ n ∈ ns, 0 ≤ n ∧ n ≤ 1000) (hb : vs.length ≤ 80) (hp0 : 0 ≤ p) (hp1 : p ≤ 1000) :
    RetT w 90 900 (.ref 487) [.ref k, .str (Str.ofString so) ts, .ref nl] ((k, deckO c p tp kk) :: rest) (fun r n' => r = .bool true ∧ ∃ tp' kk', n' = (k, deckO c (p + 1) tp' kk') :: rest) := by
  k_extra "my_enterCT"
  have hc1 : ∀ p ∈ rest, p.1 ≠ L' + 1 := fun p hp => Nat.ne_of_lt (Nat.lt_succ_of_lt (oL9 p (.tail _ hp)))
  have hc2 : @Ne Nat k (L' + 1) := Nat.ne_of_lt (Nat.lt_succ_of_lt (oL9 _ (.head _)))
  have hStopComp : StopComp := .mk
  k_steps
  unfold Halt
  rename Fr _ _ _ _ => lF
  rename News _ _ _ _ => lN
  obtain ⟨vV, hv0⟩ : ∃ x, x = v9 := ⟨_, rfl⟩
  subst hv0
  obtain ⟨csV, hv0⟩ : ∃ x, x = cs9 := ⟨_, rfl⟩
  subst hv0
  obtain ⟨oc, hoc, hAV, lN2⟩ : ∃ oc, oc.data = Data.cell (some (Value.int q8 t8)) ∧ Apart csV ((L' + 1, oc) :: (k, deckO c (p + 1) tp8 kk8) :: rest) ∧ News g' L' _ ((L' + 1, oc) :: (csV ++ ((k, deckO c (p + 1) tp8 kk8) :: rest))) :=
    ⟨_, by assumption, by refine' Apart.same ?h ?e; (case h => exact hA9); (case e => rfl), News.sub lN mem_mid⟩
  have hSV := hS9
  clear hS9 hA9 lN
  have hbf : (vs.filter (keepV q8)).length ≤ 80 := Nat.le_trans (List.length_filter_le ..) hb
  have hir := keep_ints (one := q8) hi
  k_extra "my_compTA"
  have hStopSrc : StopSrc := .mk
  k_steps
  refine LCt.CompSrcT.ledger (its := vs.toArray) rfl (by k_asm) (by k_asm) (by k_mem) (by simp only [List.size_toArray, PySem.sizeLine_eq]; omega) (fun g => compCT (fun i ys => ys = (vs.take i).filter (keepV q8)) ?turn ?fin rfl)
  case turn =>
    rintro i ys v I oI C oC D m₂ h tk E' hi9 rfl hP ho hm F9 N9 off ne
    have hP' : vs[i]? = some v := by simpa using hP
    obtain ⟨n, t, hni, rfl⟩ := ints_at hi hP'
    have hk := keep_take (one := q8) hP'
    clear lF lN2
    k_steps
    all_goals
      refine LCg.CompEnd.intro (by k_asm) (by k_asm) _ (fun p hp => hp) off (.inr ⟨_, by k_mem, rfl, _, rfl⟩) ⟨rfl, ?_⟩
      first | exact keep_yes hk (by with_reducible assumption) | exact keep_no hk (by with_reducible assumption)
  case fin =>
    rintro ys rfl
    rw [show vs.toArray.size = vs.length by simp, List.take_length]
    clear lF lN2
    intro D h tk F9 N9 o1
    have o9' := off_one o1
    have hirev := IntsAre.rev hi
    have hrA := rep_one vs.length q8 t8
    have hrB := hrA
    rw [show List.replicate vs.length (Value.int q8 t8) = List.replicate (vs.length : Int).toNat (Value.int q8 t8) by rw [Int.toNat_natCast]] at hrB
    have hq8 : q8 ≤ 1000 := by omega
    have hlr : (List.replicate vs.length (Value.int q8 t8)).length ≤ 80 := by rw [List.length_replicate]; exact hb
    have hlv : vs.reverse.length ≤ 80 := by rw [List.length_reverse]; exact hb
    replace N9 : News g' L' h ((D, listOf (vs.filter (keepV q8)).toArray (vs.filter (keepV q8)).length) :: (L' + 1, oc) :: (csV ++ ((k, deckO c (p + 1) tp8 kk8) :: rest))) := N9
    try dsimp only
    have hStop425 : Stop425 := .mk
    k_steps
    unfold Halt
    obtain ⟨nb, hnb⟩ : ∃ nb, nb = (D, listOf (vs.filter (keepV q8)).toArray (vs.filter (keepV q8)).length) :: (L' + 1, oc) :: (csV ++ ((k, deckO c (p + 1) tp8 kk8) :: rest)) := ⟨_, rfl⟩
    have hAD : Apart cs9 ((l9, listOf [Value.int q8 t8, Value.ref v9].toArray 0) :: nb) := Apart.pre o9 (fun p hp => List.mem_append_left _ hp) (Apart.right hA9 (by rw [hnb]; intro p9 hp9; k_mem))
    replace N9 := News.sub (l' := (l9, listOf [Value.int q8 t8, Value.ref v9].toArray 0) :: (cs9 ++ nb)) N9 (sub_cut (by rw [hnb]; intro p9 hp9; k_mem))
    have hmD : (D, listOf (vs.filter (keepV q8)).toArray (vs.filter (keepV q8)).length) ∈ nb := hnb ▸ .head _
    have hmC : (L' + 1, oc) ∈ nb := hnb ▸ .tail _ (.head _)
    have hmn : (nl, listOf vs.toArray kn) ∈ nb := by rw [hnb]; k_mem
    refine Ret.use (told_delete (pre := [_]) (cs := cs9) (post := nb) (.head _) hS9 hAD hi (by omega) hn) K_turned (by k_asm) (by k_asm) (by k_asm) N9 (by k_asm) rfl (by ktr_room) (by ktr_units) ?_
    refine fun v8 cs8 o9 ko9 ts9 hT8 hno9 h9 tk9 F9 N9 => ?_
    k_extra "my_turned"
    clear hS9
    have hso' := hso
    have hStop378 : Stop378 := .mk
    k_steps
    unfold Halt
    have hs9 : ∀ x ∈ (L' + 1, oc) :: (csV ++ ((k, deckO c (p + 1) tp8 kk8) :: rest)), x ∈ nb := hnb ▸ fun x hx => .tail _ hx
    have hA7 : Apart csV ((l9, listOf [Value.ref vV, Value.int q8 t8].toArray 0) :: (L' + 1, oc) :: (k, deckO c (p + 1) tp8 kk8) :: rest) := Apart.pre o9 (fun p9 hp9 => by have hp9 := hs9 p9 (.tail _ (List.mem_append_left _ hp9)); k_mem) hAV
    replace N9 := News.sub (l' := (l9, listOf [Value.ref vV, Value.int q8 t8].toArray 0) :: (L' + 1, oc) :: (csV ++ ((k, deckO c (p + 1) tp8 kk8) :: rest))) N9 (List.forall_mem_cons.mpr ⟨.head _, fun p9 hp9 => by have hp9 := hs9 p9 hp9; k_mem⟩)
    clear hT8 hmD hmC hmn hs9 hnb
    k_dflt (refine' RetT.use (fill_any (pre := [_, _]) (cs := csV) (post := (k, deckO c (p + 1) tp8 kk8) :: rest) (.head _) hSV hA7 ?q1 hq81 hq8) K_fill ?k1 ?k2 ?k3 ?k4 ?k5 ?kK ?kd ?ku ?_)
    k_dflt (case k4 => exact N9)
    case q1 => omega
    case k1 => k_asm
    case k2 => k_asm
    case k3 => k_asm
    case k5 => k_asm
    case kK => exact rfl
    case kd => ktr_room
    case ku => ktr_units
    clear fB fX fT hSV
    refine fun cs8 o9 ko9 xs9 hfl hT8 hno9 h9 tk9 g9 R9 fB F9 N9 => ?_
    k_extra "my_anew"
    simp only [List.cons_append, List.nil_append] at N9 hno9 hT8
    (try dsimp only)
    (try k_fold)
    have hStopIf : StopIf := .mk
    k_steps
    unfold Halt
    rename Fr _ _ _ _ => lF
    rename News _ _ _ _ => lN
    (try k_fold)
    refine skip_cut ((k, deckO c (p + 1) tp8 kk8) :: rest) lF ?_ ?_
    · by_cases hl : so = "list"
      · rcases hfl with ⟨_, hf⟩ | ⟨h, _⟩
        · k_steps
          exact .mk (by k_asm) (by k_asm) (by k_extra "my_keep")
        · exact absurd hl h
      · rcases hfl with ⟨h, _⟩ | ⟨_, ts7, rfl⟩
        · exact absurd h hl
        · rw [vF_seq hl] at hT8
          k_steps
          exact .mk (by k_asm) (by k_asm) (by k_extra "my_keep")
    clear lF lN hT8 hfl
    intro h9 tk9 F9 N9
    try dsimp only
    have hStop378 : Stop378 := .mk
    k_steps
    unfold Halt
    k_extra "my_nrev"
    k_steps
    k_extra "my_endC"
/-- a row of the law: its list, and its numbers' list -/
structure RowD where
  r : Addr
  nl : Addr
  kr : Nat
  kn : Nat
  so : String
  ts : Tok
  vs : List Value
  ns : List Int
def RowD.In (news : Led) (x : RowD) : Prop := Sort3 x.so ∧ (x.r, listOf [.str (Str.ofString x.so) x.ts, .ref x.nl].toArray x.kr) ∈ news ∧ (x.nl, listOf x.vs.toArray x.kn) ∈ news ∧ IntsAre x.vs x.ns ∧ (∀ n ∈ x.ns, 0 ≤ n ∧ n ≤ 1000) ∧ x.vs.length ≤ 10
abbrev RowD.ref (x : RowD) : Value := .ref x.r
abbrev flatD (rows : List RowD) : List Value := (rows.map RowD.vs).flatten
abbrev flatN (rows : List RowD) : List Int := (rows.map RowD.ns).flatten
def RowD.dat (x : RowD) : Dat := .list [.str (Str.ofString x.so), .list (x.ns.map Dat.int)]
theorem RowD.In.mono {news news' : Led} {x : RowD} (h : x.In news) (hs : ∀ p ∈ news, p ∈ news') : x.In news' := ⟨h.1, hs _ h.2.1, hs _ h.2.2.1, h.2.2.2⟩
inductive ValsIn (w : World) (nw : Led) : List RowD → List Value → Prop
  | nil : ValsIn w nw [] []
  | cons {x : RowD} {v : Value} {xs : List RowD} {vs : List Value} : SeqIn w nw x.so v x.vs → ValsIn w nw xs vs → ValsIn w nw (x :: xs) (v :: vs)
theorem ValsIn.mono {w : World} {nw nw' : Led} {xs : List RowD} {vs : List Value} (h : ValsIn w nw xs vs) (hs : ∀ p ∈ nw, p ∈ nw') : ValsIn w nw' xs vs := by
  induction h with
  | nil => exact .nil
  | cons a _ ih => exact .cons (a.mono hs) ih
theorem ValsIn.snoc {w : World} {nw : Led} {xs : List RowD} {vs : List Value} {x : RowD} {v : Value} (h : ValsIn w nw xs vs) (k : SeqIn w nw x.so v x.vs) : ValsIn w nw (xs ++ [x]) (vs ++ [v]) := by
  induction h with
  | nil => exact .cons k .nil
  | cons a _ ih => exact .cons a ih
theorem ValsIn.length {w : World} {nw : Led} {xs : List RowD} {vs : List Value} (h : ValsIn w nw xs vs) : vs.length = xs.length := by
  induction h with
  | nil => rfl
  | cons _ _ ih => simp [ih]
theorem ValsIn.rows {w : World} {nw : Led} {xs : List RowD} {vs : List Value} (h : ValsIn w nw xs vs) : ∃ rv : List RowV, vs = rv.map RowV.v ∧ flatV rv = flatD xs ∧ rv.length = xs.length ∧ ∀ r ∈ rv, SeqIn w nw r.so r.v r.vs := by
  induction h with
  | nil => exact ⟨[], rfl, rfl, rfl, List.forall_mem_nil _⟩
  | @cons x v xs vs a _ ih =>
    obtain ⟨rv, rfl, e, l, h⟩ := ih
    refine ⟨⟨x.so, v, x.vs⟩ :: rv, rfl, ?_, by simp [l], List.forall_mem_cons.mpr ⟨a, h⟩⟩
    simpa [flatV, flatD] using e
theorem ValsIn.split {w : World} {nw : Led} {ini : List RowD} {z : RowD} {vals : List Value} (h : ValsIn w nw (ini ++ [z]) vals) : ∃ us v, vals = us ++ [v] ∧ ValsIn w nw ini us ∧ SeqIn w nw z.so v z.vs := by
  induction ini generalizing vals with
  | nil =>
    cases h with
    | cons a b => cases b; exact ⟨[], _, rfl, .nil, a⟩
  | cons y ys ih =>
    cases h with
    | cons a b =>
      obtain ⟨us, v, rfl, h1, h2⟩ := ih b
      exact ⟨_ :: us, v, rfl, .cons a h1, h2⟩
theorem ValsIn.at {w : World} {nw : Led} {xs : List RowD} {vs : List Value} (h : ValsIn w nw xs vs) {i : Nat} {v : Value} (hv : vs[i]? = some v) : ∃ x, xs[i]? = some x ∧ SeqIn w nw x.so v x.vs := by
  induction h generalizing i with
  | nil => simp at hv
  | cons a _ ih =>
    cases i with
    | zero => exact ⟨_, rfl, by simp at hv; exact hv ▸ a⟩
    | succ i => exact ih (by simpa using hv)
theorem flatD_take {rows : List RowD} {i : Nat} {r : RowD} (h : rows[i]? = some r) : flatD (rows.take (i + 1)) = flatD (rows.take i) ++ r.vs := by
  rw [List.take_add_one, h]; simp [flatD]
theorem flatD_snoc (ini : List RowD) (z : RowD) : flatD (ini ++ [z]) = flatD ini ++ z.vs := by simp [flatD]
theorem flatD_ints {news : Led} {rows : List RowD} (h : ∀ x ∈ rows, x.In news) : IntsAre (flatD rows) (flatN rows) := by
  induction rows with
  | nil => exact .nil
  | cons x xs ih =>
    obtain ⟨h1, h2⟩ := List.forall_mem_cons.mp h
    simp only [flatD, flatN, List.map_cons, List.flatten_cons]
    exact h1.2.2.2.1.append (ih h2)
theorem flatD_len {news : Led} {rows : List RowD} (h : ∀ x ∈ rows, x.In news) : (flatD rows).length ≤ 10 * rows.length := by
  induction rows with
  | nil => exact Nat.zero_le _
  | cons x xs ih =>
    obtain ⟨h1, h2⟩ := List.forall_mem_cons.mp h
    have := ih h2
    have := h1.2.2.2.2.2
    simp only [flatD, List.map_cons, List.flatten_cons, List.length_append, List.length_cons] at *
    omega
theorem flatD_le_take {rows : List RowD} {i : Nat} : (flatD (rows.take i)).length ≤ (flatD rows).length := by
  have e : flatD rows = flatD (rows.take i) ++ flatD (rows.drop i) := by
    conv => lhs; rw [← List.take_append_drop i rows]
    simp only [flatD, List.map_append, List.flatten_append]
  rw [e, List.length_append]; omega
theorem rows_dats {news : Led} {rows : List RowD} (h : ∀ x ∈ rows, x.In news) : DatAll news (rows.map RowD.ref) (rows.map RowD.dat) := by
  induction rows with
  | nil => exact .nil
  | cons x xs ih =>
    obtain ⟨h1, h2⟩ := List.forall_mem_cons.mp h
    exact .cons (.list h1.2.1 (dat_row h1.2.2.1 h1.2.2.2.1)) (ih h2)
theorem rows_dok {news : Led} {rows : List RowD} (h : ∀ x ∈ rows, x.In news) : ∀ d ∈ rows.map RowD.dat, kqdOk 8 d = true := by
  intro d hdX
  obtain ⟨x, hx, rfl⟩ := List.mem_map.mp hdX
  have h1 := (h x hx).1
  simp only [RowD.dat, kqdOk, List.all_eq_true]
  intro d hdX
  rcases List.mem_cons.mp hdX with rfl | hdX
  · exact h1.ok
  · rw [List.mem_singleton.mp hdX]
    simp only [kqdOk, List.all_eq_true]
    intro d hdX
    obtain ⟨n, _, rfl⟩ := List.mem_map.mp hdX
    rfl
theorem listOf_two {a b c d : Value} {k k' : Nat} (h : listOf [a, b].toArray k = listOf [c, d].toArray k') : a = c ∧ b = d := by
  simp [W.listOf] at h
  exact ⟨h.1.1, h.1.2⟩
theorem RowD.at {news : Led} {rows : List RowD} {i : Nat} {r : Addr} (hR : ∀ x ∈ rows, x.In news) (hv : (rows.map RowD.ref)[i]? = some (.ref r)) : ∃ x, rows[i]? = some x ∧ x.r = r ∧ x.In news := by
  rw [List.getElem?_map] at hv
  cases q : rows[i]? with
  | none => rw [q] at hv; cases hv
  | some x => rw [q] at hv; exact ⟨x, rfl, Value.ref.inj (Option.some.inj hv), hR x (List.mem_of_getElem? q)⟩
theorem pick_init {us : List Value} {v : Value} : (slicePick (us ++ [v]).toArray none (some (-1)) none).toList = us := by
  rw [pick_but_last, List.length_append, List.length_singleton, Nat.add_sub_cancel, List.take_left]
theorem ct_two {z x x₂ : Str} {pz2 pz px px₂ tp pn pos : Pos} {tk : Nat} {iter : Expr} {scope : Scope} {env : Env} {I D : Addr} : compTurn (.ListComp (.Name z pz2) [⟨.Tuple [.Name x px, .Name x₂ px₂] tk tp, iter, [], 0⟩, ⟨.Name z pz, .Name x₂ pn, [], 0⟩] scope pos) 0 (.ref I) (.ref D) env = (standAt iter.pos >>= fun _ => pyNext (.ref I) >>= fun r => match r with
      | none => pure (.done .next)
      | some v => letOwnedTupleGo (.Tuple [.Name x px, .Name x₂ px₂] tk tp) (.ref I) v >>= fun _ => assign (.Tuple [.Name x px, .Name x₂ px₂] tk tp) env v >>= fun _ => (eval (.Name x₂ pn) env >>= fun x' => standAt (Expr.Name x₂ pn).pos >>= fun _ => foldedSetIterable (.Name x₂ pn) env x' >>= fun x' => holding [x'] (pyIter x') >>= fun it =>
        runOwn (.compStart (.ListComp (.Name z pz2) [⟨.Tuple [.Name x px, .Name x₂ px₂] tk tp, iter, [], 0⟩, ⟨.Name z pz, .Name x₂ pn, [], 0⟩] scope pos) 1 it (.ref D) env) env >>= fun _ => pure ()) >>= fun _ =>
          again (.compLoop (.ListComp (.Name z pz2) [⟨.Tuple [.Name x px, .Name x₂ px₂] tk tp, iter, [], 0⟩, ⟨.Name z pz, .Name x₂ pn, [], 0⟩] scope pos) 0 (.ref I) (.ref D) env)) := by
  simp only [bind_assoc, pure_bind]
  rfl
theorem Cells.chainT {w : World} {news : Led} {v tv : Value} {us ds : List Value} {cs : Led} {ns : List Int} (h : Cells w v us tv cs) (hi : IntsAre us ns) (hs : ∀ p ∈ cs, p ∈ news) (k : ChainIn w news tv ds) : ChainIn w news v (us ++ ds) := by
  induction h generalizing ns with
  | nil => exact k
  | cons _ ih =>
    cases hi with
    | cons n t hi => exact .cons (hs _ (.head _)) (hs _ (.tail _ (.head _))) (ih hi (fun p hp => hs p (.tail _ (.tail _ hp))) k)
abbrev ToldApp (w : World) (us zs : List Value) (tv : Value) (news : Led) (r : Value) (n : Led) : Prop := ∃ ra cs, SeqIn w (cs ++ news) "list" (.ref ra) (us ++ zs) ∧ Cells w (.ref ra) us tv cs ∧ Apart cs news ∧ Told "told" (.ref ra) (cs ++ news) r n
def KToldApp (w : World) (us zs : List Value) (tv : Value) (news : Led) (P : Value → Led → Prop) : Prop :=
  ∀ ra cs o ko ts, SeqIn w (cs ++ news) "list" (.ref ra) (us ++ zs) → Cells w (.ref ra) us tv cs → Apart cs news → (∀ p ∈ cs ++ news, p.1 ≠ o) → P (.ref o) ((o, listOf [.str "told" ts, .ref ra].toArray ko) :: (cs ++ news))
theorem K_toldApp {w : World} {us zs : List Value} {tv : Value} {news : Led} : ∀ P, KToldApp w us zs tv news P → ∀ r n, ToldApp w us zs tv news r n → P r n := by
  rintro P h _ _ ⟨ra, cs, a, b, c, o, ko, ts, rfl, rfl, d⟩; exact h ra cs o ko ts a b c d
section
variable {w : World} {la : Addr} {ka : Nat} {xs : List RowD} {vals zs : List Value} {news : Led}
theorem told_vconcat {fs : List Value} (hla : (la, listOf vals.toArray ka) ∈ news) (hv : ValsIn w news xs vals) (hf : flatD xs = fs) (hb : fs.length ≤ 1000) :
    Ret w 45 450 (.ref 468) [.ref 399, .ref la] news (ToldNew w "vector" fs news) := by
  subst hf
  obtain ⟨rv, rfl, e, hl, hr⟩ := hv.rows
  rw [← e] at hb ⊢
  exact law_told_ok w 399 la news _ _ _ (keep_399 _) (vconcat_ok w rv la ka news hla hr hb) (by decide) (by decide)
theorem told_vcat_bad {t5 : Tok} (hla : (la, listOf (vals ++ [Value.int 5 t5]).toArray ka) ∈ news) (hv : ValsIn w news xs vals) (hb : (flatD xs).length ≤ 1000) :
    RetT w 45 450 (.ref 468) [.ref 399, .ref la] news (ToldS "wrong-type-argument" news) := by
  obtain ⟨rv, rfl, e, hl, hr⟩ := hv.rows
  rw [← e] at hb
  exact told_sig (keep_399 _) (vconcat_out w rv la ka news t5 hla hr hb) (by decide) (by decide)
theorem told_append {tv : Value} {ns : List Int} (hla : (la, listOf (vals ++ [tv]).toArray ka) ∈ news) (hv : ValsIn w news xs vals) (hb : (flatD xs).length ≤ 1000) (hl3 : xs.length ≤ 900) (hi : IntsAre (flatD xs) ns) (ht : SeqIn w news "list" tv zs) :
    Ret w 45 450 (.ref 468) [.ref 392, .ref la] news (ToldApp w (flatD xs) zs tv news) := by
  obtain ⟨rv, rfl, e, hl, hr⟩ := hv.rows
  refine (law_told_ok w 392 la news _ _ _ (keep_392 _) (append_ok w rv tv la ka news hla hr (by rw [e]; exact hb) (by omega)) (by decide) (by decide)).mono (Nat.le_refl _) (Nat.le_refl _) fun r n h => ?_
  obtain ⟨v, n2, ⟨cs, rfl, h1, h2⟩, h3⟩ := h
  rw [e] at h1
  have hc : SeqIn w (cs ++ news) "list" v (flatD xs ++ zs) := .list (h1.chainT hi (fun p hp => List.mem_append_left _ hp) ((ht.mono fun p hp => List.mem_append_right _ hp).apart rfl))
  obtain ⟨ra, rfl⟩ := hc.ref
  exact ⟨ra, cs, hc, h1, h2, h3⟩
theorem dat_snoc {n : Led} {ys : List Value} {ds : List Dat} {y : Value} {d : Dat} (h : DatAll n ys ds) (k : DatIn n y d) : DatAll n (ys ++ [y]) (ds ++ [d]) := by
  induction ys generalizing ds with
  | nil => cases h; exact .cons k .nil
  | cons y ys ih => cases h with | cons a b => exact .cons a (ih b)
theorem mem_in3 {a b c : Addr × Obj} {cs l : Led} : ∀ p ∈ a :: b :: c :: (cs ++ l), p ∈ cs ++ a :: b :: c :: l := fun p hp => by
  simp only [List.mem_cons, List.mem_append] at hp ⊢
  rcases hp with h | h | h | h | h <;> simp [h]
theorem off3_app {I C D : Addr} {oI oC oD : Obj} {cs l : Led} (hA : Apart cs ((I, oI) :: (C, oC) :: (D, oD) :: l)) (off : LCg.Off3 I C D l) : LCg.Off3 I C D (cs ++ l) := LCg.Off3.of fun p hp => by
  rcases List.mem_append.mp hp with h | h
  · exact ⟨hA p h _ (.head _), hA p h _ (.tail _ (.head _)), hA p h _ (.tail _ (.tail _ (.head _)))⟩
  · exact off.mem p h
end
theorem mem_in5 {a b c d e : Addr × Obj} {l : Led} : ∀ p ∈ a :: b :: c :: d :: e :: l, p ∈ d :: e :: a :: b :: c :: l := fun p hp => by
  simp only [List.mem_cons] at hp ⊢
  rcases hp with h | h | h | h | h | h <;> simp [h]
theorem off5 {I C D a b : Addr} {oI oC oD oa ob : Obj} {l : Led} (h1 : ∀ p ∈ (b, ob) :: (I, oI) :: (C, oC) :: (D, oD) :: l, p.1 ≠ a) (h2 : ∀ p ∈ (I, oI) :: (C, oC) :: (D, oD) :: l, p.1 ≠ b) (off : LCg.Off3 I C D l) : LCg.Off3 I C D ((a, oa) :: (b, ob) :: l) := LCg.Off3.of fun p hp => by
  rcases List.mem_cons.mp hp with rfl | hp
  · exact ⟨Ne.symm (h1 (I, oI) (.tail _ (.head _))), Ne.symm (h1 (C, oC) (.tail _ (.tail _ (.head _)))), Ne.symm (h1 (D, oD) (.tail _ (.tail _ (.tail _ (.head _)))))⟩
  · rcases List.mem_cons.mp hp with rfl | hp
    · exact ⟨Ne.symm (h2 (I, oI) (.head _)), Ne.symm (h2 (C, oC) (.tail _ (.head _))), Ne.symm (h2 (D, oD) (.tail _ (.tail _ (.head _))))⟩
    · exact off.mem p hp
example : True := by
  k_with "my_dats" => ((with_reducible refine' DatAll.mono ?s ?c; (case c => with_reducible assumption); (case s => (intro p9 hp9; k_mem))))
  trivial
example : True := by
  k_with "my_dok" => (with_reducible assumption)
  trivial
example : True := by
  k_with "@exec Assign cons ListComp" => (k_extra "my comp")
  trivial
example : True := by
  k_with "@subscriptTail Name Slice ref ref" => ((k_here; (with_reducible show wpAny _ _ (subscriptTail _ (PySem.Expr.Slice _ _ _ _) (Value.ref _) (Value.ref _)) _ _ _); k_dflt (refine' cut_led ?k1 ?k2 ?k3 ?k4 ?k5 ?k6 ?k7 ?_ ?ks ?kt; (case k1 => k_asm); (case k2 => k_asm); (case k3 => k_mem); (case k4 => k_extra "my_bound"); (case k5 => kmk_part); (case k6 => kmk_part); (case k7 => exact pick_init); (case ks => with_unfolding_all rfl); (case kt => kmk_pure); k_whole); intro l9 h9 F9 N9 o9; (try k_sweep)))
  trivial
example : True := by
  k_with "my_vals" => ((refine' ValsIn.mono ?c ?s; (case c => with_reducible assumption); (case s => (intro p9 hp9; k_mem))))
  trivial
example : True := by
  k_with "@compareOp Is ref ref" => (((with_reducible refine wpAny_is_ref_self ?_); (try dsimp only)))
  trivial
example : True := by
  k_with "@call ref" => ((k_here; (with_reducible show wpAny _ _ (call (Value.ref 468) [Value.ref 399, Value.ref _]) _ _ _); k_dflt ((refine' Ret.use (told_vconcat ?p1 ?p2 ?p4 ?p3) K_toldNew ?k1 ?k2 ?k3 ?k4 ?k5 ?kK ?kd ?ku ?_); k_extra "my_use"; (case p1 => k_mem); (case p2 => k_extra "my_vals"); (case p4 => with_reducible assumption); (case p3 => k_extra "my_bound"); refine fun v9 cs9 o9 ko9 ts9 hS9 hA9 hno9 h9 tk9 F9 N9 => ?_;  (try dsimp only); (try k_fold))))
  trivial
example : True := by
  k_with "@call ref" => ((k_here; (with_reducible show wpAny _ _ (call (Value.ref 468) [Value.ref 399, Value.ref _]) _ _ _); k_dflt ((refine' RetT.use (told_vcat_bad ?p1 ?p2 ?p3) K_sig ?k1 ?k2 ?k3 ?k4 ?k5 ?kK ?kd ?ku ?_); k_extra "my_use"; (case p1 => k_mem); (case p2 => k_extra "my_vals"); (case p3 => k_extra "my_bound"); clear fB fX fT; refine fun tk9 o9 ko9 ts9 hno9 h9 tk9 g9 R9 fB F9 N9 => ?_; k_extra "my_anew";  (try dsimp only); (try k_fold))))
  trivial
theorem joined_ok (w : World) (dk : Value) (ini : List RowD) (z : RowD) (ra : Addr) (kra : Nat) (news : Led) (hra : (ra, listOf ((ini ++ [z]).map RowD.ref).toArray kra) ∈ news) (hR : ∀ x ∈ ini ++ [z], x.In news) (hfew : (ini ++ [z]).length ≤ 8) :
    RetT w 90 900 (.ref 492) [dk, .ref ra] news (ValP (.bool true) news) := by
  have hall := flatD_ints hR
  have hlen := flatD_len hR
  k_extra "my_enterT"
  have hStopComp : StopComp := .mk
  k_steps
  unfold Halt
  rename Fr _ _ _ _ => lF
  rename News _ _ _ _ => lN
  refine Assign_comp2 (ax := ra) (vs := (ini ++ [z]).map RowD.ref) (k := kra) (fun i ys nw => ValsIn w nw ((ini ++ [z]).take i) ys ∧ ∃ cs, nw = cs ++ news) (fun I C D => eval _ (compEnvC _ _ C _) >>= fun x => call (.builtin "list.append") [.ref D, x] >>= fun _ => pure ()) lF lN rfl ?hev rfl rfl (by decide) rfl (by decide) rfl rfl (by decide) rfl rfl (fun I C D => rfl) ?jm ?jr ⟨.nil, [], rfl⟩ ?turn ?done
  case hev => exact nmL lF rfl rfl rfl rfl ⟨rfl, rfl⟩
  case jm => rintro i ys nw ⟨_, cs, rfl⟩; exact List.mem_append_right _ hra
  case jr =>
    rintro i ys nw ⟨_, cs, rfl⟩ hi
    have hx : (ini ++ [z])[i]? = some ((ini ++ [z])[i]'(by simpa using hi)) := List.getElem?_eq_getElem _
    refine ⟨_, _, _, _, by rw [List.getElem?_map, hx]; rfl, List.mem_append_right _ (hR _ (List.getElem_mem _)).2.1⟩
  case turn =>
    rintro g t i ys nw r v1 v2 kr I oI C oC D m₂ h tk E' hi ⟨hJ, cs, rfl⟩ hv hr hO e1 e2 F N off ne
    obtain ⟨x, hx, rfl, hso, hxr, hxn, hxi, hxb, hxl⟩ := RowD.at (fun x hx => (hR x hx).mono fun p hp => List.mem_append_right cs hp) hv
    obtain ⟨rfl, rfl⟩ := listOf_two (led_one N (.tail _ (.tail _ (.tail _ hr))) (.tail _ (.tail _ (.tail _ hxr))))
    have hyl : ys.length ≤ 1000 := by
      have q := hJ.length
      rw [List.length_take] at q
      omega
    clear lF lN
    refine em_one hyl hO ne.2.2 ne.2.1 ?_
    k_steps
    refine LCg.CompEnd.intro (by k_asm) (by k_asm) (cs9 ++ (cs ++ news)) mem_in3 (off3_app hA9 off) trivial ⟨?_, cs9 ++ cs, (List.append_assoc ..).symm⟩
    rw [List.take_add_one, hx]
    exact (hJ.mono fun p hp => List.mem_append_right _ hp).snoc (hS9.mono fun p hp => List.mem_append_left _ hp)
  case done =>
    rintro ys nw D h tk ⟨hJ, cs, rfl⟩ F N off
    rw [List.length_map, List.take_length] at hJ
    obtain ⟨us, v, rfl, hU, hV⟩ := hJ.split
    replace N : News g' L' h ((D, listOf (us ++ [v]).toArray (us ++ [v]).length) :: (cs ++ news)) := N
    replace F : Fr g' L' h _ := F
    clear lF lN
    generalize hnb : cs ++ news = nb at *
    have hsub : ∀ p ∈ news, p ∈ nb := fun p hp => hnb ▸ List.mem_append_right _ hp
    have hRb : ∀ x ∈ ini ++ [z], x.In nb := fun x hx => (hR x hx).mono hsub
    try dsimp only
    have hra2 := hsub _ hra
    have hStopComp : StopComp := .mk
    k_steps
    unfold Halt
    refine Assign_comp2 (ax := ra) (vs := (ini ++ [z]).map RowD.ref) (k := kra) (fun i ys nw => ys = flatD ((ini ++ [z]).take i) ∧ nw = (D, listOf (us ++ [v]).toArray (us ++ [v]).length) :: nb) _ F N rfl ?hev rfl rfl (by decide) rfl (by decide) rfl rfl (by decide) rfl rfl (fun I C D => ct_two) ?jm ?jr ⟨rfl, rfl⟩ ?turn ?done
    case hev => exact nmL F rfl rfl rfl rfl ⟨rfl, rfl⟩
    case jm => rintro i ys nw ⟨_, rfl⟩; exact .tail _ hra2
    case jr =>
      rintro i ys nw ⟨_, rfl⟩ hi
      have hx : (ini ++ [z])[i]? = some ((ini ++ [z])[i]'(by simpa using hi)) := List.getElem?_eq_getElem _
      refine ⟨_, _, _, _, by rw [List.getElem?_map, hx]; rfl, .tail _ (hRb _ (List.getElem_mem _)).2.1⟩
    case turn =>
      clear F N
      rintro g t i ys nw r v1 v2 kr I oI C oC D2 m₂ h tk E' hi ⟨rfl, rfl⟩ hv hr hO e1 e2 F N off ne
      obtain ⟨x, hx, rfl, hso, hxr, hxn, hxi, hxb, hxl⟩ := RowD.at (fun x hx => (hRb x hx).mono fun p hp => List.mem_cons_of_mem _ hp) hv
      obtain ⟨rfl, rfl⟩ := listOf_two (led_one N (.tail _ (.tail _ (.tail _ hr))) (.tail _ (.tail _ (.tail _ hxr))))
      have hyl : (flatD ((ini ++ [z]).take i)).length + x.vs.length ≤ 1000 := by
        have q := flatD_le_take (rows := ini ++ [z]) (i := i)
        omega
      refine em_two rfl rfl hyl hO e2 hxn rfl rfl rfl rfl rfl F N off ne ⟨(flatD_take hx).symm, rfl⟩
    case done =>
      clear F N
      rintro ys nw D2 h tk ⟨rfl, rfl⟩ F N off2
      rw [List.length_map, List.take_length, flatD_snoc] at N
      replace F : Fr g' L' h _ := F
      replace N : News g' L' h ((D2, listOf (flatD ini ++ z.vs).toArray (flatD ini ++ z.vs).length) :: (D, listOf (us ++ [v]).toArray (us ++ [v]).length) :: nb) := N
      have hfe := flatD_snoc ini z
      have hbJ : (flatD (ini ++ [z])).length ≤ 80 := by omega
      rw [hfe] at hall
      have hbA : (flatD ini ++ z.vs).length ≤ 80 := hfe ▸ hbJ
      have hbI : (flatD ini).length ≤ 80 := by
        have q := hbA
        rw [List.length_append] at q
        omega
      have hlI : ini.length ≤ 900 := by
        have q := hfew
        rw [List.length_append] at q
        omega
      have hiI := flatD_ints (rows := ini) fun x hx => hR x (List.mem_append_left _ hx)
      obtain ⟨hzso, hzr, hzn, hzi, hzb, hzl⟩ := hRb z (List.mem_append_right _ (.head _))
      have hra3 : (ra, listOf (ini.map RowD.ref ++ [Value.ref z.r]).toArray kra) ∈ nb := by simpa using hra2
      have hsl := hfill
      have hlU := hU.length
      have ezl : z.vs.length = z.ns.length := hzi.length
      try dsimp only
      have hStop392 : Stop392 := .mk
      k_steps
      unfold Halt
      obtain ⟨n1, lN1, hm1, hmD, hmD2, hsub1, hSL⟩ : ∃ n1, News g' L' h9 n1 ∧ (l9, listOf (us ++ [Value.ref v9]).toArray 0) ∈ n1 ∧ (D, listOf (us ++ [v]).toArray (us ++ [v]).length) ∈ n1 ∧ (D2, listOf (flatD ini ++ z.vs).toArray (flatD ini ++ z.vs).length) ∈ n1 ∧ (∀ p ∈ nb, p ∈ n1) ∧ SeqIn w n1 "list" (.ref v9) z.vs :=
        ⟨_, N9, by k_mem, by k_mem, by k_mem, by intro p9 hp9; k_mem, hS9.mono (by intro p9 hp9; k_mem)⟩
      clear N9
      refine Ret.use (told_append hm1 (hU.mono hsub1) (by omega) hlI hiI hSL) K_toldApp (by k_asm) (by k_asm) (by k_asm) lN1 (by k_asm) rfl (by ktr_room) (by ktr_units) ?_
      refine fun rA csA oA koA tsA hSA hCA hAA hnoA h9 tk9 F9 N9 => ?_
      obtain ⟨n2, lN2, hmA, hsubA, hsub2⟩ : ∃ n2, News g' L' h9 n2 ∧ (oA, listOf [.str "told" tsA, .ref rA].toArray koA) ∈ n2 ∧ (∀ p ∈ csA ++ n1, p ∈ n2) ∧ (∀ p ∈ nb, p ∈ n2) :=
        ⟨_, N9, .head _, fun p hp => .tail _ hp, fun p hp => .tail _ (List.mem_append_right _ (hsub1 p hp))⟩
      have hsubn : ∀ p ∈ n1, p ∈ n2 := fun p hp => hsubA p (List.mem_append_right _ hp)
      have hSA2 := hSA.mono hsubA
      have hCA2 : ∀ p ∈ csA, p ∈ n2 := fun p hp => hsubA p (List.mem_append_left _ hp)
      have hSL2 := hSL.mono hsubn
      have hJ2 := hJ.mono hsub2
      replace hmD := hsubn _ hmD
      replace hmD2 := hsubn _ hmD2
      replace hzn := hsub2 _ hzn
      replace hzr := hsub2 _ hzr
      replace hra3 := hsub2 _ hra3
      have hRn : ∀ x ∈ ini ++ [z], x.In n2 := fun x hx => (hRb x hx).mono hsub2
      clear N9 lN1 hSA hAA hnoA hra2 hSL
      try dsimp only
      (try k_fold)
      have hStopComp : StopComp := .mk
      k_steps
      replace N9 := News.sub (l' := n2) N9 (by intro p9 hp9; k_mem)
      have hRw : DatAll n2 (ini.map RowD.ref ++ [Value.ref z.r]) ((ini ++ [z]).map RowD.dat) := by
        have q := rows_dats hRn
        rwa [List.map_append] at q
      have hdok := rows_dok hRn
      unfold Halt
      have hStopSrc : StopSrc := .mk
      k_extra "my_comp"
      k_steps
      unfold Halt
      rename Fr _ _ _ _ => lF
      refine LCg.CompSrc.ledger (its := (us ++ [v]).toArray) rfl lF N9 hmD (by simp only [List.size_toArray, PySem.sizeLine_eq, List.length_append, List.length_cons, List.length_nil]; omega) (fun g => compJ (fun i ys nw => DatAll nw ys (((ini ++ [z]).take i).map RowD.dat) ∧ ∃ cs, nw = cs ++ n2) ?turn ?fin _ 0 [] _ (Nat.zero_add _) ⟨.nil, [], rfl⟩)
      case turn =>
        clear N9 lF
        rintro i ys nw y I oI C oC D3 m₂ h tk E' hi9 ⟨hDt, cs3, rfl⟩ hP ho hm F9 N9 off ne
        have hP' : (us ++ [v])[i]? = some y := by simpa using hP
        obtain ⟨x, hx, hsx⟩ := hJ2.at hP'
        have hxI := hRn x (List.mem_of_getElem? hx)
        have hxl : x.vs.length ≤ 10 := hxI.2.2.2.2.2
        k_steps
        rename News _ _ _ _ => lN3
        refine LCg.CompEnd.intro (by k_asm) lN3 _ mem_in5 (off5 hno9 hnl9 off) (.inr ⟨_, .tail _ (.tail _ (List.mem_append_right _ hmD)), rfl, _, rfl⟩) ⟨?_, _ :: _ :: cs3, rfl⟩
        rw [List.take_add_one, hx, List.map_append]
        exact dat_snoc (hDt.mono fun p hp => .tail _ (.tail _ hp)) (.list (.head _) (dat_row (.tail _ (.head _)) hxI.2.2.2.1))
      case fin =>
        clear N9 lF
        rintro ys nw ⟨hDt, cs3, rfl⟩
        rw [show (us ++ [v]).toArray.size = (ini ++ [z]).length by simp [hlU], List.take_length] at hDt
        intro D4 h tk F9 N9 o1
        replace N9 : News g' L' h ((D4, listOf ys.toArray ys.length) :: (cs3 ++ n2)) := N9
        try dsimp only
        have hStopLoop : StopLoop := .mk
        k_steps
        unfold Halt
        k_extra "my_range"
        have e0 := List.length_append (as := flatD ini) (bs := z.vs)
        refine' iter_rangeJ (n := (flatD ini).length) (news := n2) (fun i m' n' => ∃ av cs', Has m' [("here", .ref av), ("last", .ref v9), ("values", .ref D)] ∧ n' = n2 ∧ Cells w (.ref av) ((flatD ini).drop i) (.ref v9) cs' ∧ ∀ x ∈ cs', x ∈ n2) ?hh rgX ?hs ?hn lF' ?hN ?j0 ?turn ?done
        case hh => rfl
        case hs => exact small_one (by omega) (by omega) (by omega) (by omega)
        case hn => rw [rangeSize_nat]; omega
        case hN => exact News.sub lN' (by intro p9 hp9; k_mem)
        case j0 => exact ⟨rA, csA, ⟨rfl, rfl, rfl, trivial⟩, rfl, by rw [List.drop_zero]; exact hCA, hCA2⟩
        case turn =>
          intro I it i t m₁ n₁ h₁ tk₁ hi hJ ho F₁ N₁
          obtain ⟨av, cs', hM, hn, hC, hcs⟩ := hJ
          subst n₁
          obtain ⟨m₂, rfl⟩ := hM.ups
          replace F₁ : Fr g' L' h₁ _ := F₁
          replace N₁ : News g' L' h₁ _ := N₁
          rw [List.drop_eq_getElem_cons hi] at hC
          clear lF' lN' rgX
          cases hC with
          | cons hr =>
            obtain ⟨a', rfl⟩ := hr.ref ⟨_, rfl⟩
            have hx := hcs _ (.head _)
            have hdm := hcs _ (.tail _ (.head _))
            k_steps
            dsimp only [TurnP]
            exact TurnE.intro (by k_asm) (by k_asm) (fun p hp => hp) ho ⟨a', _, ⟨rfl, rfl, rfl, trivial⟩, rfl, hr, fun x hx => hcs _ (.tail _ (.tail _ hx))⟩
        case done =>
          intro m₁ n₁ h₁ tk₁ hJ F₁ N₁
          obtain ⟨av, cs', hM, hn, hC, hcs⟩ := hJ
          subst n₁
          obtain ⟨m₂, rfl⟩ := hM.ups
          replace F₁ : Fr g' L' h₁ _ := F₁
          replace N₁ : News g' L' h₁ _ := N₁
          rw [List.drop_length] at hC
          clear lF' lN' rgX
          cases hC
          try dsimp only
          k_steps
          refine hret _ _ _ news _ hR8 hB8 hF8 (News.sub hN8 ?es) ⟨rfl, rfl⟩
          case es =>
            intro p9 hp9
            have hp9 := hsub2 _ (hsub _ hp9)
            k_mem
def cnt (f l st : Int) : Nat := if st = 0 then 0 else ((l - f).fdiv st + 1).toNat
theorem cnt_pos {f l st : Int} {i : Nat} (h : 0 < st) : f + st * i ≤ l ↔ i < cnt f l st := by
  unfold cnt
  rw [if_neg (by omega), Int.fdiv_eq_ediv_of_nonneg _ (Int.le_of_lt h)]
  have q : (i : Int) ≤ (l - f) / st ↔ (i : Int) * st ≤ l - f := Int.le_ediv_iff_mul_le h
  rw [Int.mul_comm] at q
  omega
theorem cnt_neg {f l st : Int} {i : Nat} (h : st < 0) : l ≤ f + st * i ↔ i < cnt f l st := by
  unfold cnt
  rw [if_neg (by omega), ← Int.neg_fdiv_neg, Int.fdiv_eq_ediv_of_nonneg _ (by omega)]
  have q : (i : Int) ≤ (-(l - f)) / (-st) ↔ (i : Int) * (-st) ≤ -(l - f) := Int.le_ediv_iff_mul_le (by omega)
  rw [Int.mul_neg, Int.mul_comm] at q
  omega
theorem cnt_step {f st n : Int} {i : Nat} (h : n = f + st * (i : Int)) : n + st = f + st * ((i + 1 : Nat) : Int) := by
  rw [h, Int.natCast_add, Int.mul_add, Int.natCast_one, Int.mul_one, Int.add_assoc]
theorem cnt_num {f l st : Int} (h : f ≠ l) (h0 : st ≠ 0) : numSeq f l st = (List.range (cnt f l st)).map fun (i : Nat) => f + st * (i : Int) := by
  unfold numSeq cnt; rw [if_neg h, if_neg h0]
theorem cnt_le {f l st : Int} (h1 : -20 ≤ f) (h2 : f ≤ 20) (h3 : -20 ≤ l) (h4 : l ≤ 20) : cnt f l st ≤ 60 := by
  by_cases h0 : st = 0
  · unfold cnt; rw [if_pos h0]; omega
  · rcases Int.lt_or_gt_of_ne h0 with h | h
    · refine Nat.le_of_not_lt fun q => ?_
      have := (cnt_neg (f := f) (l := l) (i := 60) h).mpr q
      omega
    · refine Nat.le_of_not_lt fun q => ?_
      have := (cnt_pos (f := f) (l := l) (i := 60) h).mpr q
      omega
theorem count_way {f l st num : Int} {i : Nat} (h : num = f + st * (i : Int)) (hle : i ≤ cnt f l st) :
    (0 < st ∧ num ≤ l ∧ i < cnt f l st) ∨ (0 < st ∧ ¬ num ≤ l ∧ i = cnt f l st) ∨ (st < 0 ∧ l ≤ num ∧ i < cnt f l st) ∨ (st < 0 ∧ ¬ l ≤ num ∧ i = cnt f l st) ∨ (st = 0 ∧ i = cnt f l st) := by
  subst h
  rcases Int.lt_trichotomy st 0 with h | h | h
  · have q := cnt_neg (f := f) (l := l) (i := i) h
    by_cases hc : l ≤ f + st * (i : Int)
    · exact .inr (.inr (.inl ⟨h, hc, q.mp hc⟩))
    · exact .inr (.inr (.inr (.inl ⟨h, hc, by omega⟩)))
  · exact .inr (.inr (.inr (.inr ⟨h, by unfold cnt at hle ⊢; rw [if_pos h] at hle ⊢; omega⟩)))
  · have q := cnt_pos (f := f) (l := l) (i := i) h
    by_cases hc : f + st * (i : Int) ≤ l
    · exact .inl ⟨h, hc, q.mp hc⟩
    · exact .inr (.inl ⟨h, hc, by omega⟩)
theorem num_len {f l st : Int} (h1 : -20 ≤ f) (h2 : f ≤ 20) (h3 : -20 ≤ l) (h4 : l ≤ 20) : (numSeq f l st).length ≤ 61 := by
  by_cases h : f = l
  · unfold numSeq; rw [if_pos h, List.length_singleton]; omega
  · by_cases h0 : st = 0
    · unfold numSeq; rw [if_neg h, h0]; simp
    · rw [cnt_num h h0]
      have := cnt_le (f := f) (l := l) (st := st) h1 h2 h3 h4
      simp only [List.length_map, List.length_range]; omega
theorem rep_ints (n : Nat) (l : Int) (t : Tok) : IntsAre (List.replicate n (Value.int l t)) (List.replicate n l) := by
  induction n with
  | zero => exact .nil
  | succ n ih => rw [List.replicate_succ, List.replicate_succ]; exact .cons l t ih
theorem Fr.has {h₀ h : Heap} {L : Addr} {m : Str → Option Value} {l : List (String × Value)} (F : Fr h₀ L h m) (hm : Has m l) : ∃ m₂, Fr h₀ L h (ups l m₂) := ⟨m, hm.same ▸ F⟩
/-- between the turns of the counting loop -/
def CountJ (d : Addr) (f l st : Int) (tf tl ts : Tok) (nb : Led) (n : Nat) (m' : Str → Option Value) (n' : Led) : Prop :=
  ∃ i ys num tn, Has m' [("number", .int num tn), ("due", .ref d), ("first", .int f tf), ("last", .int l tl), ("step", .int st ts)] ∧ n' = (d, listOf ys.toArray ys.length) :: nb ∧ IntsAre ys ((List.range i).map fun (j : Nat) => f + st * (j : Int)) ∧ num = f + st * (i : Int) ∧ i ≤ cnt f l st ∧ n = 100 - i
def CountD (d : Addr) (f l st : Int) (tf tl ts : Tok) (nb : Led) (m' : Str → Option Value) (n' : Led) : Prop :=
  ∃ ys, Has m' [("due", .ref d), ("first", .int f tf), ("last", .int l tl), ("step", .int st ts)] ∧ n' = (d, listOf ys.toArray ys.length) :: nb ∧ ys.length ≤ 61 ∧ (l ≠ f → st ≠ 0 → IntsAre ys (numSeq f l st)) ∧ (l = f → IntsAre [Value.int f tf] (numSeq f l st)) ∧ (numSeq f l st).length ≤ 61 ∧ IntsAre (List.replicate st.toNat (Value.int l tl)) (List.replicate st.toNat l) ∧ IntsAre (List.replicate st.toNat [Value.int l tl]).flatten (List.replicate st.toNat l)
theorem CountD.mk {d : Addr} {f l st : Int} {tf tl ts : Tok} {nb : Led} {m' : Str → Option Value} {i : Nat} {ys : List Value} (h1 : -20 ≤ f) (h2 : f ≤ 20) (h3 : -20 ≤ l) (h4 : l ≤ 20) (hM : Has m' [("due", .ref d), ("first", .int f tf), ("last", .int l tl), ("step", .int st ts)])
    (hI : IntsAre ys ((List.range i).map fun (j : Nat) => f + st * (j : Int))) (hi : i = cnt f l st) : CountD d f l st tf tl ts nb m' ((d, listOf ys.toArray ys.length) :: nb) := by
  subst hi
  refine ⟨ys, hM, rfl, ?_, fun h h0 => ?_, fun h => ?_, num_len h1 h2 h3 h4, rep_ints _ _ _, ?_⟩
  · have := hI.length
    have := cnt_le (f := f) (l := l) (st := st) h1 h2 h3 h4
    simp at *; omega
  · rw [cnt_num (Ne.symm h) h0]; exact hI
  · unfold numSeq; rw [if_pos h.symm]; exact .cons f tf .nil
  · rw [← rep_flat']; exact rep_ints _ _ _
section
variable {prog : Program} {w : World} {A : Around} {E : Value → Shared → Prop} {s : Shared} {i j : Int} {t u : Tok} {Q : Value → Shared → Prop}
theorem ne_yes (h : i ≠ j) (q : Q (.bool true) s) : wpAny (model prog w) A (compareOp .NotEq (.int i t) (.int j u)) Q E s := PyProof.Rows.ne_int (by rw [bne_iff_ne.mpr h]; exact q)
theorem ne_no (h : i = j) (q : Q (.bool false) s) : wpAny (model prog w) A (compareOp .NotEq (.int i t) (.int j u)) Q E s := PyProof.Rows.ne_int (by rw [h, bne_self_eq_false]; exact q)
end
example : True := by
  k_with "@compareOp NotEq int int" => (k_dflt (first | with_reducible refine ne_yes (by omega) ?_ | with_reducible refine ne_no (by omega) ?_))
  trivial
abbrev ToldNum (w : World) (ns : List Int) (news : Led) (r : Value) (n : Led) : Prop := ∃ vs v n2, IntsAre vs ns ∧ NewSeq w "list" vs news v n2 ∧ Told "told" v n2 r n
def KToldNum (w : World) (ns : List Int) (news : Led) (P : Value → Led → Prop) : Prop :=
  ∀ vs v cs o ko ts, IntsAre vs ns → SeqIn w cs "list" (.ref v) vs → Apart cs news → (∀ p ∈ cs ++ news, p.1 ≠ o) → P (.ref o) ((o, listOf [.str "told" ts, .ref v].toArray ko) :: (cs ++ news))
theorem K_toldNum {w : World} {ns : List Int} {news : Led} : ∀ P, KToldNum w ns news P → ∀ r n, ToldNum w ns news r n → P r n := by
  rintro P h _ _ ⟨vs, v, n2, hi, ⟨cs, rfl, h1, h2⟩, o, ko, ts, rfl, rfl, h3⟩; obtain ⟨v, rfl⟩ := h1.ref; exact h vs v cs o ko ts hi h1 h2 h3
section
variable {w : World} {la : Addr} {ka : Nat} {f l st : Int} {tf tl ts : Tok} {news : Led}
theorem told_vec_ok {k : Int} {tk : Tok} {u : Int} {tu : Tok} (hla : (la, listOf [.int k tk, .int u tu].toArray ka) ∈ news) (h0 : 0 ≤ k) (h1 : k ≤ 1000) :
    Ret w 45 450 (.ref 468) [.ref 385, .ref la] news (ToldNew w "vector" (List.replicate k.toNat (.int u tu)) news) :=
  law_told_ok w 385 la news _ _ _ (keep_385 _) (make_vector_ok w k tk u tu la ka news hla h0 h1) (by decide) (by decide)
theorem told_num_same (hla : (la, listOf [.int f tf, .int l tl, .int st ts].toArray ka) ∈ news) (he : l = f) :
    Ret w 45 450 (.ref 468) [.ref 435, .ref la] news (ToldNum w (numSeq f l st) news) :=
  (law_told_ok w 435 la news _ _ _ (keep_435 _) (num_same w f l st tf tl ts la ka news hla he) (by decide) (by decide)).mono (Nat.le_refl _) (Nat.le_refl _) fun r n h => by
    obtain ⟨v, n2, ⟨vs, h1, h2⟩, h3⟩ := h
    exact ⟨vs, v, n2, h1, h2, h3⟩
theorem told_num_seq (hla : (la, listOf [.int f tf, .int l tl, .int st ts].toArray ka) ∈ news) (he : l ≠ f) (h0 : st ≠ 0) (hf1 : -10 ≤ f) (hf2 : f ≤ 10) (hl1 : -10 ≤ l) (hl2 : l ≤ 10) (hs1 : -10 ≤ st) (hs2 : st ≤ 10) :
    Ret w 45 450 (.ref 468) [.ref 435, .ref la] news (ToldNum w (numSeq f l st) news) :=
  (law_told_ok w 435 la news _ _ _ (keep_435 _) (num_seq w f l st tf tl ts la ka news hla he h0 hf1 hf2 hl1 hl2 hs1 hs2) (by decide) (by decide)).mono (Nat.le_refl _) (Nat.le_refl _) fun r n h => by
    obtain ⟨v, n2, ⟨vs, h1, h2⟩, h3⟩ := h
    exact ⟨vs, v, n2, h1, h2, h3⟩
/-- what is told of number-sequence -/
def NumTold (w : World) (f l st : Int) (cs : Led) (xs : List Value) : Prop :=
  ((st = 0 ∧ l ≠ f) ∧ Flat xs [.str "signal", .str "error"]) ∨ (¬ (st = 0 ∧ l ≠ f) ∧ ∃ t v vs, xs = [.str "told" t, .ref v] ∧ IntsAre vs (numSeq f l st) ∧ SeqIn w cs "list" (.ref v) vs)
abbrev NumP (w : World) (f l st : Int) (news : Led) (r : Value) (n : Led) : Prop := ∃ cs o ko xs, r = .ref o ∧ n = (o, listOf xs.toArray ko) :: (cs ++ news) ∧ NumTold w f l st cs xs ∧ Apart cs news ∧ ∀ p ∈ cs ++ news, p.1 ≠ o
def KNum (w : World) (f l st : Int) (news : Led) (P : Value → Led → Prop) : Prop := ∀ cs o ko xs, NumTold w f l st cs xs → Apart cs news → (∀ p ∈ cs ++ news, p.1 ≠ o) → P (.ref o) ((o, listOf xs.toArray ko) :: (cs ++ news))
theorem K_num {w : World} {f l st : Int} {news : Led} : ∀ P, KNum w f l st news P → ∀ r n, NumP w f l st news r n → P r n := by
  rintro P h _ _ ⟨cs, o, ko, xs, rfl, rfl, a, b, c⟩; exact h cs o ko xs a b c
theorem num_any (hla : (la, listOf [.int f tf, .int l tl, .int st ts].toArray ka) ∈ news) (hf1 : -10 ≤ f) (hf2 : f ≤ 10) (hl1 : -10 ≤ l) (hl2 : l ≤ 10) (hs1 : -10 ≤ st) (hs2 : st ≤ 10) :
    RetT w 45 450 (.ref 468) [.ref 435, .ref la] news (NumP w f l st news) := by
  by_cases he : st = 0 ∧ l ≠ f
  · refine (told_sig (keep_435 _) (num_err w f l st tf tl ts la ka news hla he.2 he.1) (by decide) (by decide)).mono fun r n h => ?_
    obtain ⟨tk, o, ko, t, e, e', hn⟩ := h
    exact ⟨[], o, ko, _, e, e', .inl ⟨he, .ss⟩, List.forall_mem_nil _, hn⟩
  · have R : Ret w 45 450 (.ref 468) [.ref 435, .ref la] news (ToldNum w (numSeq f l st) news) := by
      by_cases h : l = f
      · exact told_num_same hla h
      · exact told_num_seq hla h (fun q => he ⟨q, h⟩) hf1 hf2 hl1 hl2 hs1 hs2
    refine R.toT.mono fun r n h => ?_
    obtain ⟨vs, v, n2, hi, ⟨cs, rfl, h1, h2⟩, o, ko, t, e, e', hn⟩ := h
    obtain ⟨v, rfl⟩ := h1.ref
    exact ⟨cs, o, ko, _, e, e', .inr ⟨he, t, v, vs, rfl, hi, h1⟩, h2, hn⟩
end
example : True := by
  k_with "my_bound" => (first | with_reducible assumption | exact Nat.le_trans (by with_reducible assumption) (by decide) | omega | (simp only [List.length_append, List.length_cons, List.length_nil, List.length_take, List.length_drop, List.length_reverse, List.length_replicate]; omega))
  trivial
example : True := by
  k_with "@call ref" => ((k_here; (with_reducible show wpAny _ _ (call (Value.ref 468) [Value.ref 435, Value.ref _]) _ _ _); k_dflt ((refine' RetT.use (num_any ?p1 ?p2 ?p3 ?p4 ?p5 ?p6 ?p7) K_num ?k1 ?k2 ?k3 ?k4 ?k5 ?kK ?kd ?ku ?_); k_extra "my_use"; (case p1 => k_mem); (case p2 => k_extra "my_int"); (case p3 => k_extra "my_int"); (case p4 => k_extra "my_int"); (case p5 => k_extra "my_int"); (case p6 => k_extra "my_int"); (case p7 => k_extra "my_int"); clear fB fX fT; refine fun csN oN koN xsN hNT hAN hnoN h9 tk9 g9 R9 fB F9 N9 => ?_; k_extra "my_anew";  (try dsimp only); (try k_fold))))
  trivial
example : True := by
  k_with "@call ref" => ((k_here; (with_reducible show wpAny _ _ (call (Value.ref 468) [Value.ref 385, Value.ref _]) _ _ _); k_dflt ((refine' Ret.use (told_vec_ok ?p1 ?p2 ?p3) K_toldNew ?k1 ?k2 ?k3 ?k4 ?k5 ?kK ?kd ?ku ?_); k_extra "my_use"; (case p1 => k_mem); (case p2 => k_extra "my_int"); (case p3 => k_extra "my_int"); refine fun v9 cs9 o9 ko9 ts9 hS9 hA9 hno9 h9 tk9 F9 N9 => ?_;  (try dsimp only); (try k_fold))))
  trivial
example : True := by
  k_with "@call ref" => ((k_here; (with_reducible show wpAny _ _ (call (Value.ref 468) [Value.ref 385, Value.ref _]) _ _ _); k_dflt ((refine' RetT.use (told_sig (keep_385 _) (make_vector_neg _ _ _ _ _ _ _ ?p1 ?p2) (by decide) (by decide)) K_sig ?k1 ?k2 ?k3 ?k4 ?k5 ?kK ?kd ?ku ?_); k_extra "my_use"; (case p1 => k_mem); (case p2 => k_extra "my_int"); clear fB fX fT; refine fun tk9 o9 ko9 ts9 hno9 h9 tk9 g9 R9 fB F9 N9 => ?_; k_extra "my_anew";  (try dsimp only); (try k_fold))))
  trivial
section
variable {A : Around} {E : Value → Shared → Prop} {hS h₀ : Heap} {gS : Array GenState} {dS : Drawn} {tS : Nat} {oS : OsState} {L : Addr}
theorem test_join {M : Model} {x : Sem Bool} {c : Prop} [Decidable c] {Q : Bool → Shared → Prop} (h1 : wpAny M A x (fun v s' => ∃ tk', v = decide c ∧ s' = ⟨hS, gS, dS, tk', oS⟩) E ⟨hS, gS, dS, tS, oS⟩)
    (ht : c → ∀ tk', Q true ⟨hS, gS, dS, tk', oS⟩) (hf : ¬ c → ∀ tk', Q false ⟨hS, gS, dS, tk', oS⟩) : wpAny M A x Q E ⟨hS, gS, dS, tS, oS⟩ := by
  refine wpAny_mono h1 ?_ fun _ _ e => e
  rintro v s' ⟨tk', rfl, rfl⟩
  by_cases q : c
  · rw [decide_eq_true q]; exact ht q tk'
  · rw [decide_eq_false q]; exact hf q tk'
/-- a statement that may store a list of ints anew -/
def NumS (h₀ : Heap) (L : Addr) (gS : Array GenState) (dS : Drawn) (oS : OsState) (nw : Led) (C : List Value → Prop) (y : Str) (m : Str → Option Value) (f : Flow) (s' : Shared) : Prop :=
  ∃ D h' tk' zs k, f = .next ∧ s' = ⟨h', gS, dS, tk', oS⟩ ∧ Fr h₀ L h' (fun z => if z = y then some (.ref D) else m z) ∧ News h₀ L h' ((D, listOf zs.toArray k) :: nw) ∧ C zs
theorem NumS.mk {h' : Heap} {tk' : Nat} {y : Str} {m : Str → Option Value} {nw all : Led} {C : List Value → Prop} {D : Addr} {zs : List Value} {k : Nat} (F : Fr h₀ L h' (fun z => if z = y then some (.ref D) else m z)) (N : News h₀ L h' all) (sub : ∀ p ∈ (D, listOf zs.toArray k) :: nw, p ∈ all) (c : C zs) :
    NumS h₀ L gS dS oS nw C y m .next ⟨h', gS, dS, tk', oS⟩ := ⟨D, h', tk', zs, k, rfl, rfl, F, News.sub N sub, c⟩
theorem NumS.old {h' : Heap} {tk' : Nat} {y : Str} {m : Str → Option Value} {nw all : Led} {C : List Value → Prop} {D : Addr} {zs : List Value} {k : Nat} (F : Fr h₀ L h' m) (e : m y = some (.ref D)) (N : News h₀ L h' all) (sub : ∀ p ∈ (D, listOf zs.toArray k) :: nw, p ∈ all) (c : C zs) :
    NumS h₀ L gS dS oS nw C y m .next ⟨h', gS, dS, tk', oS⟩ := by
  have q : (fun z => if z = y then some (Value.ref D) else m z) = m := by funext z; split <;> simp_all
  exact ⟨D, h', tk', zs, k, rfl, rfl, q.symm ▸ F, News.sub N sub, c⟩
theorem num_cut {M : Model} {x : Sem Flow} (nw : Led) (C : List Value → Prop) (y : Str) {m : Str → Option Value} {Q : Flow → Shared → Prop} (_F : Fr h₀ L hS m)
    (h1 : wpAny M A x (NumS h₀ L gS dS oS nw C y m) E ⟨hS, gS, dS, tS, oS⟩)
    (h2 : ∀ D h' tk' zs k, Fr h₀ L h' (fun z => if z = y then some (.ref D) else m z) → News h₀ L h' ((D, listOf zs.toArray k) :: nw) → C zs → Q .next ⟨h', gS, dS, tk', oS⟩) : wpAny M A x Q E ⟨hS, gS, dS, tS, oS⟩ :=
  wpAny_mono h1 (by rintro v s' ⟨D, h', tk', xs, k, rfl, rfl, F, N, d⟩; exact h2 D h' tk' xs k F N d) fun _ _ e => e
end
theorem counted_ok (w : World) (k c : Addr) (p : Int) (tp : Tok) (kk kc : Nat) (cells : List Value) (rest : Led) (D : DeckOk c k cells) (hc : (c, listOf cells.toArray kc) ∈ rest) (hk9 : ∀ q ∈ rest, q.1 ≠ k) (hp0 : 0 ≤ p) (hp1 : p ≤ 1000) :
    RetT w 90 900 (.ref 499) [.ref k] ((k, deckO c p tp kk) :: rest) (fun r n' => r = .bool true) := by
  k_extra "my_enterT"
  have hStopWhile : StopWhile := .mk
  k_steps
  unfold Halt
  rename Fr _ _ _ _ => lF
  rename News _ _ _ _ => lN
  obtain ⟨f, l, st, tf, tl, ts, tn0, ⟨m₂, lF2⟩, b1, b2, b3, b4, b5, b6⟩ : ∃ f l st tf tl ts tn, (∃ m₂, Fr g' L' _ (ups [("number", .int f tn), ("due", .ref l9), ("first", .int f tf), ("last", .int l tl), ("step", .int st ts)] m₂)) ∧ -10 ≤ f ∧ f ≤ 10 ∧ -10 ≤ l ∧ l ≤ 10 ∧ -10 ≤ st ∧ st ≤ 10 :=
    ⟨_, _, _, _, _, _, _, Mine.Fr.has lF ⟨rfl, rfl, rfl, rfl, rfl, trivial⟩, by omega, by omega, by omega, by omega, by omega, by omega⟩
  clear lF
  replace lN := News.sub (l' := (l9, listOf [].toArray 0) :: ((k, deckO c (p + 1 + 1 + 1) tp8 kk8) :: rest)) lN (List.forall_mem_cons.mpr ⟨by k_mem, List.forall_mem_cons.mpr ⟨by k_mem, fun p9 hp9 => by k_mem⟩⟩)
  refine While_then (CountJ l9 f l st tf tl ts ((k, deckO c (p + 1 + 1 + 1) tp8 kk8) :: rest)) (CountD l9 f l st tf tl ts ((k, deckO c (p + 1 + 1 + 1) tp8 kk8) :: rest)) (n₀ := 100) lF2 lN ⟨0, [], _, _, ⟨rfl, rfl, rfl, rfl, rfl, trivial⟩, rfl, .nil, by simp, Nat.zero_le _, rfl⟩ ?turn ?done
  case turn =>
    intro n m₁ n₁ h₁ tk₁ F₁ N₁ hJ
    obtain ⟨i, ys, num, tn, hM, hn, hI, hnum, hle, rfl⟩ := hJ
    subst n₁
    obtain ⟨m₂, rfl⟩ := hM.ups
    clear lF2 lN
    have hcl := cnt_le (f := f) (l := l) (st := st) (by omega) (by omega) (by omega) (by omega)
    have hyl : ys.length ≤ 1000 := by
      have := hI.length
      simp at this; omega
    (try k_fold)
    refine test_join (c := i < cnt f l st) ?_ ?_ ?_
    · rcases count_way hnum hle with ⟨c1, c2, c3⟩ | ⟨c1, c2, c3⟩ | ⟨c1, c2, c3⟩ | ⟨c1, c2, c3⟩ | ⟨c1, c3⟩
      all_goals
        k_steps
        all_goals first | exact (decide_eq_true (by omega)).symm | exact (decide_eq_false (by omega)).symm
    · intro hlt tk7
      k_steps
      refine ⟨_, _, _, (l9, listOf (ys ++ [Value.int num tn]).toArray (ys.length + 1)) :: (k, deckO c (p + 1 + 1 + 1) tp8 kk8) :: rest, _, rfl, by k_asm, by k_asm, by omega, i + 1, ys ++ [Value.int num tn], _, _, ⟨rfl, rfl, rfl, rfl, rfl, trivial⟩, by rw [List.length_append]; rfl, ?_, cnt_step hnum, hlt, rfl⟩
      rw [List.range_succ, List.map_append]
      refine hI.append ?_
      show IntsAre [Value.int num tn] [f + st * (i : Int)]
      rw [← hnum]
      exact .cons _ _ .nil
    · intro hge tk7
      k_steps
      exact .mk (by k_asm) (by k_asm) (CountD.mk (by omega) (by omega) (by omega) (by omega) ⟨rfl, rfl, rfl, rfl, trivial⟩ hI (by omega))
  case done =>
    intro m₁ n₁ h₁ tk₁ F₁ N₁ hD
    obtain ⟨ys, hM, hn, hyl, hy1, hy2, hnl, hr1, hr2⟩ := hD
    subst n₁
    obtain ⟨m₂, rfl⟩ := hM.ups
    clear lF2 lN
    try dsimp only
    have hStopIf : StopIf := .mk
    k_steps
    unfold Halt
    rename Fr _ _ _ _ => lF
    rename News _ _ _ _ => lN
    (try k_fold)
    refine num_cut ((oN, listOf xsN.toArray koN) :: (csN ++ ((k, deckO c (p + 1 + 1 + 1) tp8 kk8) :: rest))) (fun zs => zs.length ≤ 61 ∧ (¬ (st = 0 ∧ l ≠ f) → IntsAre zs (numSeq f l st))) "due" lF ?_ ?_
    · by_cases hlf : l = f
      · k_steps
        exact .mk (by k_asm) (by k_asm) (by k_extra "my_keep") ⟨by show 1 ≤ 61; decide, fun _ => hy2 hlf⟩
      · k_steps
        exact .old (by k_asm) rfl (by k_asm) (by k_extra "my_keep") ⟨hyl, fun q => hy1 hlf fun e => q ⟨e, hlf⟩⟩
    clear lF lN hy1 hy2 hyl
    intro DD h9 tk9 zs kz F9 N9 hC
    have hzl := hC.1
    have hzi := hC.2
    try dsimp only
    have hStopIf : StopIf := .mk
    k_steps
    unfold Halt
    rename Fr _ _ _ _ => lF
    rename News _ _ _ _ => lN
    (try k_fold)
    refine skip_cut ((k, deckO c (p + 1 + 1 + 1) tp8 kk8) :: rest) lF ?_ ?_
    · rcases hNT with ⟨he, hf⟩ | ⟨he, t7, v7, vs7, rfl, hi7, hs7⟩
      · have he1 := he.1
        have he2 := he.2
        k_steps
        exact .mk (by k_asm) (by k_asm) (by k_extra "my_keep")
      · have hz7 := hzi he
        have hl7 := hi7.length
        by_cases hst : st = 0
        · have hlf : l = f := Classical.byContradiction fun q => he ⟨hst, q⟩
          k_steps
          exact .mk (by k_asm) (by k_asm) (by k_extra "my_keep")
        · k_steps
          exact .mk (by k_asm) (by k_asm) (by k_extra "my_keep")
    clear lF lN hNT hzi hzl hC
    intro h9 tk9 F9 N9
    try dsimp only
    by_cases hst : st < 0
    · k_steps
      all_goals k_extra "my_retT"
      all_goals exact rfl
    · k_steps
      all_goals k_extra "my_retT"
      all_goals exact rfl
section
variable {base h₁ h : Heap} {L : Addr} {m : Str → Option Value} {news : Led}
theorem Fr.down (F₀ : base.objs.size ≤ L) (S : base.StaysIn h₁) (F : Fr h₁ L h m) : Fr base L h m := ⟨F.ns, fun b o e => F.keep b o (S b o e), F₀⟩
theorem News.down (S : base.StaysIn h₁) (N : News h₁ L h news) : News base L h news := fun p hp => by
  obtain ⟨a, b, c⟩ := N p hp
  refine ⟨a, b, ?_⟩
  cases q : base.get? p.1 with
  | none => rfl
  | some o => rw [S _ _ q] at c; cases c
end
theorem RetT.top {w : World} {D U : Nat} {f : Value} {args : List Value} {news : Led} {post : Value → Led → Prop} {K : (Value → Led → Prop) → Prop} (R : RetT w D U f args news post) (hK : ∀ P, K P → ∀ r n, post r n → P r n)
    {mean : ExcName → Option Value} {mg mb : Str → Option Value} {dp un : Nat} {gd : Option (List Code)} {cn : Str} {cs : Scope} {a : Addr} {ccd : Value} {cl : List (Str × Addr)} {A₀ : Around} {base : Heap} {L : Addr} {m : Str → Option Value} {hS : Heap} {gS : Array GenState} {dS : Drawn} {tS : Nat} {oS : OsState} {Q E : Value → Shared → Prop}
    (B : Below A₀ base [] base) (F : Fr base L hS m) (XB : (hd.heap_39 w.params).In base) (N : News base L hS news) (TB : Top VW LO mean mg mb base) (hk : cs.kind = .function) (hdX : dp + D < recursionLimit) (hu : un + U < cLine)
    (k : K fun r n => ∀ h' tk', Fr base L h' m → News base L h' n → Q r ⟨h', gS, dS, tk', oS⟩) :
    wpAny (model PR w) (ktrTop dp un gd cn cs L a ccd cl []) (call f args) Q E ⟨hS, gS, dS, tS, oS⟩ :=
  R _ _ _ _ _ _ _ _ _ _ _ [] A₀ base base _ _ _ _ _ B F XB N TB hk hdX hu fun r h' tk' n' h₁ _ B' F' N' p => hK _ k r n' p h' tk' (Mine.Fr.down F.above B'.stays F') (Mine.News.down B'.stays N')
theorem RetS.use {w : World} {sa : Addr} {vals : List Value} {D U : Nat} {f : Value} {args : List Value} {news : Led} {post : Value → Led → Prop} {K : (Value → Led → Prop) → Prop} (R : RetS w sa vals D U f args news post) (hK : ∀ P, K P → ∀ r n, post r n → P r n)
    {mean : ExcName → Option Value} {mg mb : Str → Option Value} {dp un : Nat} {gd : Option (List Code)} {cn : Str} {cs : Scope} {a : Addr} {ccd : Value} {cl : List (Str × Addr)} {outer : List Env} {A₀ : Around} {base h₀ : Heap} {L : Addr} {m : Str → Option Value} {hS : Heap} {gS : Array GenState} {dS : Drawn} {tS : Nat} {oS : OsState} {Q E : Value → Shared → Prop}
    (B : Below A₀ base outer h₀) (F : Fr h₀ L hS m) (XB : (hd.heap_39 w.params).In base) (N : News h₀ L hS news) (TB : Top VW LO mean mg mb base) (hL : h₀.IsList sa vals.toArray) (hk : cs.kind = .function) (hdX : dp + D < recursionLimit) (hu : un + U < cLine)
    (k : K fun r n => ∀ h' tk', Fr h₀ L h' m → News h₀ L h' n → Q r ⟨h', gS, dS, tk', oS⟩) :
    wpAny (model PR w) (ktrTop dp un gd cn cs L a ccd cl outer) (call f args) Q E ⟨hS, gS, dS, tS, oS⟩ := R _ _ _ _ _ _ _ _ _ _ _ _ _ _ _ _ _ _ _ _ B F XB N TB hL hk hdX hu fun r h' tk' n F N p => hK _ k r n p h' tk' F N
def KDeckNew (news : Led) (P : Value → Led → Prop) : Prop := ∀ k c tp kk kc cells, DeckOk c k cells → (∀ q ∈ (c, listOf cells.toArray kc) :: news, q.1 ≠ k) → P (.ref k) ((k, deckO c 0 tp kk) :: (c, listOf cells.toArray kc) :: news)
theorem K_deckNew {news : Led} : ∀ P, KDeckNew news P → ∀ r n, DeckNew news r n → P r n := by
  rintro P h _ _ ⟨k, c, tp, kk, kc, cells, rfl, rfl, a, b⟩; exact h k c tp kk kc cells a b
def KTrueDeck (k c : Addr) (p : Int) (rest : Led) (P : Value → Led → Prop) : Prop := ∀ tp kk, P (.bool true) ((k, deckO c p tp kk) :: rest)
theorem K_trueDeck {k c : Addr} {p : Int} {rest : Led} : ∀ P, KTrueDeck k c p rest P → ∀ r n, (r = .bool true ∧ ∃ tp' kk', n = (k, deckO c p tp' kk') :: rest) → P r n := by
  rintro P h _ _ ⟨rfl, tp, kk, rfl⟩; exact h tp kk
def KTrue (P : Value → Led → Prop) : Prop := ∀ n, P (.bool true) n
theorem K_true : ∀ P, KTrue P → ∀ r (n : Led), r = Value.bool true → P r n := by rintro P h _ n rfl; exact h n
noncomputable def fPos (s : Stmt) : Pos := match s with
  | .FunctionDef _ _ _ _ _ _ _ _ _ p => p
  | _ => default
noncomputable def dLaw : DefRec := ⟨Str.ofString "law", hd.fPar (hd.stA 66), hd.fBody (hd.stA 66), hd.fScope (hd.stA 66), fPos (hd.stA 66)⟩
theorem law_def : defOf hd.view_39 PySem.Challenge.rw_np0060_01.row.name = some (dLaw, []) := by kernel_rfl
theorem law_the : PySem.Challenge.rw_np0060_01.row.prog.theDef PySem.Challenge.rw_np0060_01.row.name = some (dLaw.params, dLaw.body, dLaw.scope) := by kernel_rfl
theorem law_kw : kwWritten? dLaw.params.kwonlyargs dLaw.params.kw_defaults = some [] := by kernel_rfl
theorem law_wr : (!PySem.Challenge.rw_np0060_01.row.writes || (OpenRow.toRowW PySem.Challenge.rw_np0060_01.row).records.isEmpty) = true := by kernel_rfl
theorem body_as {M : Model} {A : Around} {body body' : List Stmt} {env : Env} {Q : Flow → Shared → Prop} {E : Value → Shared → Prop} {s : Shared} (hb : body = body') (h : wpAny M A (execs body' env) Q E s) : wpAny M A (execs body env) Q E s := hb ▸ h
abbrev ToldI (i : Int) (news : Led) (r : Value) (n : Led) : Prop := ∃ t, Told "told" (.int i t) news r n
def KToldI (i : Int) (news : Led) (P : Value → Led → Prop) : Prop := ∀ tk o ko ts, (∀ p ∈ news, p.1 ≠ o) → P (.ref o) ((o, listOf [.str "told" ts, .int i tk].toArray ko) :: news)
theorem K_toldI {i : Int} {news : Led} : ∀ P, KToldI i news P → ∀ r n, ToldI i news r n → P r n := by
  rintro P h _ _ ⟨tk, o, ko, ts, rfl, rfl, h1⟩; exact h tk o ko ts h1
theorem told_len {w : World} {so : String} {v : Value} {vs : List Value} {la : Addr} {ka : Nat} {news : Led} (hla : (la, listOf [v].toArray ka) ∈ news) (hs : SeqIn w news so v vs) (hb : vs.length ≤ 1000) :
    Ret w 45 450 (.ref 468) [.ref 350, .ref la] news (ToldI vs.length news) :=
  (law_told_ok w 350 la news _ _ _ (keep_350 _) (lisp_length_ok w so v vs la ka news hla hs hb) (by decide) (by decide)).mono (Nat.le_refl _) (Nat.le_refl _) fun r n h => by
    obtain ⟨v, n2, ⟨t, rfl, rfl⟩, h⟩ := h
    exact ⟨t, h⟩
example : True := by
  k_with "@call ref" => ((k_here; (with_reducible show wpAny _ _ (call (Value.ref 468) [Value.ref 350, Value.ref _]) _ _ _); k_dflt ((refine' Ret.use (told_len ?p1 ?p2 ?p3) K_toldI ?k1 ?k2 ?k3 ?k4 ?k5 ?kK ?kd ?ku ?_); k_extra "my_use"; (case p1 => k_mem); (case p2 => k_extra "my_seq"); (case p3 => k_extra "my_bound"); refine fun tk9 o9 ko9 ts9 hno9 h9 tk9 F9 N9 => ?_;  (try dsimp only); (try k_fold))))
  trivial
example : True := by
  k_with "@call ref" => (k_extra "my call")
  trivial
example : True := by
  k_with "@ktr_room" => (first | exact room_1 (by with_reducible assumption) (by decide) | exact room_0 (by with_reducible assumption) | decide +kernel)
  trivial
example : True := by
  k_with "@ktr_units" => (first | exact units_1 (by with_reducible assumption) (by decide) | decide +kernel)
  trivial
theorem sort_at {prog : Program} {w : World} {A : Around} {E : Value → Shared → Prop} {s : Shared} {h₀ : Heap} {L l : Addr} {news : Led} {value slice : PySem.Expr} {t1 t2 t3 : Tok} {n : Nat} {q : Int} {u : Tok} {Q : Value → Shared → Prop}
    (N : News h₀ L s.heap news) (hm : (l, listOf [Value.str (Str.ofString "list") t1, Value.str (Str.ofString "vector") t2, Value.str (Str.ofString "string") t3].toArray n) ∈ news) (h0 : 0 ≤ q) (h1 : q < 3) (h : ∀ so ts, Sort3 so → Q (.str (Str.ofString so) ts) s)
    (hs : subscripted slice false (.ref l) (.int q u) = operate [.ref l, .int q u] (getItem (.ref l) (.int q u)) := by with_unfolding_all rfl) :
    wpAny (model prog w) A (subscriptTail value slice (.ref l) (.int q u)) Q E s := by
  obtain ⟨so, ts, hso, hx⟩ : ∃ so ts, Sort3 so ∧ [Value.str (Str.ofString "list") t1, Value.str (Str.ofString "vector") t2, Value.str (Str.ofString "string") t3][q.toNat]? = some (Value.str (Str.ofString so) ts) := by
    have hq : q.toNat = 0 ∨ q.toNat = 1 ∨ q.toNat = 2 := by omega
    rcases hq with e | e | e <;> rw [e]
    · exact ⟨"list", t1, .inl rfl, rfl⟩
    · exact ⟨"vector", t2, .inr (.inl rfl), rfl⟩
    · exact ⟨"string", t3, .inr (.inr rfl), rfl⟩
  exact item_led N hm h0 (by omega) hx (h so ts hso) hs
example : True := by
  k_with "my_sortat" => ((k_here; (with_reducible show wpAny _ _ (subscriptTail (PySem.Expr.List _ _) _ (Value.ref _) (Value.int _ _)) _ _ _); k_dflt (refine' sort_at ?k1 ?k2 ?k3 ?k4 ?_ ?k6; (case k1 => k_asm); (case k2 => k_mem); (case k3 => k_extra "my_int"); (case k4 => k_extra "my_int"); (case k6 => with_unfolding_all rfl); k_whole); intro so9 ts9 hso9))
  trivial
example : True := by
  k_with "@call type:range" => ((k_here; k_dflt (refine' range1_rows ?k1 ?k2 ?_; (case k1 => k_asm); (case k2 => k_asm); k_whole); intro h9 tk9 t19 t29 t39 rg9 F9 N9 up9; (try clear up9)))
  trivial
example : True := by
  k_with "@exec For" => (k_extra "my for")
  trivial
example : True := by
  k_with "@exec For Tuple Name cons nil" => (k_extra "my for")
  trivial
example : True := by
  k_with "@subscriptTail" => (k_extra "my_sortat")
  trivial
example : True := by
  k_with "@subscriptTail List Call ref int" => (k_extra "my_sortat")
  trivial
theorem data_ne {h₀ h : Heap} {L a b : Addr} {news : Led} {o o' : Obj} {v : Option Value} {xs : Array Value} {n : Nat} (N : News h₀ L h news) (h1 : (a, o) ∈ news) (h2 : (b, o') ∈ news) (hs : o.data = .seq xs n) (hd : o'.data = .cell v) : @Ne Nat a b := fun e => by
  subst e; have q := led_one N h1 h2; subst q; rw [hs] at hd; cases hd
theorem ar_i {q : Int} {i : Nat} (h : i < (1 + q).toNat) (h' : q < 3) : i < 3 := by omega
theorem ar_p {p : Int} {i : Nat} (h : p ≤ 1 + 7 * (i : Int)) (h' : i < 3) : p ≤ 15 := by omega
theorem ar_q {p p' : Int} {j nq : Nat} (h : p' ≤ p + 2 + (j : Int)) (hj : j < nq) (hq : nq < 5) (hp : p ≤ 15) : p' ≤ 100000 := by omega
theorem ar_s {p p' : Int} {j : Nat} (h : p' ≤ p + 2 + (j : Int)) : p' + 1 ≤ p + 2 + ((j + 1 : Nat) : Int) := by omega
theorem ar_t {p p' : Int} {i n : Nat} (h1 : p' ≤ p + 2 + (n : Int)) (h2 : p ≤ 1 + 7 * (i : Int)) (h3 : n < 5) : p' ≤ 1 + 7 * ((i + 1 : Nat) : Int) := by omega
theorem ar_u {a n : Nat} (h : a = n) (h' : n < 5) : a ≤ 10 := by omega
theorem ar_v {a : Nat} {q : Int} (h : a = (1 + q).toNat) (h0 : 0 ≤ q) (h1 : q < 3) : 1 ≤ a ∧ a ≤ 3 := by omega
theorem ar_w {p q : Int} (h : p ≤ 1 + 7 * (((1 + q).toNat : Nat) : Int)) (h1 : q < 3) : p ≤ 30 := by omega
theorem ar_x {p : Int} (h : p ≤ 30) : p ≤ 30 + 3 * ((0 : Nat) : Int) := by omega
theorem ar_y {p : Int} {i : Nat} (h : p ≤ 30 + 3 * (i : Int)) (h' : i < 3) : p ≤ 40 := by omega
theorem ar_z {p : Int} {n : Nat} (h : p ≤ 30 + 3 * (n : Int)) (h' : n ≤ 3) : p ≤ 1000 := by omega
theorem ar_0 {p p2 : Int} (h : p + 1 + 1 = p2) (h' : 0 ≤ p) : 0 ≤ p2 ∧ p2 ≤ p + 2 + ((0 : Nat) : Int) := by omega
theorem ar_1 {p : Int} {i : Nat} (h : p ≤ 30 + 3 * (i : Int)) : p + 1 + 1 + 1 ≤ 30 + 3 * ((i + 1 : Nat) : Int) := by omega
theorem ar_2 {p : Int} (h : 0 ≤ p) : 0 ≤ p + 1 + 1 ∧ 0 ≤ p + 1 + 1 + 1 := by omega
theorem ar_3 {p : Int} (h : p ≤ 40) : p ≤ 1000 ∧ p + 1 + 1 ≤ 1000 := by omega
theorem fin : PySem.Challenge.rw_np0060_01.Holds := by
  refine holds_law hd.said (fun said => ?_)
  refine holds_open (q := hd.view_39) (loose := hd.loose) (Xt := fun s => xlAt hd.view_39 [] s && recOk (RowW.records (OpenRow.toRowW PySem.Challenge.rw_np0060_01.row)) s) (XP := XL hd.view_39 []) (Yf := Hook.obs hd.hook) (Ya := Hook.val hd.hook) (YP := Hook.says hd.hook) (N := 7000) hd.left (Hook.of hd.hook) (Hook.keeps hd.hook) (fun s e => xl_of s (Bool.and_eq_true_iff.mp e).1) XL.keeps law_def law_the law_kw (fun s e => recFacts_of (Bool.and_eq_true_iff.mp e).2) law_wr said hd.okX hd.bareX hd.wit ?hc
  k_fill
  intro w s₀ s1 mg mb G Y fa o pm cd doc dV kV ho hd hcd hD hmg hg args vals as hpre hlay hrd hwl hlo
  have KX := kIn_of Y
  have X := (Ground.X G).1
  have V := (Ground.X G).2
  refine Ground.open G ?_
  intro T B D TE TW
  try (refine guard_noD D (by decide +kernel) ?_; clear D)
  obtain ⟨_, _, M⟩ := bmod_of_top T
  have TA := at_of_top T
  try (obtain ⟨_, _, he, B0⟩ := based_of_top T rfl hmg ho hd; have he' : cd = _ := he; subst he'; clear he)
  clear hmg
  wrow_args hpre hlay hrd hwl hlo
  all_goals (
    first | refine callC_kw (enter_call ?_) | refine enter_call ?_ | refine callC_kw (enter_callW ?_) | refine enter_callW ?_ | w_how
    w_top on
    try refine codeAny_mono ?_ (fun _ _ g => GoodW.toG g)
    have K0 := below_caller (Top.heap T)
    w_call any ho hd hcd hD T F
    clear hd TA
    k_drop
    skip)
  refine body_as (by conv => lhs; whnf) ?_
  all_goals try k_fold
  have hStop440 : Stop440 := .mk
  k_steps
  unfold Halt
  rename World => w
  rename Shared => s1
  rename Below _ _ _ _ => K0
  rename Fr _ _ _ _ => F
  rename News _ _ _ _ => N
  rename Top _ _ _ _ _ _ => T
  rename Frag.In _ _ => KX
  rename IntsAre _ _ => hI
  rename Heap.IsList _ _ _ => hL
  rename CellsAre _ _ _ => hY
  rename ¬ _ => hlen
  have hlen9 := hI.length
  refine RetS.use (deck_ok w _ _ _ _ hI (by omega)) K_deckNew K0 F KX N T hL rfl (by decide +kernel) (by decide +kernel) ?_
  refine fun k c tp kk kc cells hdk hkn h9 tk9 F9 N9 => ?_
  have hk1 : @Ne Nat c k := hkn _ (.head _)
  have hk2 : @Ne Nat (s1.heap.objs.size + 1) k := hkn _ (.tail _ (.head _))
  rename (_ = Data.cell _) => hcd8
  have hk3 : @Ne Nat c (s1.heap.objs.size + 1) := data_ne N9 (.tail _ (.head _)) (.tail _ (.tail _ (.head _))) rfl hcd8
  clear hY hL hI
  try dsimp only
  (try k_fold)
  have hStop447 : Stop447 := .mk
  k_steps
  unfold Halt
  have hStopLoop : StopLoop := .mk
  rename Fr _ _ _ _ => F9
  rename News _ _ _ _ => N9
  obtain ⟨rl, hrl⟩ : ∃ rl, rl = l9 := ⟨_, rfl⟩
  subst hrl
  obtain ⟨tl, N9, hmc, hmcl, hkt, hrt⟩ : ∃ tl : Led, News s1.heap s1.heap.objs.size _ ((k, deckO c 0 tp kk) :: (rl, listOf (([] : List RowD).map RowD.ref).toArray 0) :: tl) ∧ (∃ oc, oc.data = Data.cell (some (.ref k)) ∧ (s1.heap.objs.size + 1, oc) ∈ tl) ∧ (c, listOf cells.toArray kc) ∈ tl ∧ (∀ q ∈ tl, q.1 ≠ k) ∧ (∀ q ∈ tl, q.1 ≠ rl) :=
    ⟨[(s1.heap.objs.size + 1, _), (c, listOf cells.toArray kc)], News.sub N9 (List.forall_mem_cons.mpr ⟨by k_mem, List.forall_mem_cons.mpr ⟨by k_mem, List.forall_mem_cons.mpr ⟨by k_mem, List.forall_mem_cons.mpr ⟨by k_mem, List.forall_mem_nil _⟩⟩⟩⟩), ⟨_, by assumption, .head _⟩, .tail _ (.head _),
      List.forall_mem_cons.mpr ⟨hk2, List.forall_mem_cons.mpr ⟨hk1, List.forall_mem_nil _⟩⟩, List.forall_mem_cons.mpr ⟨Nat.ne_of_lt (o9 _ (.tail _ (.tail _ (.head _)))), List.forall_mem_cons.mpr ⟨Nat.ne_of_lt (o9 _ (.tail _ (.head _))), List.forall_mem_nil _⟩⟩⟩
  obtain ⟨oc, hoc, hmc⟩ := hmc
  have hrk : @Ne Nat rl k := Nat.ne_of_gt (o9 _ (.head _))
  k_steps
  unfold Halt
  k_extra "my_range"
  refine' iter_rangeJ (n := (1 + q8).toNat) (fun i m' n' => ∃ (p : Int) (tp : Tok) (kk kr : Nat) (xs : List RowD) (tl' : Led), Has m' [("rows", .ref rl)] ∧ n' = (k, deckO c p tp kk) :: (rl, listOf (xs.map RowD.ref).toArray kr) :: tl' ∧ (∀ x ∈ tl, x ∈ tl') ∧ (∀ x ∈ xs, RowD.In tl' x) ∧ xs.length = i ∧ (∀ q ∈ tl', q.1 ≠ k) ∧ (∀ q ∈ tl', q.1 ≠ rl) ∧ 0 ≤ p ∧ p ≤ 1 + 7 * i) ?hh rgX ?hs ?hn lF' lN' ?j0 ?turn ?done
  case hh => exact rfl
  case hs => exact small_one (by omega) (by omega) (by omega) (by omega)
  case hn => rw [rangeSize_nat, Int.sub_zero]
  case j0 => exact ⟨_, _, _, _, [], tl, ⟨rfl, trivial⟩, rfl, fun _ h => h, List.forall_mem_nil _, rfl, hkt, hrt, by decide, by decide⟩
  case turn =>
    intro I it i t m₁ n₁ h₁ tk₁ hi hJ ho F₁ N₁
    obtain ⟨p, tp', kk', kr, xs, tl', hM, hn, hsub, hR, hxl, hk3, hr3, hp0, hp1⟩ := hJ
    subst n₁
    obtain ⟨m₂, rfl⟩ := hM.ups
    have hIk : @Ne Nat I k := Ne.symm (ho (k, _) (.head _))
    have hIr : @Ne Nat I rl := Ne.symm (ho (rl, _) (.tail _ (.head _)))
    have hmc' := hsub _ hmc
    have hmcl' := hsub _ hmcl
    have hi3 := ar_i hi hq82
    have hp15 := ar_p hp1 hi3
    have hxm : (xs.map RowD.ref).length ≤ 1000 := by rw [List.length_map, hxl]; exact Nat.le_of_lt (Nat.lt_trans hi3 (by decide))
    have hpa : p ≤ 100000 := Int.le_trans hp15 (by decide)
    have hpb : p + 1 ≤ 100000 := Int.le_trans (Int.add_le_add_right hp15 1) (by decide)
    clear lF' lN' rgX
    have hStopComp : StopComp := .mk
    k_steps
    unfold Halt
    k_extra "my_comp"
    have hStopSrc : StopSrc := .mk
    k_steps
    unfold Halt
    rename Fr _ _ _ _ => lF
    rename News _ _ _ _ => lN
    rename IsRange _ _ _ _ _ _ _ _ => rgX
    replace lN := News.sub (l' := (k, deckO c (p + 1 + 1) tp8 kk8) :: (I, it) :: (rl, listOf (xs.map RowD.ref).toArray kr) :: tl') lN (List.forall_mem_cons.mpr ⟨by k_mem, List.forall_mem_cons.mpr ⟨by k_mem, fun p9 hp9 => by k_mem⟩⟩)
    refine' LCg.CompSrc.range (n := q8.toNat) ?hh ?hF ?hN ?hr ?hsm ?hn ?hsz ?hk
    case hh => exact rfl
    case hF => exact lF
    case hN => exact lN
    case hr => exact rgX
    case hsm => exact small_one (by omega) (by omega) (by omega) (by omega)
    case hn => rw [rangeSize_nat, Int.sub_zero]
    case hsz => simp only [PySem.sizeLine_eq]; omega
    have hq5 : q8.toNat < 5 := by omega
    have hk4 : ∀ q ∈ (I, it) :: (rl, listOf (xs.map RowD.ref).toArray kr) :: tl', q.1 ≠ k := List.forall_mem_cons.mpr ⟨hIk, List.forall_mem_cons.mpr ⟨hrk, hk3⟩⟩
    clear lF rgX lN
    generalize q8.toNat = nq at hq5 ⊢
    generalize hp2 : p + 1 + 1 = p2
    refine fun g => compJ (fun i ys nw => ∃ (p' : Int) (tp' : Tok) (kk' : Nat) (ms : List Int), nw = (k, deckO c p' tp' kk') :: (I, it) :: (rl, listOf (xs.map RowD.ref).toArray kr) :: tl' ∧ IntsAre ys ms ∧ (∀ n ∈ ms, 0 ≤ n ∧ n ≤ 1000) ∧ ys.length = i ∧ 0 ≤ p' ∧ p' ≤ p + 2 + i) ?turn ?fin _ 0 [] _ (Nat.zero_add _) ⟨p2, _, _, [], rfl, .nil, List.forall_mem_nil _, rfl, (ar_0 hp2 hp0).1, (ar_0 hp2 hp0).2⟩
    case turn =>
      rintro j ys nw v I2 oI C oC D m₂ h tk E' hj9 ⟨p', tp', kk', ms, rfl, hys, hms, hyl, hp0', hp1'⟩ hP ho2 hm F9 N9 off ne
      clear hm ho2 hP
      have hpc := ar_q hp1' hj9 hq5 hp15
      have hz := off.mem (k, _) (.head _)
      have hz1 : @Ne Nat I2 k := Ne.symm hz.1
      have hz2 : @Ne Nat C k := Ne.symm hz.2.1
      have hz3 : @Ne Nat D k := Ne.symm hz.2.2
      k_steps
      refine LCg.CompEnd.intro (by k_asm) (by k_asm) _ (fun p hp => hp) (LCg.Off3.of fun x hx => ?_) trivial ⟨p' + 1, _, _, ms ++ [q8], rfl, hys.append (.cons _ _ .nil), fun n hn => ?_, by rw [List.length_append, hyl]; rfl, Int.le_trans hp0' (Int.le_add_of_nonneg_right (by decide)), ar_s hp1'⟩
      · rcases List.mem_cons.mp hx with rfl | hx
        · exact hz
        · exact off.mem x (.tail _ hx)
      · rcases List.mem_append.mp hn with hn | hn
        · exact hms n hn
        · rw [List.mem_singleton.mp hn]; omega
    case fin =>
      rintro ys nw ⟨p', tp', kk', ms, rfl, hys, hms, hyl, hp0', hp1'⟩
      intro D h tk F9 N9 o1
      have o9' := off_one o1
      have hD1 : @Ne Nat D k := Ne.symm (o9' (k, _) (.head _))
      have hD2 : @Ne Nat D I := Ne.symm (o9' (I, _) (.tail _ (.head _)))
      have hD3 : @Ne Nat D rl := Ne.symm (o9' (rl, _) (.tail _ (.tail _ (.head _))))
      replace N9 : News _ _ h ((D, listOf ys.toArray ys.length) :: (k, deckO c p' tp' kk') :: (I, it) :: (rl, listOf (xs.map RowD.ref).toArray kr) :: tl') := N9
      try dsimp only
      k_steps
      dsimp only [TurnP]
      have hmap : (xs ++ [RowD.mk l9 D 0 ys.length so9 ts9 ys ms]).map RowD.ref = xs.map RowD.ref ++ [Value.ref l9] := by rw [List.map_append]; rfl
      refine TurnE.intro (news' := (k, deckO c p' tp' kk') :: (rl, listOf (xs.map RowD.ref ++ [Value.ref l9]).toArray _) :: (l9, listOf [Value.str (Str.ofString so9) ts9, Value.ref D].toArray 0) :: (D, listOf ys.toArray ys.length) :: tl') (by k_asm) N9 (List.forall_mem_cons.mpr ⟨by k_mem, List.forall_mem_cons.mpr ⟨by k_mem, List.forall_mem_cons.mpr ⟨by k_mem, List.forall_mem_cons.mpr ⟨by k_mem, List.forall_mem_cons.mpr ⟨by k_mem, fun p9 hp9 => by k_mem⟩⟩⟩⟩⟩)
        (List.forall_mem_cons.mpr ⟨Ne.symm hIk, List.forall_mem_cons.mpr ⟨Ne.symm hIr, List.forall_mem_cons.mpr ⟨Nat.ne_of_gt (o9 _ (.tail _ (.tail _ (.head _)))), List.forall_mem_cons.mpr ⟨hD2, fun q hq => ho q (.tail _ (.tail _ hq))⟩⟩⟩⟩)
        ⟨p', tp', kk', _, xs ++ [RowD.mk l9 D 0 ys.length so9 ts9 ys ms], _, ⟨rfl, trivial⟩, by rw [hmap], fun x hx => .tail _ (.tail _ (hsub x hx)), fun x hx => ?_, by rw [List.length_append, hxl]; rfl,
          List.forall_mem_cons.mpr ⟨Nat.ne_of_gt (o9 _ (.tail _ (.head _))), List.forall_mem_cons.mpr ⟨hD1, hk3⟩⟩, List.forall_mem_cons.mpr ⟨Nat.ne_of_gt (o9 _ (.tail _ (.tail _ (.tail _ (.head _))))), List.forall_mem_cons.mpr ⟨hD3, hr3⟩⟩, hp0', ar_t hp1' hp1 hq5⟩
      rcases List.mem_append.mp hx with hx | hx
      · exact (hR x hx).mono fun q hq => .tail _ (.tail _ hq)
      · rw [List.mem_singleton.mp hx]
        exact ⟨hso9, .head _, .tail _ (.head _), hys, hms, ar_u hyl hq5⟩
  case done =>
    intro m₁ n₁ h₁ tk₁ hJ F₁ N₁
    obtain ⟨p, tp', kk', kr, xs, tl', hM, hn, hsub, hR, hxl, hk3, hr3, hp0, hp1⟩ := hJ
    subst n₁
    obtain ⟨m₂, rfl⟩ := hM.ups
    clear lF' lN' rgX
    obtain ⟨rest, hrest⟩ : ∃ rest, rest = (rl, listOf (xs.map RowD.ref).toArray kr) :: tl' := ⟨_, rfl⟩
    have hRr : ∀ x ∈ xs, x.In rest := hrest ▸ fun x hx => (hR x hx).mono fun q hq => .tail _ hq
    have hmr : (rl, listOf (xs.map RowD.ref).toArray kr) ∈ rest := hrest ▸ .head _
    have hkr : ∀ q ∈ rest, q.1 ≠ k := hrest ▸ List.forall_mem_cons.mpr ⟨hrk, hk3⟩
    have hmcr : (c, listOf cells.toArray kc) ∈ rest := hrest ▸ .tail _ (hsub _ hmcl)
    have hmor : (s1.heap.objs.size + 1, oc) ∈ rest := hrest ▸ .tail _ (hsub _ hmc)
    rw [← hrest] at N₁
    have hx1 := ar_v hxl hq81 hq82
    have hp3 := ar_w hp1 hq82
    clear hrest hR hsub hk3 hr3 hp1
    try dsimp only
    have hStopFor : StopFor := .mk
    k_steps
    unfold Halt
    rename Fr _ _ _ _ => lF
    rename News _ _ _ _ => lN
    refine For_pairs (ax := rl) (vs := xs.map RowD.ref) (k := kr) (fun i m' n' => ∃ (p' : Int) (tp : Tok) (kk : Nat), Has m' [("rows", .ref rl)] ∧ n' = (k, deckO c p' tp kk) :: rest ∧ 0 ≤ p' ∧ p' ≤ 30 + 3 * i) rfl lF lN ?hev rfl rfl rfl ?jm ?jr ⟨p, _, _, ⟨rfl, trivial⟩, rfl, hp0, ar_x hp3⟩ ?turn ?done
    case hev => exact nmL lF rfl rfl rfl rfl ⟨rfl, rfl⟩
    case jm => rintro i m n ⟨p', tp, kk, _, rfl, _⟩; exact .tail _ hmr
    case jr =>
      rintro i m n ⟨p', tp, kk, _, rfl, _⟩ hi
      have hx : xs[i]? = some (xs[i]'(by simpa using hi)) := List.getElem?_eq_getElem _
      exact ⟨_, _, _, _, by rw [List.getElem?_map, hx]; rfl, .tail _ (hRr _ (List.getElem_mem _)).2.1⟩
    case turn =>
      intro I it i r v1 v2 kr' m₁ n₁ h tk hi hv hr hJ ho F N
      obtain ⟨p', tp9, kk9, hM, hn, hp0', hp1'⟩ := hJ
      subst n₁
      obtain ⟨m₂, rfl⟩ := hM.ups
      obtain ⟨x, hx, rfl, hso, hxr, hxn, hxi, hxb, hxl9⟩ := RowD.at hRr hv
      obtain ⟨rfl, rfl⟩ := listOf_two (led_one N (.tail _ hr) (.tail _ (.tail _ hxr)))
      have hi3 : i < 3 := Nat.lt_of_lt_of_le (by rw [List.length_map] at hi; exact hi) hx1.2
      have hp40 := ar_y hp1' hi3
      have hIk : @Ne Nat I k := Ne.symm (ho (k, _) (.head _))
      clear lF lN
      have hStop482 : Stop482 := .mk
      k_steps
      unfold Halt
      rename News _ _ _ _ => lN
      replace lN := News.sub (l' := (k, deckO c p' tp9 kk9) :: (I, it) :: rest) lN (List.forall_mem_cons.mpr ⟨by k_mem, List.forall_mem_cons.mpr ⟨by k_mem, fun p9 hp9 => by k_mem⟩⟩)
      have hkI : ∀ q ∈ (I, it) :: rest, q.1 ≠ k := List.forall_mem_cons.mpr ⟨hIk, hkr⟩
      refine RetT.top (places_ok w _ _ _ _ _ _ _ _ _ _ _ _ _ ((I, it) :: rest) hso hdk (.tail _ hmcr) hkI (.tail _ hxn) hxi hxb (Nat.le_trans hxl9 (by decide)) hp0' (ar_3 hp40).1) K_trueDeck K0 (by k_asm) KX lN T rfl (by decide +kernel) (by decide +kernel) ?_
      clear lN
      refine fun tp8 kk8 h9 tk9 F9 N9 => ?_
      try dsimp only
      (try k_fold)
      have hStop482 : Stop482 := .mk
      k_steps
      unfold Halt
      rename News _ _ _ _ => lN
      refine RetT.top (changed_ok w _ _ _ _ _ _ _ _ _ _ _ _ _ ((I, it) :: rest) hso hdk (.tail _ hmcr) hkI (.tail _ hxn) hxi hxb (Nat.le_trans hxl9 (by decide)) (ar_2 hp0').1 (ar_3 hp40).2) K_trueDeck K0 (by k_asm) KX lN T rfl (by decide +kernel) (by decide +kernel) ?_
      clear lN
      refine fun tp8 kk8 h9 tk9 F9 N9 => ?_
      try dsimp only
      (try k_fold)
      k_steps
      dsimp only [TurnP]
      rename News _ _ _ _ => lN
      exact TurnE.intro (news' := (k, deckO c (p' + 1 + 1 + 1) tp8 kk8) :: rest) (by k_asm) lN (List.forall_mem_cons.mpr ⟨.tail _ (.head _), List.forall_mem_cons.mpr ⟨.head _, fun q hq => .tail _ (.tail _ hq)⟩⟩) (List.forall_mem_cons.mpr ⟨Ne.symm hIk, fun q hq => ho q (.tail _ hq)⟩) ⟨p' + 1 + 1 + 1, _, _, ⟨rfl, trivial⟩, rfl, (ar_2 hp0').2, ar_1 hp1'⟩
    case done =>
      intro m₁ n₁ h tk hJ F N
      obtain ⟨p', tp9, kk9, hM, hn, hp0', hp1'⟩ := hJ
      subst n₁
      obtain ⟨m₂, rfl⟩ := hM.ups
      clear lF lN
      have hp4 : p' ≤ 1000 := ar_z (by rw [List.length_map] at hp1'; exact hp1') hx1.2
      clear hp1'
      obtain ⟨ini, z, rfl⟩ : ∃ ini z, xs = ini ++ [z] := by
        rcases List.eq_nil_or_concat xs with e | ⟨ini, z, e⟩
        · rw [e] at hx1; exact absurd hx1.1 (by decide)
        · exact ⟨ini, z, by rw [e, List.concat_eq_append]⟩
      try dsimp only
      have hStop492 : Stop492 := .mk
      k_steps
      unfold Halt
      rename News _ _ _ _ => lN
      refine RetT.top (joined_ok w _ ini z _ _ _ (.tail _ hmr) (fun x hx => (hRr x hx).mono fun q hq => .tail _ hq) (by omega)) K_val K0 (by k_asm) KX lN T rfl (by decide +kernel) (by decide +kernel) ?_
      clear lN
      refine fun h9 tk9 F9 N9 => ?_
      try dsimp only
      (try k_fold)
      have hStop492 : Stop492 := .mk
      k_steps
      unfold Halt
      rename News _ _ _ _ => lN
      refine RetT.top (counted_ok w _ _ _ _ _ _ _ rest hdk hmcr hkr hp0' hp4) K_true K0 (by k_asm) KX lN T rfl (by decide +kernel) (by decide +kernel) ?_
      clear lN
      refine fun n9 h9 tk9 F9 N9 => ?_
      try dsimp only
      (try k_fold)
      k_steps
end Mine
theorem PySem.Challenge.cw_np0060_01_holds : PySem.Challenge.rw_np0060_01.Holds :=
  Mine.fin
